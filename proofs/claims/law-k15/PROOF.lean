import PyProof.Rows.All
import Wide.All
import OpenK.AllK
import Wide.FinOn
import HandS.ForMost
import HandS.Exc
import HandS.TryOnly
import HandS.ExcOwn
import HandS.ExcIs
import HandS.WordsExc
import HandS.More
import HandS.Wide
import HandS.SetKeys
import HandS.SortInts
import HandS.IsInst
import HandS.Conv
import HandS.Sort
import HandS.Walk
import HandS.Replace
import HandS.Codes
import HandS.EndBits
import KE.KDictSum
import PySem.Challenge.RW_findcourt_k15_bytes_of_pieces_looked_at
set_option Elab.async false
set_option linter.all false
set_option maxRecDepth 100000
set_option maxHeartbeats 4000000
/-! FCA: the text by places, callable defs with promises, the facts of the module. -/
namespace FC
open PySem PySem.Spec PyProof.Rows L2
/-- the i-th statement of the row's top -/
def topS (i : Nat) : Stmt := PySem.Challenge.pw_findcourt_k15_bytes_of_pieces_looked_at.main.body.getD i (.Pass ⟨0, 0, 0, 0⟩)

/-! ### built-in names -/
theorem boot_len : bootBuiltins "len" = some (.builtin "len") := by decide +kernel
theorem boot_all : bootBuiltins "all" = some (.builtin "all") := by decide +kernel
theorem boot_sum : bootBuiltins "sum" = some (.builtin "sum") := by decide +kernel
theorem boot_ord : bootBuiltins "ord" = some (.builtin "ord") := by decide +kernel
theorem boot_isinstance : bootBuiltins "isinstance" = some (.builtin "isinstance") := by decide +kernel
theorem boot_sorted : bootBuiltins "sorted" = some (.builtin "sorted") := by decide +kernel
theorem boot_int : bootBuiltins "int" = some (.type "int") := by decide +kernel
theorem boot_str : bootBuiltins "str" = some (.type "str") := by decide +kernel
theorem boot_bool : bootBuiltins "bool" = some (.type "bool") := by decide +kernel
theorem boot_list : bootBuiltins "list" = some (.type "list") := by decide +kernel
theorem boot_tuple : bootBuiltins "tuple" = some (.type "tuple") := by decide +kernel
theorem boot_dict : bootBuiltins "dict" = some (.type "dict") := by decide +kernel
theorem boot_ValueError : bootBuiltins "ValueError" = some (.type "ValueError") := by decide +kernel

/-! ### the addresses of the classes -/
structure Cl where
  (Piece ByteReader FindError NoField NoMake NoBytes NoDocument NoStamp NoPiece NoPattern NoLine NoText : Addr)

/-! ### a def, a method as the top has left it -/
def FnAt (K : PySem.W.Frag) (mg : Str → Option Value) (x : Str) (st : Stmt) (ps : List Str) : Prop :=
  ∃ f fd, Fun K x x st f fd ∧ mg x = some (.ref f) ∧ Binds K fd ps []
def MtAt (K : PySem.W.Frag) (C : Addr) (m qual : Str) (st : Stmt) (ps : List Str) : Prop :=
  ∃ f fd, Fun K m qual st f fd ∧ Meth K C m f ∧ Binds K fd ps []
def InitAt (K : PySem.W.Frag) (C : Addr) (qual : Str) (st : Stmt) (ps : List Str) : Prop :=
  ∃ f fd, Fun K "__init__" qual st f fd ∧ Mk K C f ∧ Binds K fd ps []
/-- a def, a method, a class that keeps a promise -/
def GFn (P : Program) (w : World) (K : PySem.W.Frag) (mg : Str → Option Value) (base : Heap) (CX : CXT) (k : Nat) (x : Str) (ps : List Str) (sp : Sp) : Prop :=
  ∃ f fd, mg x = some (.ref f) ∧ PySem.W.keepIn K (.ref f) = true ∧ Binds K fd ps [] ∧ FnOk P w K mg base CX k f fd ps sp
def GMt (P : Program) (w : World) (K : PySem.W.Frag) (mg : Str → Option Value) (base : Heap) (CX : CXT) (k : Nat) (C : Addr) (m : Str) (ps : List Str) (sp : Sp) : Prop :=
  ∃ f fd, Meth K C m f ∧ Binds K fd ps [] ∧ FnOk P w K mg base CX k f fd ps sp
def GIn (P : Program) (w : World) (K : PySem.W.Frag) (mg : Str → Option Value) (base : Heap) (CX : CXT) (k : Nat) (C : Addr) (ps : List Str) (sp : Sp) : Prop :=
  ∃ f fd, Mk K C f ∧ Binds K fd ps [] ∧ FnOk P w K mg base CX k f fd ps sp
section
variable {X : Cx} {CX : CXT} {k j : Nat} {x m : Str} {ps : List Str} {sp : Sp} {E : XK} {p pos apos : Pos} {e o : Expr} {es : List Expr} {t : TA} {ta : TE} {C : Addr}
theorem pe_g (g : GFn X.prog X.w X.K X.mg X.base CX k x ps sp) (hr : Room j X.A) (hg : Gl X x) (hx : Passes CX X E) (ha : PA X (e :: es) t) (hk : k ≤ j := by decide) (hdb : (x == ("__debug__" : Str)) = false := by decide)
    (he : starEach (e :: es) X.env = (false, eval e X.env) :: starEach es X.env := by rfl) (hpl : (backTo pos (starEach es X.env)).any (·.1) = false := by rfl) : PE X (.Call (.Name x p) (e :: es) [] pos) (tCall sp [] E t) := by
  obtain ⟨f, fd, hm, hkp, hb, F⟩ := g
  exact pe_call F (hr.mono hk) hg hm hkp hb .nil hx ha hdb he hpl
theorem pe_g0 (g : GFn X.prog X.w X.K X.mg X.base CX k x ps sp) (hr : Room j X.A) (hg : Gl X x) (hx : Passes CX X E) (hk : k ≤ j := by decide) (hdb : (x == ("__debug__" : Str)) = false := by decide) :
    PE X (.Call (.Name x p) [] [] pos) (tCall sp [] E tNil) := by
  obtain ⟨f, fd, hm, hkp, hb, F⟩ := g
  exact pe_call0 F (hr.mono hk) hg hm hkp hb .nil hx hdb
theorem pe_gm {pl : Sem Bool} (he : PE X o ta) (c : Cls X.K C) (g : GMt X.prog X.w X.K X.mg X.base CX k C m ps sp) (hr : Room j X.A) (hx : Passes CX X E) (ha : PA X (e :: es) t) (hk : k ≤ j := by decide)
    (hst : starEach (e :: es) X.env = (false, eval e X.env) :: starEach es X.env := by rfl) (hpl : (backTo pos (starEach es X.env)).any (·.1) = false := by rfl)
    (ht : eval (.Call (.Attribute o m apos) (e :: es) [] pos) X.env = (do
      let ov ← eval o X.env
      standAt apos.atName
      let (f, first) ← holding [ov] (getMethod ov m pl)
      callWith pos f first (backTo pos (starEach (e :: es) X.env)) (backToKw pos (keywordEach [] X.env))) := by rfl) :
    PE X (.Call (.Attribute o m apos) (e :: es) [] pos) (tMeth C m sp [] E ta t) := by
  obtain ⟨f, fd, hm, hb, F⟩ := g
  exact pe_meth he c hm F (hr.mono hk) hb .nil hx ha hst hpl ht
theorem pe_gm0 {pl : Sem Bool} (he : PE X o ta) (c : Cls X.K C) (g : GMt X.prog X.w X.K X.mg X.base CX k C m ps sp) (hr : Room j X.A) (hx : Passes CX X E) (hk : k ≤ j := by decide)
    (ht : eval (.Call (.Attribute o m apos) [] [] pos) X.env = (do
      let ov ← eval o X.env
      standAt apos.atName
      let (f, first) ← holding [ov] (getMethod ov m pl)
      callWith pos f first (backTo pos (starEach [] X.env)) (backToKw pos (keywordEach [] X.env))) := by rfl) :
    PE X (.Call (.Attribute o m apos) [] [] pos) (tMeth C m sp [] E ta tNil) := by
  obtain ⟨f, fd, hm, hb, F⟩ := g
  exact pe_meth0 he c hm F (hr.mono hk) hb .nil hx ht
theorem pe_gmake (g : GIn X.prog X.w X.K X.mg X.base CX k C ps sp) (hr : Room j X.A) (hg : Gl X x) (hm : X.mg x = some (.ref C)) (hx : Passes CX X E) (ha : PA X (e :: es) t) (hk : k + 1 ≤ j := by decide) (hdb : (x == ("__debug__" : Str)) = false := by decide)
    (he : starEach (e :: es) X.env = (false, eval e X.env) :: starEach es X.env := by rfl) (hpl : (backTo pos (starEach es X.env)).any (·.1) = false := by rfl) : PE X (.Call (.Name x p) (e :: es) [] pos) (tMake C sp [] E t) := by
  obtain ⟨f, fd, M, hb, F⟩ := g
  exact pe_make M F (hr.mono hk) hg hm hb .nil hx ha hdb he hpl
/-- a text, a class of the module -/
theorem pe_gstr {z : Str} (hg : Gl X x) (hm : ∃ t, X.mg x = some (.str z t)) (hd : (x == ("__debug__" : Str)) = false := by decide) : PE X (.Name x pos) (tC (.str z)) := by
  obtain ⟨t, hm⟩ := hm
  exact pe_glob hg hm ⟨t, rfl⟩ hd
theorem pe_gref (hg : Gl X x) (hm : X.mg x = some (.ref C)) (hd : (x == ("__debug__" : Str)) = false := by decide) : PE X (.Name x pos) (tC (.ref C)) := pe_glob hg hm rfl hd
end
end FC
/-! FCT: the defs by their places, their scopes, the facts of the module (printed by gentxt.py). -/
namespace FC
open PySem PySem.Spec PyProof.Rows L2
abbrev s_is_name : Stmt := topS 15
theorem sc_is_name : FnScope ["text", "sign"] ["text"] (defScope s_is_name) := ⟨rfl, rfl, rfl, by decide +kernel, rfl, by decide +kernel, by decide +kernel⟩
abbrev s_is_word : Stmt := topS 16
theorem sc_is_word : FnScope ["text", "sign"] ["text"] (defScope s_is_word) := ⟨rfl, rfl, rfl, by decide +kernel, rfl, by decide +kernel, by decide +kernel⟩
abbrev s_look_at_makes : Stmt := topS 21
theorem sc_look_at_makes : FnScope ["makes", "last", "place", "make", "document"] ["makes"] (defScope s_look_at_makes) := ⟨rfl, rfl, rfl, by decide +kernel, rfl, by decide +kernel, by decide +kernel⟩
abbrev s_copied_postings : Stmt := topS 23
theorem sc_copied_postings : FnScope ["postings", "make", "places"] ["postings"] (defScope s_copied_postings) := ⟨rfl, rfl, rfl, by decide +kernel, rfl, by decide +kernel, by decide +kernel⟩
abbrev s_Piece__init_ : Stmt := inClass (topS 24) 0
theorem sc_Piece__init_ : FnScope ["self", "makes", "make", "document", "field", "many", "places"] ["self", "makes"] (defScope s_Piece__init_) := ⟨rfl, rfl, rfl, by decide +kernel, rfl, by decide +kernel, by decide +kernel⟩
abbrev s_Piece_makes : Stmt := inClass (topS 24) 2
theorem sc_Piece_makes : FnScope ["self"] ["self"] (defScope s_Piece_makes) := ⟨rfl, rfl, rfl, by decide +kernel, rfl, by decide +kernel, by decide +kernel⟩
abbrev s_Piece_fields : Stmt := inClass (topS 24) 3
theorem sc_Piece_fields : FnScope ["self"] ["self"] (defScope s_Piece_fields) := ⟨rfl, rfl, rfl, by decide +kernel, rfl, by decide +kernel, by decide +kernel⟩
abbrev s_Piece_words : Stmt := inClass (topS 24) 4
theorem sc_Piece_words : FnScope ["self", "field"] ["self", "field"] (defScope s_Piece_words) := ⟨rfl, rfl, rfl, by decide +kernel, rfl, by decide +kernel, by decide +kernel⟩
abbrev s_Piece_postings : Stmt := inClass (topS 24) 5
theorem sc_Piece_postings : FnScope ["self", "field", "word"] ["self", "field", "word"] (defScope s_Piece_postings) := ⟨rfl, rfl, rfl, by decide +kernel, rfl, by decide +kernel, by decide +kernel⟩
abbrev s_Piece_length : Stmt := inClass (topS 24) 6
theorem sc_Piece_length : FnScope ["self", "make", "field"] ["self", "make", "field"] (defScope s_Piece_length) := ⟨rfl, rfl, rfl, by decide +kernel, rfl, by decide +kernel, by decide +kernel⟩
abbrev s_number_bytes : Stmt := topS 27
theorem sc_number_bytes : FnScope ["number", "found"] ["number"] (defScope s_number_bytes) := ⟨rfl, rfl, rfl, by decide +kernel, rfl, by decide +kernel, by decide +kernel⟩
abbrev s_text_bytes : Stmt := topS 28
theorem sc_text_bytes : FnScope ["text", "sign"] ["text"] (defScope s_text_bytes) := ⟨rfl, rfl, rfl, by decide +kernel, rfl, by decide +kernel, by decide +kernel⟩
abbrev s_places_bytes : Stmt := topS 29
theorem sc_places_bytes : FnScope ["places", "found", "last", "place"] ["places"] (defScope s_places_bytes) := ⟨rfl, rfl, rfl, by decide +kernel, rfl, by decide +kernel, by decide +kernel⟩
abbrev s_postings_bytes : Stmt := topS 30
theorem sc_postings_bytes : FnScope ["postings", "found", "last", "make", "places"] ["postings"] (defScope s_postings_bytes) := ⟨rfl, rfl, rfl, by decide +kernel, rfl, by decide +kernel, by decide +kernel⟩
abbrev s_field_bytes : Stmt := topS 31
theorem sc_field_bytes : FnScope ["piece", "field", "found", "make", "words", "word"] ["piece", "field"] (defScope s_field_bytes) := ⟨rfl, rfl, rfl, by decide +kernel, rfl, by decide +kernel, by decide +kernel⟩
abbrev s_piece_bytes : Stmt := topS 32
theorem sc_piece_bytes : FnScope ["piece", "makes", "fields", "found", "field"] ["piece"] (defScope s_piece_bytes) := ⟨rfl, rfl, rfl, by decide +kernel, rfl, by decide +kernel, by decide +kernel⟩
abbrev s_ByteReader__init_ : Stmt := inClass (topS 33) 0
theorem sc_ByteReader__init_ : FnScope ["self", "row", "sign"] ["self", "row"] (defScope s_ByteReader__init_) := ⟨rfl, rfl, rfl, by decide +kernel, rfl, by decide +kernel, by decide +kernel⟩
abbrev s_ByteReader_sure : Stmt := inClass (topS 33) 1
theorem sc_ByteReader_sure : FnScope ["self", "good"] ["self", "good"] (defScope s_ByteReader_sure) := ⟨rfl, rfl, rfl, by decide +kernel, rfl, by decide +kernel, by decide +kernel⟩
abbrev s_ByteReader_next_byte : Stmt := inClass (topS 33) 2
theorem sc_ByteReader_next_byte : FnScope ["self", "byte"] ["self"] (defScope s_ByteReader_next_byte) := ⟨rfl, rfl, rfl, by decide +kernel, rfl, by decide +kernel, by decide +kernel⟩
abbrev s_ByteReader_next_number : Stmt := inClass (topS 33) 3
theorem sc_ByteReader_next_number : FnScope ["self", "parts", "byte", "part"] ["self"] (defScope s_ByteReader_next_number) := ⟨rfl, rfl, rfl, by decide +kernel, rfl, by decide +kernel, by decide +kernel⟩
abbrev s_ByteReader_next_rising : Stmt := inClass (topS 33) 4
theorem sc_ByteReader_next_rising : FnScope ["self", "many", "found", "step"] ["self", "many"] (defScope s_ByteReader_next_rising) := ⟨rfl, rfl, rfl, by decide +kernel, rfl, by decide +kernel, by decide +kernel⟩
abbrev s_ByteReader_next_text : Stmt := inClass (topS 33) 5
theorem sc_ByteReader_next_text : FnScope ["self", "many", "found", "byte"] ["self"] (defScope s_ByteReader_next_text) := ⟨rfl, rfl, rfl, by decide +kernel, rfl, by decide +kernel, by decide +kernel⟩
abbrev s_ByteReader_next_postings : Stmt := inClass (topS 33) 6
theorem sc_ByteReader_next_postings : FnScope ["self", "many", "found", "last", "step", "places"] ["self"] (defScope s_ByteReader_next_postings) := ⟨rfl, rfl, rfl, by decide +kernel, rfl, by decide +kernel, by decide +kernel⟩
abbrev s_ByteReader_next_words : Stmt := inClass (topS 33) 7
theorem sc_ByteReader_next_words : FnScope ["self", "many", "found", "last", "word"] ["self"] (defScope s_ByteReader_next_words) := ⟨rfl, rfl, rfl, by decide +kernel, rfl, by decide +kernel, by decide +kernel⟩
abbrev s_ByteReader_next_field : Stmt := inClass (topS 33) 8
theorem sc_ByteReader_next_field : FnScope ["self", "piece", "last", "field", "lengths", "make", "words", "many"] ["self", "piece", "last"] (defScope s_ByteReader_next_field) := ⟨rfl, rfl, rfl, by decide +kernel, rfl, by decide +kernel, by decide +kernel⟩
abbrev s_ByteReader_sure_filled : Stmt := inClass (topS 33) 9
theorem sc_ByteReader_sure_filled : FnScope ["self", "lengths", "words", "held", "word", "make", "places", "many"] ["self", "lengths", "words"] (defScope s_ByteReader_sure_filled) := ⟨rfl, rfl, rfl, by decide +kernel, rfl, by decide +kernel, by decide +kernel⟩
abbrev s_ByteReader_next_piece : Stmt := inClass (topS 33) 10
theorem sc_ByteReader_next_piece : FnScope ["self", "piece", "many", "last"] ["self"] (defScope s_ByteReader_next_piece) := ⟨rfl, rfl, rfl, by decide +kernel, rfl, by decide +kernel, by decide +kernel⟩
abbrev s_ByteReader_ended : Stmt := inClass (topS 33) 11
theorem sc_ByteReader_ended : FnScope ["self", "told"] ["self", "told"] (defScope s_ByteReader_ended) := ⟨rfl, rfl, rfl, by decide +kernel, rfl, by decide +kernel, by decide +kernel⟩
abbrev s_read_piece : Stmt := topS 34
theorem sc_read_piece : FnScope ["row", "reader"] ["row"] (defScope s_read_piece) := ⟨rfl, rfl, rfl, by decide +kernel, rfl, by decide +kernel, by decide +kernel⟩
abbrev s__law_draws : Stmt := topS 36
theorem sc__law_draws : FnScope ["_law_script", "_law_turn", "_law_many", "_law_cells", "_law_found", "_law_left", "_law_k", "_law_at", "_law_place", "_law_number", "_law_cell"] ["_law_script", "_law_turn", "_law_many"] (defScope s__law_draws) := ⟨rfl, rfl, rfl, by decide +kernel, rfl, by decide +kernel, by decide +kernel⟩
abbrev s__law_pop : Stmt := topS 37
theorem sc__law_pop : FnScope ["_law_draws_here"] ["_law_draws_here"] (defScope s__law_pop) := ⟨rfl, rfl, rfl, by decide +kernel, rfl, by decide +kernel, by decide +kernel⟩
abbrev s__law_alike : Stmt := topS 38
theorem sc__law_alike : FnScope ["_law_found", "_law_due", "_law_k"] ["_law_found", "_law_due"] (defScope s__law_alike) := ⟨rfl, rfl, rfl, by decide +kernel, rfl, by decide +kernel, by decide +kernel⟩
abbrev s__law_signs : Stmt := topS 39
theorem sc__law_signs : FnScope [] [] (defScope s__law_signs) := ⟨rfl, rfl, rfl, by decide +kernel, rfl, by decide +kernel, by decide +kernel⟩
abbrev s__law_drawn : Stmt := topS 40
theorem sc__law_drawn : FnScope ["_law_draws_here", "_law_numbers", "_law_table", "_law_k", "_law_one", "_law_field", "_law_at", "_law_word", "_law_rows"] ["_law_draws_here"] (defScope s__law_drawn) := ⟨rfl, rfl, rfl, by decide +kernel, rfl, by decide +kernel, by decide +kernel⟩
abbrev s__law_length : Stmt := topS 41
theorem sc__law_length : FnScope ["_law_table", "_law_make", "_law_field", "_law_many", "_law_word", "_law_rows", "_law_one", "_law_places"] ["_law_table", "_law_make", "_law_field"] (defScope s__law_length) := ⟨rfl, rfl, rfl, by decide +kernel, rfl, by decide +kernel, by decide +kernel⟩
abbrev s__law_number_bytes : Stmt := topS 42
theorem sc__law_number_bytes : FnScope ["_law_number", "_law_found"] ["_law_number"] (defScope s__law_number_bytes) := ⟨rfl, rfl, rfl, by decide +kernel, rfl, by decide +kernel, by decide +kernel⟩
abbrev s__law_text_bytes : Stmt := topS 43
theorem sc__law_text_bytes : FnScope ["_law_text", "_law_found", "_law_sign", "_law_at"] ["_law_text"] (defScope s__law_text_bytes) := ⟨rfl, rfl, rfl, by decide +kernel, rfl, by decide +kernel, by decide +kernel⟩
abbrev s__law_postings_bytes : Stmt := topS 44
theorem sc__law_postings_bytes : FnScope ["_law_postings", "_law_found", "_law_ahead", "_law_make", "_law_places", "_law_before", "_law_place"] ["_law_postings"] (defScope s__law_postings_bytes) := ⟨rfl, rfl, rfl, by decide +kernel, rfl, by decide +kernel, by decide +kernel⟩
abbrev s__law_piece_bytes : Stmt := topS 45
theorem sc__law_piece_bytes : FnScope ["_law_makes", "_law_table", "_law_found", "_law_ahead", "_law_make", "_law_field", "_law_word"] ["_law_makes", "_law_table"] (defScope s__law_piece_bytes) := ⟨rfl, rfl, rfl, by decide +kernel, rfl, by decide +kernel, by decide +kernel⟩
abbrev s__law_number_in : Stmt := topS 46
theorem sc__law_number_in : FnScope ["_law_row", "_law_at", "_law_found", "_law_power", "_law_begin"] ["_law_row", "_law_at"] (defScope s__law_number_in) := ⟨rfl, rfl, rfl, by decide +kernel, rfl, by decide +kernel, by decide +kernel⟩
abbrev s__law_rising_in : Stmt := topS 47
theorem sc__law_rising_in : FnScope ["_law_row", "_law_at", "_law_many", "_law_found", "_law_step"] ["_law_row", "_law_at", "_law_many"] (defScope s__law_rising_in) := ⟨rfl, rfl, rfl, by decide +kernel, rfl, by decide +kernel, by decide +kernel⟩
abbrev s__law_text_in : Stmt := topS 48
theorem sc__law_text_in : FnScope ["_law_row", "_law_at", "_law_many", "_law_found", "_law_byte"] ["_law_row", "_law_at"] (defScope s__law_text_in) := ⟨rfl, rfl, rfl, by decide +kernel, rfl, by decide +kernel, by decide +kernel⟩
abbrev s__law_postings_in : Stmt := topS 49
theorem sc__law_postings_in : FnScope ["_law_row", "_law_at", "_law_many", "_law_found", "_law_step", "_law_count", "_law_places", "_law_one"] ["_law_row", "_law_at"] (defScope s__law_postings_in) := ⟨rfl, rfl, rfl, by decide +kernel, rfl, by decide +kernel, by decide +kernel⟩
abbrev s__law_bent : Stmt := topS 50
theorem sc__law_bent : FnScope ["_law_row", "_law_draws_here", "_law_number", "_law_at", "_law_one", "_law_byte", "_law_turn", "_law_turned"] ["_law_row", "_law_draws_here"] (defScope s__law_bent) := ⟨rfl, rfl, rfl, by decide +kernel, rfl, by decide +kernel, by decide +kernel⟩
abbrev s__law_kind : Stmt := topS 51
theorem sc__law_kind : FnScope ["_law_error", "_law_found"] ["_law_error"] (defScope s__law_kind) := ⟨rfl, rfl, rfl, by decide +kernel, rfl, by decide +kernel, by decide +kernel⟩
abbrev s__law_tells : Stmt := topS 52
theorem sc__law_tells : FnScope ["_law_piece", "_law_makes", "_law_table", "_law_field", "_law_words", "_law_word", "_law_make"] ["_law_piece", "_law_makes", "_law_table"] (defScope s__law_tells) := ⟨rfl, rfl, rfl, by decide +kernel, rfl, by decide +kernel, by decide +kernel⟩
abbrev s__law_word_in : Stmt := topS 53
theorem sc__law_word_in : FnScope ["_law_row", "_law_at", "_law_last", "_law_figures", "_law_found", "_law_sign"] ["_law_row", "_law_at", "_law_last", "_law_figures"] (defScope s__law_word_in) := ⟨rfl, rfl, rfl, by decide +kernel, rfl, by decide +kernel, by decide +kernel⟩
abbrev s__law_words_in : Stmt := topS 54
theorem sc__law_words_in : FnScope ["_law_row", "_law_at", "_law_many", "_law_found", "_law_last", "_law_word", "_law_rows"] ["_law_row", "_law_at"] (defScope s__law_words_in) := ⟨rfl, rfl, rfl, by decide +kernel, rfl, by decide +kernel, by decide +kernel⟩
abbrev s__law_field_in : Stmt := topS 55
theorem sc__law_field_in : FnScope ["_law_row", "_law_at", "_law_last", "_law_makes", "_law_field", "_law_places", "_law_lengths", "_law_make", "_law_many", "_law_words", "_law_word", "_law_rows", "_law_some"] ["_law_row", "_law_at", "_law_last", "_law_makes"] (defScope s__law_field_in) := ⟨rfl, rfl, rfl, by decide +kernel, rfl, by decide +kernel, by decide +kernel⟩
abbrev s__law_piece_in : Stmt := topS 56
theorem sc__law_piece_in : FnScope ["_law_row", "_law_many", "_law_makes", "_law_fields", "_law_at", "_law_last", "_law_table", "_law_found", "_law_words"] ["_law_row"] (defScope s__law_piece_in) := ⟨rfl, rfl, rfl, by decide +kernel, rfl, by decide +kernel, by decide +kernel⟩
abbrev s__law_refused : Stmt := topS 57
theorem sc__law_refused : FnScope ["_law_row", "_law_caught", "e"] ["_law_row"] (defScope s__law_refused) := ⟨rfl, rfl, rfl, by decide +kernel, rfl, by decide +kernel, by decide +kernel⟩
abbrev s_law : Stmt := topS 58
theorem sc_law : FnScope ["_law_script", "_law_draws_here", "_law_number", "_law_numbers", "_law_table", "_law_row", "_law_k", "_law_due", "_law_handed", "_law_piece"] ["_law_script"] (defScope s_law) := ⟨rfl, rfl, rfl, by decide +kernel, rfl, by decide +kernel, by decide +kernel⟩
structure Txt (K : PySem.W.Frag) (mg : Str → Option Value) (c : Cl) : Prop where
  b_len : mg "len" = none
  b_all : mg "all" = none
  b_sum : mg "sum" = none
  b_ord : mg "ord" = none
  b_isinstance : mg "isinstance" = none
  b_sorted : mg "sorted" = none
  b_int : mg "int" = none
  b_str : mg "str" = none
  b_bool : mg "bool" = none
  b_list : mg "list" = none
  b_tuple : mg "tuple" = none
  b_dict : mg "dict" = none
  b_range : mg "range" = none
  b_enumerate : mg "enumerate" = none
  b_reversed : mg "reversed" = none
  b_ValueError : mg "ValueError" = none
  g_LETTERS : ∃ t, mg "LETTERS" = some (.str "abcdefghijklmnopqrstuvwxyz" t)
  g_FIGURES : ∃ t, mg "FIGURES" = some (.str "0123456789" t)
  g_SIGNS : ∃ t, mg "SIGNS" = some (.str " !\"#$&'()*+,-./0123456789:;<=>?@ABCDEFGHIJKLMNOPQRSTUVWXYZ[\\]^_`abcdefghijklmnopqrstuvwxyz{|}~" t)
  c_Piece : mg "Piece" = some (.ref c.Piece)
  c_ByteReader : mg "ByteReader" = some (.ref c.ByteReader)
  c_FindError : mg "FindError" = some (.ref c.FindError)
  c_NoField : mg "NoField" = some (.ref c.NoField)
  c_NoMake : mg "NoMake" = some (.ref c.NoMake)
  c_NoBytes : mg "NoBytes" = some (.ref c.NoBytes)
  c_NoDocument : mg "NoDocument" = some (.ref c.NoDocument)
  c_NoStamp : mg "NoStamp" = some (.ref c.NoStamp)
  c_NoPiece : mg "NoPiece" = some (.ref c.NoPiece)
  c_NoPattern : mg "NoPattern" = some (.ref c.NoPattern)
  c_NoLine : mg "NoLine" = some (.ref c.NoLine)
  c_NoText : mg "NoText" = some (.ref c.NoText)
  k_Piece : Cls K c.Piece
  k_ByteReader : Cls K c.ByteReader
  a_held_makes : NoAttr K c.Piece "held_makes"
  a_lengths : NoAttr K c.Piece "lengths"
  a_table : NoAttr K c.Piece "table"
  a_row : NoAttr K c.ByteReader "row"
  a_at : NoAttr K c.ByteReader "at"
  a_signs : NoAttr K c.ByteReader "signs"
  x_NoBytes : PySem.W.excIn K c.NoBytes [.type "ValueError", .type "Exception", .type "BaseException", .type "object"] "ValueError.__new__" = true
  kp_NoBytes : PySem.W.keepIn K (.ref c.NoBytes) = true
  sb_NoBytes : PySem.W.subIn K (.ref c.NoBytes) (.type "BaseException") = some true
  ty_NoBytes : PySem.W.typeIn K (.ref c.NoBytes) = some (.type "type")
  e_NoBytes : ExcC K c.NoBytes
  em_NoBytes : PySem.W.exmOne K (.ref c.NoBytes) (.ref c.FindError) = some true
  i_NoField : PySem.W.kitOne K (.ref c.NoBytes) (.ref c.NoField) = some false
  n_NoField : PySem.W.kitOne K (.type "NoneType") (.ref c.NoField) = some false
  i_NoMake : PySem.W.kitOne K (.ref c.NoBytes) (.ref c.NoMake) = some false
  n_NoMake : PySem.W.kitOne K (.type "NoneType") (.ref c.NoMake) = some false
  i_NoBytes : PySem.W.kitOne K (.ref c.NoBytes) (.ref c.NoBytes) = some true
  n_NoBytes : PySem.W.kitOne K (.type "NoneType") (.ref c.NoBytes) = some false
  i_NoDocument : PySem.W.kitOne K (.ref c.NoBytes) (.ref c.NoDocument) = some false
  n_NoDocument : PySem.W.kitOne K (.type "NoneType") (.ref c.NoDocument) = some false
  i_NoStamp : PySem.W.kitOne K (.ref c.NoBytes) (.ref c.NoStamp) = some false
  n_NoStamp : PySem.W.kitOne K (.type "NoneType") (.ref c.NoStamp) = some false
  i_NoPiece : PySem.W.kitOne K (.ref c.NoBytes) (.ref c.NoPiece) = some false
  n_NoPiece : PySem.W.kitOne K (.type "NoneType") (.ref c.NoPiece) = some false
  i_NoPattern : PySem.W.kitOne K (.ref c.NoBytes) (.ref c.NoPattern) = some false
  n_NoPattern : PySem.W.kitOne K (.type "NoneType") (.ref c.NoPattern) = some false
  i_NoLine : PySem.W.kitOne K (.ref c.NoBytes) (.ref c.NoLine) = some false
  n_NoLine : PySem.W.kitOne K (.type "NoneType") (.ref c.NoLine) = some false
  i_NoText : PySem.W.kitOne K (.ref c.NoBytes) (.ref c.NoText) = some false
  n_NoText : PySem.W.kitOne K (.type "NoneType") (.ref c.NoText) = some false
  i_ValueError : PySem.W.kitOne K (.ref c.NoBytes) (.type "ValueError") = some true
  d_is_name : FnAt K mg "is_name" s_is_name ["text"]
  d_is_word : FnAt K mg "is_word" s_is_word ["text"]
  d_look_at_makes : FnAt K mg "look_at_makes" s_look_at_makes ["makes"]
  d_copied_postings : FnAt K mg "copied_postings" s_copied_postings ["postings"]
  d_Piece_init : InitAt K c.Piece "Piece.__init__" s_Piece__init_ ["self", "makes"]
  d_makes : MtAt K c.Piece "makes" "Piece.makes" s_Piece_makes ["self"]
  d_fields : MtAt K c.Piece "fields" "Piece.fields" s_Piece_fields ["self"]
  d_words : MtAt K c.Piece "words" "Piece.words" s_Piece_words ["self", "field"]
  d_postings : MtAt K c.Piece "postings" "Piece.postings" s_Piece_postings ["self", "field", "word"]
  d_length : MtAt K c.Piece "length" "Piece.length" s_Piece_length ["self", "make", "field"]
  d_number_bytes : FnAt K mg "number_bytes" s_number_bytes ["number"]
  d_text_bytes : FnAt K mg "text_bytes" s_text_bytes ["text"]
  d_places_bytes : FnAt K mg "places_bytes" s_places_bytes ["places"]
  d_postings_bytes : FnAt K mg "postings_bytes" s_postings_bytes ["postings"]
  d_field_bytes : FnAt K mg "field_bytes" s_field_bytes ["piece", "field"]
  d_piece_bytes : FnAt K mg "piece_bytes" s_piece_bytes ["piece"]
  d_ByteReader_init : InitAt K c.ByteReader "ByteReader.__init__" s_ByteReader__init_ ["self", "row"]
  d_sure : MtAt K c.ByteReader "sure" "ByteReader.sure" s_ByteReader_sure ["self", "good"]
  d_next_byte : MtAt K c.ByteReader "next_byte" "ByteReader.next_byte" s_ByteReader_next_byte ["self"]
  d_next_number : MtAt K c.ByteReader "next_number" "ByteReader.next_number" s_ByteReader_next_number ["self"]
  d_next_rising : MtAt K c.ByteReader "next_rising" "ByteReader.next_rising" s_ByteReader_next_rising ["self", "many"]
  d_next_text : MtAt K c.ByteReader "next_text" "ByteReader.next_text" s_ByteReader_next_text ["self"]
  d_next_postings : MtAt K c.ByteReader "next_postings" "ByteReader.next_postings" s_ByteReader_next_postings ["self"]
  d_next_words : MtAt K c.ByteReader "next_words" "ByteReader.next_words" s_ByteReader_next_words ["self"]
  d_next_field : MtAt K c.ByteReader "next_field" "ByteReader.next_field" s_ByteReader_next_field ["self", "piece", "last"]
  d_sure_filled : MtAt K c.ByteReader "sure_filled" "ByteReader.sure_filled" s_ByteReader_sure_filled ["self", "lengths", "words"]
  d_next_piece : MtAt K c.ByteReader "next_piece" "ByteReader.next_piece" s_ByteReader_next_piece ["self"]
  d_ended : MtAt K c.ByteReader "ended" "ByteReader.ended" s_ByteReader_ended ["self", "told"]
  d_read_piece : FnAt K mg "read_piece" s_read_piece ["row"]
  d__law_draws : FnAt K mg "_law_draws" s__law_draws ["_law_script", "_law_turn", "_law_many"]
  d__law_pop : FnAt K mg "_law_pop" s__law_pop ["_law_draws_here"]
  d__law_alike : FnAt K mg "_law_alike" s__law_alike ["_law_found", "_law_due"]
  d__law_signs : FnAt K mg "_law_signs" s__law_signs []
  d__law_drawn : FnAt K mg "_law_drawn" s__law_drawn ["_law_draws_here"]
  d__law_length : FnAt K mg "_law_length" s__law_length ["_law_table", "_law_make", "_law_field"]
  d__law_number_bytes : FnAt K mg "_law_number_bytes" s__law_number_bytes ["_law_number"]
  d__law_text_bytes : FnAt K mg "_law_text_bytes" s__law_text_bytes ["_law_text"]
  d__law_postings_bytes : FnAt K mg "_law_postings_bytes" s__law_postings_bytes ["_law_postings"]
  d__law_piece_bytes : FnAt K mg "_law_piece_bytes" s__law_piece_bytes ["_law_makes", "_law_table"]
  d__law_number_in : FnAt K mg "_law_number_in" s__law_number_in ["_law_row", "_law_at"]
  d__law_rising_in : FnAt K mg "_law_rising_in" s__law_rising_in ["_law_row", "_law_at", "_law_many"]
  d__law_text_in : FnAt K mg "_law_text_in" s__law_text_in ["_law_row", "_law_at"]
  d__law_postings_in : FnAt K mg "_law_postings_in" s__law_postings_in ["_law_row", "_law_at"]
  d__law_bent : FnAt K mg "_law_bent" s__law_bent ["_law_row", "_law_draws_here"]
  d__law_kind : FnAt K mg "_law_kind" s__law_kind ["_law_error"]
  d__law_tells : FnAt K mg "_law_tells" s__law_tells ["_law_piece", "_law_makes", "_law_table"]
  d__law_word_in : FnAt K mg "_law_word_in" s__law_word_in ["_law_row", "_law_at", "_law_last", "_law_figures"]
  d__law_words_in : FnAt K mg "_law_words_in" s__law_words_in ["_law_row", "_law_at"]
  d__law_field_in : FnAt K mg "_law_field_in" s__law_field_in ["_law_row", "_law_at", "_law_last", "_law_makes"]
  d__law_piece_in : FnAt K mg "_law_piece_in" s__law_piece_in ["_law_row"]
  d__law_refused : FnAt K mg "_law_refused" s__law_refused ["_law_row"]
  d_law : FnAt K mg "law" s_law ["_law_script"]
end FC
/-! FCH: heaps that grow, heaps where some places change, comprehensions that map. -/
namespace FC
open PySem PySem.Spec PyProof.Rows L2
/-- all stays but what stands at the places xs -/
def Kp (xs : List Addr) (H H' : Hp) : Prop := ∀ b o, H b = some o → b ∉ xs → H' b = some o
section
variable {xs ys : List Addr} {H H1 H2 H' : Hp} {a p l x : Addr} {o u : HO}
theorem Kp.refl : Kp xs H H := fun _ _ h _ => h
theorem Kp.trans (a : Kp xs H H1) (b : Kp xs H1 H2) : Kp xs H H2 := fun c o h n => b c o (a c o h n) n
theorem Kp.mono (a : Kp xs H H1) (h : ∀ b, b ∈ xs → b ∈ ys) : Kp ys H H1 := fun c o e n => a c o e fun z => n (h c z)
theorem Kp.same (h : Same H H1) : Kp xs H H1 := fun c o e _ => h c o e
theorem Kp.toSame (h : Kp [] H H1) : Same H H1 := fun c o e => h c o e (by simp)
theorem Same.upd_new (h : H p = none) : Same H (upd H p o) := fun b u e => by rw [upd_ne (ne_of_none e h)]; exact e
/-- a new object -/
theorem Kp.new (k : Kp xs H H1) (h : H1 p = none) : Kp xs H (upd H1 p o) := fun b u e n => by rw [upd_ne (ne_of_none (k b u e n) h)]; exact k b u e n
/-- what was not there at first may change -/
theorem Kp.mut (k : Kp xs H H1) (h : H p = none) : Kp xs H (upd H1 p o) := fun b u e n => by rw [upd_ne (ne_of_none e h)]; exact k b u e n
/-- a place of the list may change -/
theorem Kp.at (k : Kp xs H H1) (h : p ∈ xs) : Kp xs H (upd H1 p o) := fun b u e n => by rw [upd_ne (fun z => by subst z; exact n h)]; exact k b u e n
theorem Same.new (k : Same H H1) (h : H1 p = none) : Same H (upd H1 p o) := fun b u e => by rw [upd_ne (ne_of_none (k b u e) h)]; exact k b u e
theorem Same.mut (k : Same H H1) (h : H p = none) : Same H (upd H1 p o) := fun b u e => by rw [upd_ne (ne_of_none e h)]; exact k b u e
/-- fresh behind is fresh ahead -/
theorem Kp.free (k : Kp xs H H1) (h : H1 p = none) (n : p ∉ xs) : H p = none := by
  cases q : H p with
  | none => rfl
  | some u => rw [k p u q n] at h; cases h
theorem upd_old (h : H a = some o) (hp : H p = none) : upd H p u a = some o := by rw [upd_ne (ne_of_none h hp)]; exact h
theorem upd_oth (h : H a = some o) (hp : a ≠ p) : upd H p u a = some o := by rw [upd_ne hp]; exact h
theorem free_ne (h : upd H p u a = none) : a ≠ p ∧ H a = none := by
  have n : a ≠ p := fun e => by rw [e, upd_same] at h; cases h
  exact ⟨n, by rw [upd_ne n] at h; exact h⟩
end
theorem sl_line {n : Nat} (h : n ≤ 100000) : n ≤ sizeLine := Nat.le_trans h (by decide)
theorem sl_lt {n : Nat} (h : n < 100000) : n < sizeLine := Nat.lt_of_lt_of_le h (by decide)

/-! ### comprehensions that map -/
section
variable {te : TE} {vs : List Nat} {σ : L2.St} {H1 : Hp} {D : Addr} {Qd : Hp → Prop} {j : Nat}
/-- over a text -/
theorem lc_strMap {z : Str} (f : Nat → V) (hz : z.length ≤ 10000) (hw : ∀ x, wipe ((wipe σ vs).set j (some x)) vs = wipe σ vs)
    (he : ∀ (c : Nat) (H : Hp) (Q : VK), Q (f c) H → te ((wipe σ vs).set j (some (.str ⟨#[c]⟩))) H Q) (hd : Qd (upd H1 D (.lst (z.cps.toList.map f)))) :
    ∃ W : Nat → Nat → Hp → Prop, (∃ m, W 0 m (upd H1 D (.lst []))) ∧ ∀ i m H, W i m H →
      ((Its z).stop i H ∧ Qd H) ∨ ((Its z).go i H ∧ ∃ Nx : Hp → Prop, (∀ H', Nx H' → ∃ m', m' < m ∧ W (i + 1) m' H') ∧ ∀ x H', (Its z).yld i H x H' → gName j x (wipe σ vs) H' fun σ2 H2 => wipe σ2 vs = wipe σ vs ∧ tYes σ2 H2 fun b H3 =>
        if b = true then te σ2 H3 fun y H4 => ∃ acc, H4 D = some (.lst acc) ∧ acc.length < sizeLine ∧ Nx (upd H4 D (.lst (acc ++ [y]))) else Nx H3) := by
  have hz' : z.cps.size ≤ 10000 := hz
  refine lc_it walk_str (fun i H => H = upd H1 D (.lst ((z.cps.toList.take i).map f))) rfl (fun _ _ _ _ => trivial) (fun i x H H' hi hH hy => ?_) (fun H hH => ?_)
  · obtain ⟨rfl, c, hc, rfl⟩ := hy
    subst hH
    refine ⟨hw _, ?_⟩
    refine he c _ _ ⟨_, upd_same, ?_, ?_⟩
    · rw [List.length_map]
      exact sl_lt (by have := List.length_take_le i z.cps.toList; omega)
    · have hc' : z.cps.toList[i]? = some c := by rw [Array.getElem?_toList]; exact hc
      rw [upd_upd, List.take_add_one, hc', List.map_append]
      rfl
  · rw [hH, List.take_of_length_le (by rw [Array.length_toList]; exact Nat.le_refl _)]
    exact hd
/-- over a list that stays -/
theorem lc_listMap {K : PySem.W.Frag} {a : Addr} {xs : List V} (f : V → V) (hz : xs.length ≤ 10000) (ha : SqL K H1 a xs) (hD : H1 D = none) (hw : ∀ x, wipe ((wipe σ vs).set j (some x)) vs = wipe σ vs)
    (he : ∀ (v : V) (H : Hp) (Q : VK), v ∈ xs → Same H1 H → Q (f v) H → te ((wipe σ vs).set j (some v)) H Q) (hd : Qd (upd H1 D (.lst (xs.map f)))) :
    ∃ W : Nat → Nat → Hp → Prop, (∃ m, W 0 m (upd H1 D (.lst []))) ∧ ∀ i m H, W i m H →
      ((Itl K a).stop i H ∧ Qd H) ∨ ((Itl K a).go i H ∧ ∃ Nx : Hp → Prop, (∀ H', Nx H' → ∃ m', m' < m ∧ W (i + 1) m' H') ∧ ∀ x H', (Itl K a).yld i H x H' → gName j x (wipe σ vs) H' fun σ2 H2 => wipe σ2 vs = wipe σ vs ∧ tYes σ2 H2 fun b H3 =>
        if b = true then te σ2 H3 fun y H4 => ∃ acc, H4 D = some (.lst acc) ∧ acc.length < sizeLine ∧ Nx (upd H4 D (.lst (acc ++ [y]))) else Nx H3) := by
  have sm : ∀ o, Same H1 (upd H1 D o) := fun o => Same.upd_new hD
  refine lc_list (fun i H => H = upd H1 D (.lst ((xs.take i).map f))) rfl (fun i H _ hH => by rw [hH]; exact (sm _).seq ha) (fun i x H hx hH => ?_) (fun H hH => ?_)
  · subst hH
    refine ⟨hw _, ?_⟩
    refine he x _ _ (List.mem_of_getElem? hx) (sm _) ⟨_, upd_same, ?_, ?_⟩
    · rw [List.length_map]
      exact sl_lt (by have := List.length_take_le' i xs; omega)
    · rw [upd_upd, List.take_add_one, hx, List.map_append]
      rfl
  · rw [hH, List.take_of_length_le (Nat.le_refl _)]
    exact hd
end
end FC
/-! W01: is_name, is_word. -/
namespace FC
open PySem PySem.Spec PyProof.Rows L2
/-! ### names, words -/
def lets : List Nat := ("abcdefghijklmnopqrstuvwxyz" : Str).cps.toList
def figs : List Nat := ("0123456789" : Str).cps.toList
def nameB (cs : List Nat) : Bool := decide (0 < cs.length) && (decide (cs.length ≤ 12) && cs.all fun c => decide (c ∈ lets))
def wordB (cs : List Nat) : Bool := decide (cs ≠ []) && cs.all fun c => decide (c ∈ lets) || decide (c ∈ figs)
def spIsName : Sp := fun vs H Q _ => ∃ z : Str, vs = [.str z] ∧ z.length ≤ 1000 ∧ ∀ H', Same H H' → Q (.bl (nameB z.cps.toList)) H'
def spIsWord : Sp := fun vs H Q _ => ∃ z : Str, vs = [.str z] ∧ z.length ≤ 1000 ∧ ∀ H', Same H H' → Q (.bl (wordB z.cps.toList)) H'
section
variable {P : Program} {w : World} {K : PySem.W.Frag} {mg : Str → Option Value} {base : Heap} {c : Cl}
theorem ok_is_name (T : Txt K mg c) : GFn P w K mg base CX0 1 "is_name" ["text"] spIsName := by
  obtain ⟨f, fd, F, hm, hb⟩ := T.d_is_name
  refine ⟨f, fd, hm, F.kp, hb, F.ok sc_is_name (fun vs H Q E h => ?_) (fun cdv A outer s H vs Q E hr h => ?_)⟩
  · obtain ⟨z, rfl, _⟩ := h
    rfl
  · obtain ⟨z, rfl, hz, q⟩ := h
    have nd := sc_is_name.nd
    refine ⟨_, (pss_one (ps_ret (pe_and (pe_chain op_lt op_le pe_int (pe_callB call_len_str (by rfl) T.b_len boot_len (pa_cons (pv 0) pa_nil)) pe_int) (pe_one (pe_callB (cr_all rfl) (by rfl) T.b_all boot_all (pa_cons (pe_lc (own := [("sign", 1)]) rfl nd (pi_str (pv 0)) (blkOk_by (N := ["text", "sign"]) (sc := defScope s_is_name) (by decide +kernel)) (fun _ _ _ _ _ => (pg_name (i := 1) nd rfl (.inl rfl))) (fun _ _ _ _ _ => pts_nil) (fun _ _ _ _ _ => (pe_cmpR op_in_sign (pv 1) (pe_gstr (by rfl) T.g_LETTERS) rfl))) pa_nil)))))), ?_⟩
    have hl : z.length = z.cps.toList.length := by rw [Array.length_toList]; rfl
    refine ⟨_, rfl, z, rfl, sl_line (by omega), _, _, rfl, rfl, _, rfl, ite2 (fun e1 => ?_) (fun e1 => ?_)⟩
    · have e1' : 0 < z.cps.toList.length := by have := of_decide_eq_true e1; omega
      refine ⟨_, _, rfl, rfl, _, rfl, ite2 (fun e2 => ?_) (fun e2 => ?_)⟩
      · have e2' : z.cps.toList.length ≤ 12 := by have := of_decide_eq_true e2; omega
        refine ⟨_, rfl, z, rfl, fun D hD => lc_strMap (fun c => .bl (decide (c ∈ lets))) (by omega) (fun _ => rfl) (fun c H Q q => ⟨_, rfl, c, _, rfl, rfl, q⟩) ?_⟩
        refine ⟨D, z.cps.toList.map fun c => decide (c ∈ lets), rfl, SqL.of ?_, ?_⟩
        · rw [upd_same, List.map_map]
          rfl
        · have := q _ (Same.upd_new (o := .lst (z.cps.toList.map fun c => .bl (decide (c ∈ lets)))) hD)
          unfold nameB at this
          rw [decide_eq_true e1', decide_eq_true e2', Bool.true_and, Bool.true_and] at this
          rw [List.all_map]
          exact this
      · have e2' : ¬ z.cps.toList.length ≤ 12 := fun h => e2 (decide_eq_true (by omega))
        have := q _ (Same.refl H)
        unfold nameB at this
        rw [decide_eq_false e2', Bool.false_and, Bool.and_false] at this
        exact this
    · have e1' : ¬ 0 < z.cps.toList.length := fun h => e1 (decide_eq_true (by omega))
      have := q _ (Same.refl H)
      unfold nameB at this
      rw [decide_eq_false e1', Bool.false_and] at this
      exact ⟨_, rfl, iteF this⟩
end
end FC
/-! M1: the mirror: what is read of a row, what is written, and that what is read is written back. -/
namespace FC
/-! ### numbers -/
def numR : List Int → Option (Int × List Int)
  | [] => none
  | b :: r => if 0 ≤ b ∧ b ≤ 255 then
      (if b < 128 then some (b, r) else
        match numR r with
        | none => none
        | some (n, r') => if n = 0 then none else some (b - 128 + 128 * n, r'))
    else none
def numB (n : Nat) : List Int := if n < 128 then [(n : Int)] else ((n % 128 + 128 : Nat) : Int) :: numB (n / 128)
decreasing_by omega
abbrev numI (n : Int) : List Int := numB n.toNat
theorem numR_ok : ∀ {l : List Int} {n : Int} {r : List Int}, numR l = some (n, r) → 0 ≤ n ∧ l = numI n ++ r
  | [], n, r, h => by simp [numR] at h
  | b :: l, n, r, h => by
    unfold numR at h
    split at h
    · rename_i hb
      split at h
      · rename_i h1
        have e := Option.some.inj h
        cases e
        refine ⟨hb.1, ?_⟩
        unfold numI numB
        rw [if_pos (by omega), Int.toNat_of_nonneg hb.1]
        rfl
      · rename_i h1
        split at h
        · cases h
        · rename_i n' r' e'
          split at h
          · cases h
          · rename_i h2
            have e := Option.some.inj h
            cases e
            obtain ⟨p, q⟩ := numR_ok e'
            refine ⟨by omega, ?_⟩
            rw [q]
            unfold numI
            conv => rhs; unfold numB
            have e1 : (b - 128 + 128 * n').toNat / 128 = n'.toNat := by omega
            have e2 : (((b - 128 + 128 * n').toNat % 128 + 128 : Nat) : Int) = b := by omega
            rw [if_neg (by omega), e1, e2]
            rfl
    · cases h
theorem numB_pos (n : Nat) : 0 < (numB n).length := by
  unfold numB
  split <;> simp
theorem numR_len {l : List Int} {n : Int} {r : List Int} (h : numR l = some (n, r)) : r.length < l.length := by
  obtain ⟨_, e⟩ := numR_ok h
  rw [e, List.length_append]
  have := numB_pos n.toNat
  show r.length < (numB n.toNat).length + r.length
  omega
theorem numR_suf {l : List Int} {n : Int} {r : List Int} (h : numR l = some (n, r)) : r <:+ l := by
  obtain ⟨_, e⟩ := numR_ok h
  exact ⟨_, e.symm⟩
/-! ### rising numbers -/
def risR : Nat → Option Int → List Int → Option (List Int × List Int)
  | 0, _, l => some ([], l)
  | k + 1, prev, l =>
    match numR l with
    | none => none
    | some (s, r) => if s = 0 ∧ prev ≠ none then none else
      match risR k (some (prev.getD 0 + s)) r with
      | none => none
      | some (xs, r') => some ((prev.getD 0 + s) :: xs, r')
def placesB : Int → List Int → List Int
  | _, [] => []
  | last, x :: xs => numI (x - last) ++ placesB x xs
theorem risR_ok : ∀ {k : Nat} {prev : Option Int} {l xs r : List Int}, risR k prev l = some (xs, r) → xs.length = k ∧ l = placesB (prev.getD 0) xs ++ r ∧ (∀ x ∈ xs, prev.getD 0 ≤ x ∧ (prev ≠ none → prev.getD 0 < x)) ∧ xs.Pairwise (· < ·)
  | 0, prev, l, xs, r, h => by
    have e := Option.some.inj h
    cases e
    exact ⟨rfl, rfl, fun _ h => (by cases h), .nil⟩
  | k + 1, prev, l, xs, r, h => by
    unfold risR at h
    split at h
    · cases h
    · rename_i s r1 e1
      split at h
      · cases h
      · rename_i h1
        split at h
        · cases h
        · rename_i xs' r' e2
          have e := Option.some.inj h
          cases e
          obtain ⟨p1, p2⟩ := numR_ok e1
          obtain ⟨q1, q2, q3, q4⟩ := risR_ok e2
          have hs : prev ≠ none → s ≠ 0 := fun z y => h1 ⟨y, z⟩
          refine ⟨by simp [q1], ?_, ?_, ?_⟩
          · rw [p2, q2]
            show _ = (numI (prev.getD 0 + s - prev.getD 0) ++ placesB (prev.getD 0 + s) xs') ++ r
            rw [show prev.getD 0 + s - prev.getD 0 = s by omega, List.append_assoc]
            rfl
          · intro x hx
            rcases List.mem_cons.mp hx with rfl | hx
            · exact ⟨by omega, fun z => by have := hs z; omega⟩
            · have q := q3 x hx
              have q' := q.2 (by simp)
              have g : (some (prev.getD 0 + s)).getD 0 = prev.getD 0 + s := rfl
              rw [g] at q'
              exact ⟨by omega, fun z => by omega⟩
          · refine List.pairwise_cons.mpr ⟨fun x hx => ?_, q4⟩
            exact (q3 x hx).2 (by simp)
theorem risR_suf {k : Nat} {prev : Option Int} {l xs r : List Int} (h : risR k prev l = some (xs, r)) : r <:+ l := ⟨_, (risR_ok h).2.1.symm⟩
/-! ### texts -/
def okB (b : Int) : Prop := 32 ≤ b ∧ b ≤ 126 ∧ b ≠ 37
instance (b : Int) : Decidable (okB b) := by unfold okB; exact inferInstance
def signsR : Nat → List Int → Option (List Nat × List Int)
  | 0, l => some ([], l)
  | _ + 1, [] => none
  | k + 1, b :: l => if okB b then
      match signsR k l with
      | none => none
      | some (w, r) => some (b.toNat :: w, r)
    else none
def textR (l : List Int) : Option (List Nat × List Int) :=
  match numR l with
  | none => none
  | some (m, r) => signsR m.toNat r
abbrev codes (w : List Nat) : List Int := w.map Int.ofNat
abbrev lenI {α : Type} (xs : List α) : List Int := numB xs.length
def textB (w : List Nat) : List Int := lenI w ++ codes w
theorem signsR_ok : ∀ {k : Nat} {l : List Int} {w : List Nat} {r : List Int}, signsR k l = some (w, r) → w.length = k ∧ l = codes w ++ r ∧ ∀ c ∈ w, okB (c : Int)
  | 0, l, w, r, h => by
    have e := Option.some.inj h
    cases e
    exact ⟨rfl, rfl, fun _ h => (by cases h)⟩
  | k + 1, [], w, r, h => by cases h
  | k + 1, b :: l, w, r, h => by
    unfold signsR at h
    split at h
    · rename_i hb
      split at h
      · cases h
      · rename_i w' r' e1
        have e := Option.some.inj h
        cases e
        obtain ⟨p1, p2, p3⟩ := signsR_ok e1
        have hb0 : ((b.toNat : Nat) : Int) = b := Int.toNat_of_nonneg (by have := hb.1; omega)
        refine ⟨by simp [p1], ?_, fun c hc => ?_⟩
        · rw [p2]
          show b :: _ = (b.toNat : Int) :: _
          rw [hb0]
          rfl
        · rcases List.mem_cons.mp hc with rfl | hc
          · rw [hb0]
            exact hb
          · exact p3 c hc
    · cases h
theorem textR_ok {l : List Int} {w : List Nat} {r : List Int} (h : textR l = some (w, r)) : l = textB w ++ r ∧ ∀ c ∈ w, okB (c : Int) := by
  unfold textR at h
  split at h
  · cases h
  · rename_i m r1 e1
    obtain ⟨p1, p2⟩ := numR_ok e1
    obtain ⟨q1, q2, q3⟩ := signsR_ok h
    refine ⟨?_, q3⟩
    rw [p2, q2]
    unfold textB lenI numI
    rw [q1, List.append_assoc]
theorem textR_suf {l : List Int} {w : List Nat} {r : List Int} (h : textR l = some (w, r)) : r <:+ l := ⟨_, (textR_ok h).1.symm⟩
/-! ### postings -/
abbrev Posts := List (Int × List Int)
def postsK : Nat → Option Int → List Int → Option (Posts × List Int)
  | 0, _, l => some ([], l)
  | k + 1, prev, l =>
    match numR l with
    | none => none
    | some (s, r) => if s = 0 ∧ prev ≠ none then none else
      match numR r with
      | none => none
      | some (n, r1) => if n = 0 then none else
        match risR n.toNat none r1 with
        | none => none
        | some (xs, r2) =>
          match postsK k (some (prev.getD 0 + s)) r2 with
          | none => none
          | some (ps, r') => some ((prev.getD 0 + s, xs) :: ps, r')
def postsR (l : List Int) : Option (Posts × List Int) :=
  match numR l with
  | none => none
  | some (m, r) => postsK m.toNat none r
def postsKB : Int → Posts → List Int
  | _, [] => []
  | last, (m, xs) :: ps => numI (m - last) ++ (lenI xs ++ (placesB 0 xs ++ postsKB m ps))
def postsB (ps : Posts) : List Int := lenI ps ++ postsKB 0 ps
/-- what is so of postings that were read -/
def PostsOk (ps : Posts) : Prop := (∀ p ∈ ps, 0 ≤ p.1 ∧ p.2 ≠ [] ∧ (∀ x ∈ p.2, 0 ≤ x) ∧ p.2.Pairwise (· < ·)) ∧ ps.Pairwise fun p q => p.1 < q.1
theorem postsK_ok : ∀ {k : Nat} {prev : Option Int} {l : List Int} {ps : Posts} {r : List Int}, postsK k prev l = some (ps, r) → 0 ≤ prev.getD 0 → ps.length = k ∧ l = postsKB (prev.getD 0) ps ++ r ∧
    (∀ p ∈ ps, prev.getD 0 ≤ p.1 ∧ (prev ≠ none → prev.getD 0 < p.1)) ∧ PostsOk ps
  | 0, prev, l, ps, r, h, _ => by
    have e := Option.some.inj h
    cases e
    exact ⟨rfl, rfl, fun _ h => (by cases h), fun _ h => (by cases h), .nil⟩
  | k + 1, prev, l, ps, r, h, h0 => by
    unfold postsK at h
    split at h
    · cases h
    · rename_i s r1 e1
      split at h
      · cases h
      · rename_i h1
        split at h
        · cases h
        · rename_i n r2 e2
          split at h
          · cases h
          · rename_i hn
            split at h
            · cases h
            · rename_i xs r3 e3
              split at h
              · cases h
              · rename_i ps' r' e4
                have e := Option.some.inj h
                cases e
                obtain ⟨p1, p2⟩ := numR_ok e1
                obtain ⟨n1, n2⟩ := numR_ok e2
                obtain ⟨x1, x2, x3, x4⟩ := risR_ok e3
                have g : (some (prev.getD 0 + s)).getD 0 = prev.getD 0 + s := rfl
                obtain ⟨q1, q2, q3, q4, q5⟩ := postsK_ok e4 (by rw [g]; omega)
                rw [g] at q2
                have hs : prev ≠ none → s ≠ 0 := fun z y => h1 ⟨y, z⟩
                refine ⟨by simp [q1], ?_, ?_, ?_, ?_⟩
                · rw [p2, n2, x2, q2]
                  show _ = (numI (prev.getD 0 + s - prev.getD 0) ++ (lenI xs ++ (placesB 0 xs ++ postsKB (prev.getD 0 + s) ps'))) ++ r
                  rw [show prev.getD 0 + s - prev.getD 0 = s by omega]
                  unfold lenI numI
                  rw [x1]
                  simp only [List.append_assoc]
                  rfl
                · intro p hp
                  rcases List.mem_cons.mp hp with rfl | hp
                  · exact ⟨by show prev.getD 0 ≤ prev.getD 0 + s; omega, fun z => by have := hs z; show prev.getD 0 < prev.getD 0 + s; omega⟩
                  · have q := (q3 p hp).2 (by simp)
                    rw [g] at q
                    exact ⟨by omega, fun _ => by omega⟩
                · intro p hp
                  rcases List.mem_cons.mp hp with rfl | hp
                  · refine ⟨by show 0 ≤ prev.getD 0 + s; omega, fun z => ?_, fun x hx => (x3 x hx).1, x4⟩
                    have z' : xs = [] := z
                    rw [z'] at x1
                    simp at x1
                    omega
                  · exact q4 p hp
                · refine List.pairwise_cons.mpr ⟨fun p hp => ?_, q5⟩
                  exact (q3 p hp).2 (by simp)
theorem postsR_ok {l : List Int} {ps : Posts} {r : List Int} (h : postsR l = some (ps, r)) : l = postsB ps ++ r ∧ PostsOk ps := by
  unfold postsR at h
  split at h
  · cases h
  · rename_i m r1 e1
    obtain ⟨p1, p2⟩ := numR_ok e1
    obtain ⟨q1, q2, q3, q4⟩ := postsK_ok h (Int.le_refl 0)
    refine ⟨?_, q4⟩
    rw [p2, q2]
    unfold postsB lenI numI
    rw [q1, List.append_assoc]
    rfl
theorem postsR_suf {l : List Int} {ps : Posts} {r : List Int} (h : postsR l = some (ps, r)) : r <:+ l := ⟨_, (postsR_ok h).1.symm⟩
/-! ### words -/
abbrev Words := List (List Nat × Posts)
def wordsK : Nat → List Nat → List Int → Option (Words × List Int)
  | 0, _, l => some ([], l)
  | k + 1, last, l =>
    match textR l with
    | none => none
    | some (w, r) => if wordB w = true ∧ last < w then
        match postsR r with
        | none => none
        | some (ps, r1) => if ps = [] then none else
          match wordsK k w r1 with
          | none => none
          | some (ws, r2) => some ((w, ps) :: ws, r2)
      else none
def wordsR (l : List Int) : Option (Words × List Int) :=
  match numR l with
  | none => none
  | some (m, r) => if m = 0 then none else wordsK m.toNat [] r
def wordsKB (ws : Words) : List Int := ws.flatMap fun wp => textB wp.1 ++ postsB wp.2
def wordsB (ws : Words) : List Int := lenI ws ++ wordsKB ws
def WordsOk (ws : Words) : Prop := (∀ wp ∈ ws, wordB wp.1 = true ∧ (∀ c ∈ wp.1, okB (c : Int)) ∧ wp.2 ≠ [] ∧ PostsOk wp.2) ∧ ws.Pairwise fun a b => a.1 < b.1
theorem nlt_trans {a b c : List Nat} (h : a < b) (h' : b < c) : a < c := List.lt_trans h h'
theorem wordsK_ok : ∀ {k : Nat} {last : List Nat} {l : List Int} {ws : Words} {r : List Int}, wordsK k last l = some (ws, r) → ws.length = k ∧ l = wordsKB ws ++ r ∧ (∀ wp ∈ ws, last < wp.1) ∧ WordsOk ws
  | 0, last, l, ws, r, h => by
    have e := Option.some.inj h
    cases e
    exact ⟨rfl, rfl, fun _ h => (by cases h), fun _ h => (by cases h), .nil⟩
  | k + 1, last, l, ws, r, h => by
    unfold wordsK at h
    split at h
    · cases h
    · rename_i w r1 e1
      split at h
      · rename_i hw
        split at h
        · cases h
        · rename_i ps r2 e2
          split at h
          · cases h
          · rename_i hp
            split at h
            · cases h
            · rename_i ws' r' e3
              have e := Option.some.inj h
              cases e
              obtain ⟨t1, t2⟩ := textR_ok e1
              obtain ⟨p1, p2⟩ := postsR_ok e2
              obtain ⟨q1, q2, q3, q4, q5⟩ := wordsK_ok e3
              refine ⟨by simp [q1], ?_, ?_, ?_, ?_⟩
              · rw [t1, p1, q2]
                show _ = (textB w ++ postsB ps ++ wordsKB ws') ++ r
                simp only [List.append_assoc]
              · intro wp h
                rcases List.mem_cons.mp h with rfl | h
                · exact hw.2
                · exact nlt_trans hw.2 (q3 wp h)
              · intro wp h
                rcases List.mem_cons.mp h with rfl | h
                · exact ⟨hw.1, t2, hp, p2⟩
                · exact q4 wp h
              · exact List.pairwise_cons.mpr ⟨fun wp h => q3 wp h, q5⟩
      · cases h
theorem wordsR_ok {l : List Int} {ws : Words} {r : List Int} (h : wordsR l = some (ws, r)) : l = wordsB ws ++ r ∧ ws ≠ [] ∧ WordsOk ws := by
  unfold wordsR at h
  split at h
  · cases h
  · rename_i m r1 e1
    split at h
    · cases h
    · rename_i hm
      obtain ⟨p1, p2⟩ := numR_ok e1
      obtain ⟨q1, q2, q3, q4⟩ := wordsK_ok h
      refine ⟨?_, fun z => ?_, q4⟩
      · rw [p2, q2]
        unfold wordsB lenI numI
        rw [q1, List.append_assoc]
      · rw [z] at q1
        simp at q1
        omega
theorem wordsR_suf {l : List Int} {ws : Words} {r : List Int} (h : wordsR l = some (ws, r)) : r <:+ l := ⟨_, (wordsR_ok h).1.symm⟩
/-! ### fields -/
def lensR : Nat → List Int → Option (List Int × List Int)
  | 0, l => some ([], l)
  | k + 1, l =>
    match numR l with
    | none => none
    | some (n, r) =>
      match lensR k r with
      | none => none
      | some (ns, r') => some (n :: ns, r')
def lensB (ns : List Int) : List Int := ns.flatMap numI
theorem lensR_ok : ∀ {k : Nat} {l ns r : List Int}, lensR k l = some (ns, r) → ns.length = k ∧ l = lensB ns ++ r ∧ ∀ n ∈ ns, 0 ≤ n
  | 0, l, ns, r, h => by
    have e := Option.some.inj h
    cases e
    exact ⟨rfl, rfl, fun _ h => (by cases h)⟩
  | k + 1, l, ns, r, h => by
    unfold lensR at h
    split at h
    · cases h
    · rename_i n r1 e1
      split at h
      · cases h
      · rename_i ns' r' e2
        have e := Option.some.inj h
        cases e
        obtain ⟨p1, p2⟩ := numR_ok e1
        obtain ⟨q1, q2, q3⟩ := lensR_ok e2
        refine ⟨by simp [q1], ?_, fun x hx => ?_⟩
        · rw [p2, q2]
          show _ = (numI n ++ lensB ns') ++ r
          rw [List.append_assoc]
        · rcases List.mem_cons.mp hx with rfl | hx
          · exact p1
          · exact q3 x hx
/-- the places of a make in the words, word for word -/
def gathP (ps : Posts) (m : Int) : List Int := ps.flatMap fun p => if p.1 = m then p.2 else []
def gath (ws : Words) (m : Int) : List Int := ws.flatMap fun wp => gathP wp.2 m
def iota (n : Nat) : List Int := (List.range n).map Int.ofNat
def Filled (makes ns : List Int) (ws : Words) : Prop :=
  (∀ wp ∈ ws, ∀ p ∈ wp.2, p.1 ∈ makes) ∧ ∀ mn ∈ makes.zip ns, mn.2 = ((gath ws mn.1).length : Int) ∧ (gath ws mn.1).Perm (iota (gath ws mn.1).length)
abbrev Field := List Nat × List Int × Words
open Classical in
noncomputable def fieldR (makes : List Int) (last : List Nat) (l : List Int) : Option (Field × List Int) :=
  match textR l with
  | none => none
  | some (f, r) => if nameB f = true ∧ last < f then
      match lensR makes.length r with
      | none => none
      | some (ns, r1) =>
        match wordsR r1 with
        | none => none
        | some (ws, r2) => if Filled makes ns ws then some ((f, ns, ws), r2) else none
    else none
noncomputable def fieldsK (makes : List Int) : Nat → List Nat → List Int → Option (List Field × List Int)
  | 0, _, l => some ([], l)
  | k + 1, last, l =>
    match fieldR makes last l with
    | none => none
    | some (f, r) =>
      match fieldsK makes k f.1 r with
      | none => none
      | some (fs, r') => some (f :: fs, r')
noncomputable def pieceR (l : List Int) : Option (List Int × List Field) :=
  match numR l with
  | none => none
  | some (m, r) =>
    match risR m.toNat none r with
    | none => none
    | some (makes, r1) =>
      match numR r1 with
      | none => none
      | some (k, r2) =>
        match fieldsK makes k.toNat [] r2 with
        | none => none
        | some (fs, r3) => if r3 = [] then some (makes, fs) else none
def fieldB (f : Field) : List Int := textB f.1 ++ (lensB f.2.1 ++ wordsB f.2.2)
def pieceB (makes : List Int) (fs : List Field) : List Int := lenI makes ++ (placesB 0 makes ++ (lenI fs ++ fs.flatMap fieldB))
def FieldOk (makes : List Int) (f : Field) : Prop := nameB f.1 = true ∧ (∀ c ∈ f.1, okB (c : Int)) ∧ f.2.1.length = makes.length ∧ (∀ n ∈ f.2.1, 0 ≤ n) ∧ f.2.2 ≠ [] ∧ WordsOk f.2.2 ∧ Filled makes f.2.1 f.2.2
theorem fieldR_ok {makes : List Int} {last : List Nat} {l : List Int} {f : Field} {r : List Int} (h : fieldR makes last l = some (f, r)) : l = fieldB f ++ r ∧ last < f.1 ∧ FieldOk makes f := by
  unfold fieldR at h
  split at h
  · cases h
  · rename_i nm r1 e1
    split at h
    · rename_i hn
      split at h
      · cases h
      · rename_i ns r2 e2
        split at h
        · cases h
        · rename_i ws r3 e3
          split at h
          · rename_i hf
            have e := Option.some.inj h
            cases e
            obtain ⟨t1, t2⟩ := textR_ok e1
            obtain ⟨l1, l2, l3⟩ := lensR_ok e2
            obtain ⟨w1, w2, w3⟩ := wordsR_ok e3
            refine ⟨?_, hn.2, hn.1, t2, l1, l3, w2, w3, hf⟩
            rw [t1, l2, w1]
            unfold fieldB
            simp only [List.append_assoc]
          · cases h
    · cases h
theorem fieldsK_ok {makes : List Int} : ∀ {k : Nat} {last : List Nat} {l : List Int} {fs : List Field} {r : List Int}, fieldsK makes k last l = some (fs, r) → fs.length = k ∧ l = fs.flatMap fieldB ++ r ∧ (∀ f ∈ fs, last < f.1 ∧ FieldOk makes f) ∧ fs.Pairwise fun a b => a.1 < b.1
  | 0, last, l, fs, r, h => by
    have e := Option.some.inj h
    cases e
    exact ⟨rfl, rfl, fun _ h => (by cases h), .nil⟩
  | k + 1, last, l, fs, r, h => by
    unfold fieldsK at h
    split at h
    · cases h
    · rename_i f r1 e1
      split at h
      · cases h
      · rename_i fs' r' e2
        have e := Option.some.inj h
        cases e
        obtain ⟨p1, p2, p3⟩ := fieldR_ok e1
        obtain ⟨q1, q2, q3, q4⟩ := fieldsK_ok e2
        refine ⟨by simp [q1], ?_, fun g hg => ?_, List.pairwise_cons.mpr ⟨fun g hg => (q3 g hg).1, q4⟩⟩
        · rw [p1, q2, List.flatMap_cons, List.append_assoc]
        · rcases List.mem_cons.mp hg with rfl | hg
          · exact ⟨p2, p3⟩
          · exact ⟨nlt_trans p2 (q3 g hg).1, (q3 g hg).2⟩
/-- what is so of a piece that was read -/
structure PieceOk (makes : List Int) (fs : List Field) : Prop where
  nn : ∀ m ∈ makes, 0 ≤ m
  rise : makes.Pairwise (· < ·)
  fok : ∀ f ∈ fs, FieldOk makes f
  frise : fs.Pairwise fun a b => a.1 < b.1
theorem pieceR_ok {l makes : List Int} {fs : List Field} (h : pieceR l = some (makes, fs)) : l = pieceB makes fs ∧ PieceOk makes fs := by
  unfold pieceR at h
  split at h
  · cases h
  · rename_i m r1 e1
    split at h
    · cases h
    · rename_i mk r2 e2
      split at h
      · cases h
      · rename_i k r3 e3
        split at h
        · cases h
        · rename_i fs' r4 e4
          split at h
          · rename_i e5
            have e := Option.some.inj h
            cases e
            obtain ⟨a1, a2⟩ := numR_ok e1
            obtain ⟨b1, b2, b3, b4⟩ := risR_ok e2
            obtain ⟨c1, c2⟩ := numR_ok e3
            obtain ⟨d1, d2, d3, d4⟩ := fieldsK_ok e4
            refine ⟨?_, fun m hm => (b3 m hm).1, b4, fun f hf => (d3 f hf).2, d4⟩
            rw [a2, b2, c2, d2, e5]
            unfold pieceB lenI numI
            rw [b1, d1, List.append_nil]
            rfl
          · cases h
end FC
/-! W02: the reader: its state, sure, next_byte. -/
namespace FC
open PySem PySem.Spec PyProof.Rows L2
abbrev S (w : List Nat) : Str := ⟨w.toArray⟩
/-! ### the reader's state -/
def posR (row rest : List Int) : Int := ((row.length - rest.length : Nat) : Int)
def SignsD (kvs : List (Key × V)) : Prop := ∀ b : Int, valV kvs (Sum.inl b : Key) = if okB b then some (V.str ⟨#[b.toNat]⟩) else none
def fsR (a : Addr) (i : Int) (d : Addr) : List (Str × V) := [("row", .ref a), ("at", .int i), ("signs", .ref d)]
theorem fsR_row (a : Addr) (i : Int) (d : Addr) : (fsR a i d).lookup ("row" : Str) = some (V.ref a) := rfl
theorem fsR_at (a : Addr) (i : Int) (d : Addr) : (fsR a i d).lookup ("at" : Str) = some (V.int i) := rfl
theorem fsR_signs (a : Addr) (i : Int) (d : Addr) : (fsR a i d).lookup ("signs" : Str) = some (V.ref d) := rfl
theorem fsR_put (a : Addr) (i j : Int) (d : Addr) : putF ("at" : Str) (.int j) (fsR a i d) = fsR a j d := rfl
structure Rdr (K : PySem.W.Frag) (c : Cl) (H : Hp) (x a d : Addr) (row re : List Int) : Prop where
  ins : ∃ dx, H x = some (.ins c.ByteReader dx (fsR a (posR row re) d))
  lst : H a = some (.lst (row.map V.int))
  sig : ∃ kvs, H d = some (.dK kvs) ∧ SignsD kvs
  suf : re <:+ row
  len : row.length ≤ 360
def NoF (fs : List (Str × V)) (m : Str) : Prop := fs.lookup m = none
def byteR : List Int → Option (Int × List Int)
  | [] => none
  | b :: r => if 0 ≤ b ∧ b ≤ 255 then some (b, r) else none
/-- what a reading method promises: what it reads, or NoBytes -/
def RdP {α : Type} (K : PySem.W.Frag) (c : Cl) (H : Hp) (x a d : Addr) (row : List Int) (res : Option (α × List Int)) (val : α → Hp → Hp → V → Prop) (Q : VK) (E : XK) : Prop :=
  (∀ y r, res = some (y, r) → ∀ v H', Kp [x] H H' → Rdr K c H' x a d row r → val y H H' v → Q v H') ∧ (res = none → ∀ H', Kp [x] H H' → E (.ref c.NoBytes) none H')
def vInt : Int → Hp → Hp → V → Prop := fun n _ _ v => v = .int n
def spSure (c : Cl) : Sp := fun vs H Q E => ∃ (x : Addr) (b : Bool), vs = [.ref x, .bl b] ∧ (b = true → Q .non H) ∧ (b = false → E (.ref c.NoBytes) none H)
def spByte (K : PySem.W.Frag) (c : Cl) : Sp := fun vs H Q E => ∃ (x a d : Addr) (row re : List Int), vs = [.ref x] ∧ Rdr K c H x a d row re ∧ RdP K c H x a d row (byteR re) vInt Q E
theorem Kp.seq {K : PySem.W.Frag} {xs : List Addr} {H H' : Hp} {a : Addr} {vs : List V} (k : Kp xs H H') (h : SqL K H a vs) (n : ∀ b o, H b = some o → b ∈ xs → b ≠ a) : SqL K H' a vs := by
  rcases h with (h | ⟨o, h⟩) | h
  · exact .inl (.inl (k _ _ h fun z => n _ _ h z rfl))
  · exact .inl (.inr ⟨o, k _ _ h fun z => n _ _ h z rfl⟩)
  · exact .inr h
theorem ins_ne {H : Hp} {x a C dx : Addr} {fs : List (Str × V)} {o : HO} (h : H x = some (.ins C dx fs)) (ha : H a = some o) (n : ∀ C dx fs, o ≠ .ins C dx fs) : a ≠ x := fun e => by
  rw [e, h] at ha
  exact n _ _ _ (Option.some.inj ha).symm
theorem suf_drop {b : Int} {r row : List Int} (h : (b :: r) <:+ row) : row[row.length - (b :: r).length]? = some b ∧ r <:+ row := by
  obtain ⟨p, rfl⟩ := h
  refine ⟨?_, ⟨p ++ [b], by simp⟩⟩
  rw [List.length_append, Nat.add_sub_cancel]
  simp
section
variable {K : PySem.W.Frag} {c : Cl} {H H0 H' : Hp} {x a d l : Addr} {row re re0 : List Int} {xs : List Addr} {o : HO}
theorem Rdr.keep (R : Rdr K c H x a d row re) (k : Kp xs H H') (hx : x ∉ xs) (ha : a ∉ xs) (hd : d ∉ xs) : Rdr K c H' x a d row re := by
  obtain ⟨⟨dx, h1⟩, h2, ⟨kvs, h3, h4⟩, h5, h6⟩ := R
  exact ⟨⟨dx, k _ _ h1 hx⟩, k _ _ h2 ha, ⟨kvs, k _ _ h3 hd, h4⟩, h5, h6⟩
theorem Rdr.same (R : Rdr K c H x a d row re) (k : Same H H') : Rdr K c H' x a d row re := R.keep (xs := []) (Kp.same k) (fun z => nomatch z) (fun z => nomatch z) (fun z => nomatch z)
theorem Rdr.new (R : Rdr K c H x a d row re) (h : H l = none) : Rdr K c (upd H l o) x a d row re := R.same (Same.upd_new h)
theorem Rdr.nel (R : Rdr K c H x a d row re) (h : H l = none) : x ≠ l ∧ a ≠ l ∧ d ≠ l := by
  obtain ⟨⟨dx, h1⟩, h2, ⟨kvs, h3, h4⟩, h5, h6⟩ := R
  exact ⟨ne_of_none h1 h, ne_of_none h2 h, ne_of_none h3 h⟩
/-- what was not there at first changes -/
theorem Rdr.put (R : Rdr K c H x a d row re) (R0 : Rdr K c H0 x a d row re0) (h : H0 l = none) : Rdr K c (upd H l o) x a d row re := by
  obtain ⟨n1, n2, n3⟩ := R0.nel h
  exact R.keep (xs := [l]) (Kp.refl.at (by simp)) (by simpa using n1) (by simpa using n2) (by simpa using n3)
theorem Rdr.noF (R : Rdr K c H x a d row re) : ∃ dx fs, H x = some (.ins c.ByteReader dx fs) ∧ NoF fs "next_byte" ∧ NoF fs "sure" ∧ NoF fs "next_number" ∧ NoF fs "next_rising" ∧ NoF fs "next_text" ∧
    NoF fs "next_postings" ∧ NoF fs "next_words" ∧ NoF fs "next_field" ∧ NoF fs "sure_filled" ∧ NoF fs "next_piece" ∧ NoF fs "ended" := by
  obtain ⟨⟨dx, h1⟩, _⟩ := R
  exact ⟨dx, _, h1, rfl, rfl, rfl, rfl, rfl, rfl, rfl, rfl, rfl, rfl, rfl⟩
end
section
variable {P : Program} {w : World} {K : PySem.W.Frag} {mg : Str → Option Value} {base : Heap} {c : Cl}
theorem ok_sure (T : Txt K mg c) : GMt P w K mg base (L2.CX P w) 1 c.ByteReader "sure" ["self", "good"] (spSure c) := by
  obtain ⟨f, fd, F, hm, hb⟩ := T.d_sure
  refine ⟨f, fd, hm, hb, F.okX sc_ByteReader_sure (fun vs H Q E h => ?_) (fun cdv A outer s H vs Q E hr h => ?_)⟩
  · obtain ⟨x, b, rfl, _⟩ := h
    rfl
  · obtain ⟨x, b, rfl, q1, q2⟩ := h
    have nd := sc_ByteReader_sure.nd
    refine ⟨_, (pss_one (ps_if (pt_not (pt_val (pv 1)))
        (pss_one (ps_raise rfl (takes_of rfl rfl rfl rfl) (pmk_own PySem.F.excBase_ValueError T.x_NoBytes T.c_NoBytes T.kp_NoBytes (raises_own T.sb_NoBytes T.ty_NoBytes) rfl)))
        pss_nil)), ?_⟩
    refine ⟨_, rfl, b, rfl, ?_⟩
    cases b with
    | true => exact q1 rfl
    | false => exact q2 rfl
theorem ok_next_byte (T : Txt K mg c) : GMt P w K mg base (L2.CX P w) 2 c.ByteReader "next_byte" ["self"] (spByte K c) := by
  obtain ⟨f, fd, F, hm, hb⟩ := T.d_next_byte
  have g_sure : GMt P w K mg base (L2.CX P w) 1 c.ByteReader "sure" ["self", "good"] (spSure c) := ok_sure T
  refine ⟨f, fd, hm, hb, F.okX sc_ByteReader_next_byte (fun vs H Q E h => ?_) (fun cdv A outer s H vs Q E hr h => ?_)⟩
  · obtain ⟨x, a, d, row, re, rfl, _⟩ := h
    rfl
  · obtain ⟨x, a, d, row, re, rfl, ⟨⟨dx, hx⟩, hA, ⟨kvs, hd, hs⟩, suf, hl⟩, q1, q2⟩ := h
    have nd := sc_ByteReader_next_byte.nd
    refine ⟨_, (pss_cons (ps_expr (pe_gm (pv 0) T.k_ByteReader g_sure hr (passes_call (takes_of rfl rfl rfl rfl) (fun _ _ _ _ h => h)) (pa_cons (pe_cmpR op_lt (pe_fld (pv 0) rfl) (pe_callB call_len_seq (by rfl) T.b_len boot_len (pa_cons (pe_fld (pv 0) rfl) pa_nil)) (nomark _)) pa_nil)))
      (pss_cons (ps_set (i := 1) nd rfl (.inl rfl) (pe_ix ix_list (pe_fld (pv 0) rfl) (pe_fld (pv 0) rfl) (fun _ _ => rfl)))
      (pss_cons (ps_expr (pe_gm (pv 0) T.k_ByteReader g_sure hr (passes_call (takes_of rfl rfl rfl rfl) (fun _ _ _ _ h => h)) (pa_cons (pe_chain op_le op_le pe_int (pv 1) pe_int) pa_nil)))
      (pss_cons (ps_fldaug (pv 0) pe_int in_add)
      (pss_one (ps_ret (pv 1))))))), ?_⟩
    refine ⟨_, rfl, x, dx, _, rfl, hx, rfl, _, rfl, x, _, dx, _, _, rfl, hx, T.k_ByteReader, T.a_at, fsR_at _ _ _, _, rfl, x, _, dx, _, _, rfl, hx, T.k_ByteReader, T.a_row, fsR_row _ _ _, a, _, rfl, .inl (SqL.of hA), _, _, rfl, rfl, ?_⟩
    refine ⟨x, _, rfl, fun e => ?_, fun e => ?_⟩
    · have e' := of_decide_eq_true e
      rw [List.length_map] at e'
      cases re with
      | nil =>
        unfold posR at e'
        simp only [List.length_nil] at e'
        omega
      | cons b r =>
        obtain ⟨g1, g2⟩ := suf_drop suf
        have gb : (row.map V.int)[row.length - (b :: r).length]? = some (.int b) := by rw [List.getElem?_map, g1]; rfl
        refine ⟨_, rfl, x, _, dx, _, _, rfl, hx, T.k_ByteReader, T.a_row, fsR_row _ _ _, _, rfl, x, _, dx, _, _, rfl, hx, T.k_ByteReader, T.a_at, fsR_at _ _ _, a, _, _, _, rfl, rfl, SqL.of hA, atI_nat gb, ?_⟩
        have fin1 : 0 ≤ b ∧ b ≤ 255 → tSeq (sFldAug K (tVar 0) (tC (.int 1)) rAdd "at") (tRet (tVar 1)) { nx := fun _ H' => Q .non H', rt := Q } [some (.ref x), some (.int b)] H := fun hb => by
          have hj : posR row (b :: r) + 1 = posR row r := by
            unfold posR
            have h1 := suf.length_le
            have h2 : (b :: r).length = r.length + 1 := rfl
            omega
          refine ⟨_, rfl, x, _, dx, _, _, rfl, hx, T.k_ByteReader, T.a_at, fsR_at _ _ _, _, _, rfl, rfl, dx, _, hx, (by show 3 < 1000; decide), _, rfl, ?_⟩
          refine q1 b r (by show (if _ then _ else _) = _; rw [if_pos hb]) _ _ (Kp.refl.at (by simp)) ⟨⟨dx, ?_⟩, ?_, ⟨kvs, ?_, hs⟩, g2, hl⟩ rfl
          · rw [upd_same, fsR_put, hj]
          · rw [upd_ne (ins_ne hx hA (by intro _ _ _ z; cases z))]
            exact hA
          · rw [upd_ne (ins_ne hx hd (by intro _ _ _ z; cases z))]
            exact hd
        have fin2 : ¬ (0 ≤ b ∧ b ≤ 255) → E (.ref c.NoBytes) none H := fun hb => q2 (by show (if _ then _ else _) = _; rw [if_neg hb]) H Kp.refl
        refine ⟨_, rfl, x, dx, _, rfl, hx, rfl, _, rfl, _, _, rfl, rfl, _, rfl, ite2 (fun e1 => ?_) (fun e1 => ?_)⟩
        · have e1' := of_decide_eq_true e1
          refine ⟨_, _, rfl, rfl, x, _, rfl, fun e2 => fin1 ⟨e1', of_decide_eq_true e2⟩, fun e2 => fin2 fun z => of_decide_eq_false e2 z.2⟩
        · refine ⟨x, _, rfl, (fun z => nomatch z), fun _ => fin2 fun z => e1 (decide_eq_true z.1)⟩
    · have e' := of_decide_eq_false e
      rw [List.length_map] at e'
      refine q2 ?_ H Kp.refl
      cases re with
      | nil => rfl
      | cons b r =>
        exfalso
        apply e'
        unfold posR
        have h1 := suf.length_le
        have h2 : (b :: r).length = r.length + 1 := rfl
        omega
end
end FC
/-! W03: next_number. -/
namespace FC
open PySem PySem.Spec PyProof.Rows L2
/-! ### parts -/
def gpt : List Int → Option (Int × List Int) → Option (Int × List Int)
  | [], o => o
  | p :: ps, o => match gpt ps o with
    | none => none
    | some (n, r) => if n = 0 then none else some (p + 128 * n, r)
theorem gpt_none : ∀ ps : List Int, gpt ps none = none
  | [] => rfl
  | p :: ps => by unfold gpt; rw [gpt_none ps]
theorem gpt_snoc : ∀ (ps : List Int) (p : Int) (o : Option (Int × List Int)), gpt (ps ++ [p]) o = gpt ps (gpt [p] o)
  | [], p, o => rfl
  | q :: ps, p, o => by
    show (match gpt (ps ++ [p]) o with | none => none | some (n, r) => if n = 0 then none else some (q + 128 * n, r)) = _
    rw [gpt_snoc ps p o]
    rfl
theorem numR_ge {b : Int} {r : List Int} (h1 : 128 ≤ b) (h2 : b ≤ 255) : numR (b :: r) = gpt [b - 128] (numR r) := by
  conv => lhs; unfold numR
  rw [if_pos ⟨by omega, h2⟩, if_neg (by omega)]
  rfl
theorem numR_lt {b : Int} {r : List Int} (h1 : 0 ≤ b) (h2 : b < 128) : numR (b :: r) = some (b, r) := by
  conv => lhs; unfold numR
  rw [if_pos ⟨by omega, by omega⟩, if_pos h2]
theorem numR_bad {l : List Int} (h : byteR l = none) : numR l = none := by
  cases l with
  | nil => rfl
  | cons b r =>
    have h' : (if 0 ≤ b ∧ b ≤ 255 then some (b, r) else none) = none := h
    unfold numR
    by_cases hb : 0 ≤ b ∧ b ≤ 255
    · rw [if_pos hb] at h'
      cases h'
    · rw [if_neg hb]
theorem gpt_zero {r : List Int} : ∀ {ps : List Int}, ps ≠ [] → gpt ps (some (0, r)) = none
  | [], h => absurd rfl h
  | [p], _ => rfl
  | p :: q :: ps, _ => by
    unfold gpt
    rw [gpt_zero (by simp)]
def fld (ps : List Int) (b : Int) : Int := ps.foldr (fun p n => n * 128 + p) b
theorem fld_pos : ∀ {ps : List Int} {b : Int}, (∀ p ∈ ps, 0 ≤ p) → 0 < b → 0 < fld ps b
  | [], b, _, h => h
  | p :: ps, b, hp, h => by
    have h1 := fld_pos (ps := ps) (fun q hq => hp q (List.mem_cons_of_mem _ hq)) h
    have h2 := hp p List.mem_cons_self
    show 0 < fld ps b * 128 + p
    omega
theorem gpt_val {r : List Int} : ∀ {ps : List Int} {b : Int}, (∀ p ∈ ps, 0 ≤ p) → (0 < b ∨ ps = []) → gpt ps (some (b, r)) = some (fld ps b, r)
  | [], b, _, _ => rfl
  | p :: ps, b, hp, h => by
    have hb : 0 < b := by
      rcases h with h | h
      · exact h
      · cases h
    have hq : ∀ q ∈ ps, 0 ≤ q := fun q hq => hp q (List.mem_cons_of_mem _ hq)
    unfold gpt
    rw [gpt_val hq (.inl hb)]
    have := fld_pos hq hb
    show (if fld ps b = 0 then none else some (p + 128 * fld ps b, r)) = some (fld ps b * 128 + p, r)
    rw [if_neg (by omega)]
    congr 2
    omega
theorem byteR_some {l : List Int} {b : Int} {r : List Int} (h : byteR l = some (b, r)) : l = b :: r ∧ 0 ≤ b ∧ b ≤ 255 := by
  cases l with
  | nil => cases h
  | cons x l =>
    have h' : (if 0 ≤ x ∧ x ≤ 255 then some (x, l) else none) = some (b, r) := h
    by_cases hb : 0 ≤ x ∧ x ≤ 255
    · rw [if_pos hb] at h'
      cases Option.some.inj h'
      exact ⟨rfl, hb⟩
    · rw [if_neg hb] at h'
      cases h'
def spNumber (K : PySem.W.Frag) (c : Cl) : Sp := fun vs H Q E => ∃ (x a d : Addr) (row re : List Int), vs = [.ref x] ∧ Rdr K c H x a d row re ∧ RdP K c H x a d row (numR re) vInt Q E
section
variable {P : Program} {w : World} {K : PySem.W.Frag} {mg : Str → Option Value} {base : Heap} {c : Cl}
theorem ok_next_number (T : Txt K mg c) : GMt P w K mg base (L2.CX P w) 3 c.ByteReader "next_number" ["self"] (spNumber K c) := by
  obtain ⟨f, fd, F, hm, hb⟩ := T.d_next_number
  have g_sure : GMt P w K mg base (L2.CX P w) 1 c.ByteReader "sure" ["self", "good"] (spSure c) := ok_sure T
  have g_next_byte : GMt P w K mg base (L2.CX P w) 2 c.ByteReader "next_byte" ["self"] (spByte K c) := ok_next_byte T
  refine ⟨f, fd, hm, hb, F.okX sc_ByteReader_next_number (fun vs H Q E h => ?_) (fun cdv A outer s H vs Q E hr h => ?_)⟩
  · obtain ⟨x, a, d, row, re, rfl, _⟩ := h
    rfl
  · obtain ⟨x, a, d, row, re, rfl, R, q1, q2⟩ := h
    have nd := sc_ByteReader_next_number.nd
    refine ⟨_, (pss_cons (ps_set (i := 1) nd rfl (.inl rfl) (pe_lst pa_nil))
      (pss_cons (ps_set (i := 2) nd rfl (.inl rfl) (pe_gm0 (pv 0) T.k_ByteReader g_next_byte hr (passes_call (takes_of rfl rfl rfl rfl) (fun _ _ _ _ h => h))))
      (pss_cons (ps_while (passes_of rfl) (pt_cmpR op_ge (pv 2) pe_int (nomark _))
        (pss_cons (ps_expr (pe_bm PySem.F.plainAttrs_list PySem.F.slot_list_append PySem.F.type_list_append mt_append (pv 1) (pa_cons (pe_op op_sub (pv 2) pe_int) pa_nil)))
        (pss_one (ps_set (i := 2) nd rfl (.inl rfl) (pe_gm0 (pv 0) T.k_ByteReader g_next_byte hr (passes_call (takes_of rfl rfl rfl rfl) (fun _ _ _ _ h => h)))))))
      (pss_cons (ps_expr (pe_gm (pv 0) T.k_ByteReader g_sure hr (passes_call (takes_of rfl rfl rfl rfl) (fun _ _ _ _ h => h)) (pa_cons (pe_or (pe_cmpR op_gt (pv 2) pe_int (nomark _)) (pe_one (pe_cmpR op_eq (pe_callB call_len_seq (by rfl) T.b_len boot_len (pa_cons (pv 1) pa_nil)) pe_int (nomark _)))) pa_nil)))
      (pss_cons (ps_for (passes_of rfl) rfl (pi_reversed (by rfl) T.b_reversed (pa_cons (pv 1) pa_nil)) (pg_name (i := 3) nd rfl (.inl rfl))
        (pss_one (ps_set (i := 2) nd rfl (.inl rfl) (pe_op op_add (pe_op op_mul (pv 2) pe_int) (pv 3)))))
      (pss_one (ps_ret (pv 2)))))))), ?_⟩
    -- the next step
    refine ⟨sl_line (Nat.zero_le _), fun l hl => ?_⟩
    have R1 : Rdr K c (upd H l (.lst [])) x a d row re := R.new hl
    obtain ⟨nx, na, ndd⟩ := R.nel hl
    obtain ⟨dx, fs, hx, n1, n2, _⟩ := R1.noF
    -- the next step
    refine ⟨_, rfl, x, dx, fs, rfl, hx, n1, x, a, d, row, re, rfl, R1, fun b0 r e v H1 k1 R2 hv => ?_, fun e H1 k1 => q2 (numR_bad e) H1 ((Kp.refl.new hl).trans k1)⟩
    subst hv
    obtain ⟨rfl, hb0, hb1⟩ := byteR_some e
    have hl1 : H1 l = some (.lst []) := k1 _ _ upd_same (by simpa using nx.symm)
    -- the next step
    refine ⟨fun m σ H' => ∃ (ps : List Int) (b : Int) (r' : List Int) (y : Option V), σ = [some (.ref x), some (.ref l), some (.int b), y] ∧ m = r'.length ∧ Kp [x] H H' ∧ H' l = some (.lst (ps.map V.int)) ∧ Rdr K c H' x a d row r' ∧
      (∀ p ∈ ps, 0 ≤ p) ∧ ps.length + r'.length ≤ 360 ∧ 0 ≤ b ∧ b ≤ 255 ∧ numR (b0 :: r) = gpt ps (numR (b :: r')), ⟨r.length, [], b0, r, none, rfl, rfl, (Kp.refl.new hl).trans k1, hl1, R2, (fun _ z => nomatch z), ?_, hb0, hb1, rfl⟩, ?_⟩
    · have := R2.suf.length_le
      have := R2.len
      simp only [List.length_nil]
      omega
    · rintro m σ H2 ⟨ps, b, r2, y, rfl, rfl, k2, h2, R3, hp, hsz, c0, c1, en⟩
      refine ⟨_, rfl, _, _, rfl, rfl, _, rfl, ite2 (fun e1 => ?_) (fun e1 => ?_)⟩
      · -- one more part
        have e1' : 128 ≤ b := of_decide_eq_true e1
        refine ⟨fun σ' H' => ∃ (b' : Int) (r' : List Int), r2 = b' :: r' ∧ 0 ≤ b' ∧ b' ≤ 255 ∧ σ' = [some (.ref x), some (.ref l), some (.int b'), y] ∧ Kp [x] H H' ∧ H' l = some (.lst ((ps ++ [b - 128]).map V.int)) ∧ Rdr K c H' x a d row r', ?_, ?_⟩
        · rintro σ' H' ⟨b', r', rfl, d0, d1, rfl, k3, h3, R4⟩
          refine ⟨r'.length, by simp, ps ++ [b - 128], b', r', y, rfl, rfl, k3, h3, R4, fun p hp' => ?_, ?_, d0, d1, ?_⟩
          · rcases List.mem_append.mp hp' with z | z
            · exact hp p z
            · have : p = b - 128 := by simpa using z
              omega
          · simp only [List.length_append, List.length_cons, List.length_nil] at hsz ⊢
            omega
          · rw [en, numR_ge e1' c1, gpt_snoc]
        · -- the next step
          refine ⟨_, rfl, .inl ⟨rfl, _, SqL.of h2⟩, _, rfl, _, _, rfl, rfl, l, _, _, rfl, rfl, h2, ?_, ?_⟩
          · rw [List.length_map]
            exact sl_lt (by omega)
          have k3 : Kp [x] H (upd H2 l (.lst (ps.map V.int ++ [.int (b - 128)]))) := k2.mut hl
          have R4 : Rdr K c (upd H2 l (.lst (ps.map V.int ++ [.int (b - 128)]))) x a d row r2 := R3.put R hl
          obtain ⟨dx, fs, hx, n1, n2, _⟩ := R4.noF
          refine ⟨_, rfl, x, dx, fs, rfl, hx, n1, x, a, d, row, r2, rfl, R4, fun b' r' e v H3 k4 R5 hv => ?_, fun e H3 k4 => q2 ?_ H3 (k3.trans k4)⟩
          · subst hv
            obtain ⟨rfl, d0, d1⟩ := byteR_some e
            refine ⟨b', r', rfl, d0, d1, rfl, k3.trans k4, ?_, R5⟩
            rw [k4 _ _ upd_same (by simpa using nx.symm), List.map_append]
            rfl
          · rw [en, numR_ge e1' c1, numR_bad e, gpt_none, gpt_none]
      · -- the next step
        have e1' : b < 128 := by have := of_decide_eq_false (Bool.eq_false_iff.mpr e1); omega
        rw [numR_lt c0 e1'] at en
        obtain ⟨dx, fs, hx, n1, n2, _⟩ := R3.noF
        have fin : (0 < b ∨ ps = []) → tSeq (tFor (iRev K (tCons (tVar 1) tNil)) (gName 3) (tAsg (tOp (rI0 fun i j => .int (i + j)) (tOp (rI CMul fun i j => .int (i * j)) (tVar 2) (tC (.int 128))) (tVar 3)) (gName 2))) (tRet (tVar 2)) { nx := fun _ H' => Q .non H', rt := Q } [some (.ref x), some (.ref l), some (.int b), y] H2 := fun hz => by
          refine ⟨_, rfl, l, ps.map V.int, rfl, SqL.of h2, for_it walk_rev (fun i σ H' => ∃ y', σ = [some (.ref x), some (.ref l), some (.int (fld (ps.drop (ps.length - i)) b)), y'] ∧ H' = H2) ⟨y, ?_, rfl⟩ (fun i σ H' _ ⟨_, _, e⟩ => e ▸ SqL.of h2) ?_ ?_⟩
          · rw [Nat.sub_zero, List.drop_length]
            rfl
          · rintro i v σ H' H'' hi ⟨y', rfl, rfl⟩ ⟨rfl, hv⟩
            rw [List.length_map] at hi hv
            rw [List.getElem?_map] at hv
            cases ej : ps[ps.length - 1 - i]? with
            | none =>
              rw [ej] at hv
              cases hv
            | some p =>
              rw [ej] at hv
              cases Option.some.inj hv
              refine ⟨_, rfl, _, _, rfl, rfl, .inr ⟨by decide, by decide⟩, _, rfl, _, _, rfl, rfl, some (.int p), ?_, rfl⟩
              have e3 : ps.drop (ps.length - (i + 1)) = p :: ps.drop (ps.length - i) := by
                have h1 : ps.length - (i + 1) < ps.length := by omega
                rw [List.drop_eq_getElem_cons h1, show ps.length - (i + 1) + 1 = ps.length - i by omega]
                have h3 := List.getElem?_eq_getElem h1
                have h4 : ps[ps.length - (i + 1)]? = some p := by
                  rw [show ps.length - (i + 1) = ps.length - 1 - i by omega]
                  exact ej
                rw [Option.some.inj (h3.symm.trans h4)]
              rw [e3]
              rfl
          · rintro σ H' ⟨y', rfl, rfl⟩
            rw [List.length_map, Nat.sub_self, List.drop_zero]
            refine ⟨_, rfl, q1 _ r2 ?_ _ _ k2 R3 rfl⟩
            rw [en, gpt_val hp hz]
        refine ⟨_, rfl, x, dx, fs, rfl, hx, n2, _, rfl, _, _, rfl, rfl, _, rfl, ite2 (fun e2 => ?_) (fun e2 => ?_)⟩
        · exact ⟨x, _, rfl, fun _ => fin (.inl (of_decide_eq_true e2)), fun z => nomatch z⟩
        · have e2' : ¬ 0 < b := of_decide_eq_false (Bool.eq_false_iff.mpr e2)
          have eb : b = 0 := by omega
          refine ⟨_, rfl, l, _, rfl, .inl (SqL.of h2), rfl, x, _, rfl, fun e3 => ?_, fun e3 => ?_⟩
          · have e4 : (((ps.map V.int).length : Nat) : Int) = 0 := V.int.inj (of_decide_eq_true e3)
            refine fin (.inr ?_)
            cases ps with
            | nil => rfl
            | cons p ps => simp at e4; omega
          · refine q2 ?_ H2 k2
            rw [en, eb, gpt_zero]
            rintro rfl
            simp at e3
end
end FC
/-! W04: next_rising, next_text. -/
namespace FC
open PySem PySem.Spec PyProof.Rows L2
/-! ### the last of a list, by a slice -/
theorem cut_last (f : List Int) : cutV (f.map V.int) (some (-1)) none = (f.getLast?.toList).map V.int := by
  unfold cutV
  rw [HT.sIx_none, List.length_map]
  have e : HT.sIx f.length 0 (some (-1)) = f.length - 1 := by
    show (if (-1 : Int) < 0 then (-1 + (f.length : Int)).toNat else min (-1 : Int).toNat f.length) = _
    rw [if_pos (by decide)]
    omega
  rw [e]
  rcases List.eq_nil_or_concat f with rfl | ⟨g, x, rfl⟩
  · rfl
  · simp
theorem sum_last (f : List Int) : (f.getLast?.toList).sum = f.getLast?.getD 0 := by
  cases f.getLast? with
  | none => rfl
  | some x => simp
theorem last_none {α : Type} {f : List α} : f.getLast? = none ↔ f = [] := by simp
/-! ### what is still to be read -/
theorem risR_zero (prev : Option Int) (l : List Int) : risR 0 prev l = some ([], l) := rfl
theorem risR_bad {k : Nat} {prev : Option Int} {l : List Int} (h : numR l = none) : risR (k + 1) prev l = none := by
  unfold risR
  rw [h]
theorem risR_step {k : Nat} {f : List Int} {l r : List Int} {s : Int} (h : numR l = some (s, r)) (hs : 0 < s ∨ f = []) (g : Option (List Int × List Int))
    (e : g = (risR (k + 1) f.getLast? l).map fun p => (f ++ p.1, p.2)) : g = (risR k (f ++ [f.getLast?.getD 0 + s]).getLast? r).map fun p => ((f ++ [f.getLast?.getD 0 + s]) ++ p.1, p.2) := by
  rw [e]
  conv => lhs; unfold risR
  rw [h]
  have hc : ¬ (s = 0 ∧ f.getLast? ≠ none) := by
    rintro ⟨z1, z2⟩
    rcases hs with z | z
    · omega
    · exact z2 (last_none.mpr z)
  show Option.map _ (if s = 0 ∧ f.getLast? ≠ none then none else _) = _
  rw [if_neg hc, List.getLast?_concat]
  cases risR k (some (f.getLast?.getD 0 + s)) r with
  | none => rfl
  | some p => simp
theorem risR_stop {k : Nat} {f : List Int} {l r : List Int} {s : Int} (h : numR l = some (s, r)) (hs : ¬ 0 < s) (h0 : 0 ≤ s) (hf : f ≠ []) : risR (k + 1) f.getLast? l = none := by
  unfold risR
  rw [h]
  show (if s = 0 ∧ f.getLast? ≠ none then none else _) = none
  rw [if_pos ⟨by omega, fun z => hf (last_none.mp z)⟩]
/-- a or b, as a value -/
theorem or2 {ta tb : TE} {σ : L2.St} {H : Hp} {Q : VK} {p q : Bool} (h1 : ∀ Q : VK, Q (.bl p) H → ta σ H Q) (h2 : ∀ Q : VK, Q (.bl q) H → tb σ H Q) (k : Q (.bl (p || q)) H) : tOrV ta tb σ H Q := by
  refine h1 _ ⟨p, rfl, ?_⟩
  cases p with
  | true => exact k
  | false => exact h2 _ k
theorem and2 {ta tb : TE} {σ : L2.St} {H : Hp} {Q : VK} {p q : Bool} (h1 : ∀ Q : VK, Q (.bl p) H → ta σ H Q) (h2 : ∀ Q : VK, Q (.bl q) H → tb σ H Q) (k : Q (.bl (p && q)) H) : tAndV ta tb σ H Q := by
  refine h1 _ ⟨p, rfl, ?_⟩
  cases p with
  | true => exact h2 _ k
  | false => exact k
theorem len0 {α β : Type} {g : α → β} {f : List α} (h : ((f.map g).length : Int) = 0) : f = [] := by
  cases f with
  | nil => rfl
  | cons p ps => rw [List.length_map, List.length_cons] at h; omega
def vLst : List Int → Hp → Hp → V → Prop := fun xs H H' v => ∃ q, v = .ref q ∧ H q = none ∧ H' q = some (.lst (xs.map V.int))
def spRising (K : PySem.W.Frag) (c : Cl) : Sp := fun vs H Q E => ∃ (x a d : Addr) (row re : List Int) (many : Int), vs = [.ref x, .int many] ∧ Rdr K c H x a d row re ∧ RdP K c H x a d row (risR many.toNat none re) vLst Q E
/-! ### signs -/
theorem signsR_none {k : Nat} {l : List Int} (h : byteR l = none) : signsR (k + 1) l = none := by
  cases l with
  | nil => rfl
  | cons b r =>
    unfold signsR
    have h' : (if 0 ≤ b ∧ b ≤ 255 then some (b, r) else none) = none := h
    by_cases hb : 0 ≤ b ∧ b ≤ 255
    · rw [if_pos hb] at h'
      cases h'
    · rw [if_neg fun z => hb ⟨by have := z.1; omega, by have := z.2.1; omega⟩]
theorem signsR_bad {k : Nat} {b : Int} {r : List Int} (h : ¬ okB b) : signsR (k + 1) (b :: r) = none := by
  unfold signsR
  rw [if_neg h]
theorem signsR_step {k : Nat} {f : List Nat} {b : Int} {r : List Int} (h : okB b) (g : Option (List Nat × List Int)) (e : g = (signsR (k + 1) (b :: r)).map fun p => (f ++ p.1, p.2)) :
    g = (signsR k r).map fun p => ((f ++ [b.toNat]) ++ p.1, p.2) := by
  rw [e]
  conv => lhs; unfold signsR
  rw [if_pos h]
  cases signsR k r with
  | none => rfl
  | some p => simp
theorem join_one (w : List Nat) : Txt.join "" (w.map fun c => (⟨#[c]⟩ : Str)) = S w := by
  have h : (TL.joinL [] (w.map fun c => [c])) = w := by
    induction w with
    | nil => rfl
    | cons c w ih =>
      cases w with
      | nil => rfl
      | cons d w =>
        show [c] ++ ([] ++ TL.joinL [] ((d :: w).map fun c => [c])) = _
        rw [ih]
        rfl
  have e := SX.join_S [] (w.map fun c => [c])
  rw [h, List.map_map] at e
  exact e
def vTxt : List Nat → Hp → Hp → V → Prop := fun t _ _ v => v = .str (S t)
def spText (K : PySem.W.Frag) (c : Cl) : Sp := fun vs H Q E => ∃ (x a d : Addr) (row re : List Int), vs = [.ref x] ∧ Rdr K c H x a d row re ∧ RdP K c H x a d row (textR re) vTxt Q E
section
variable {P : Program} {w : World} {K : PySem.W.Frag} {mg : Str → Option Value} {base : Heap} {c : Cl}
theorem ok_next_rising (T : Txt K mg c) : GMt P w K mg base (L2.CX P w) 4 c.ByteReader "next_rising" ["self", "many"] (spRising K c) := by
  obtain ⟨f, fd, F, hm, hb⟩ := T.d_next_rising
  have g_sure : GMt P w K mg base (L2.CX P w) 1 c.ByteReader "sure" ["self", "good"] (spSure c) := ok_sure T
  have g_next_number : GMt P w K mg base (L2.CX P w) 3 c.ByteReader "next_number" ["self"] (spNumber K c) := ok_next_number T
  refine ⟨f, fd, hm, hb, F.okX sc_ByteReader_next_rising (fun vs H Q E h => ?_) (fun cdv A outer s H vs Q E hr h => ?_)⟩
  · obtain ⟨x, a, d, row, re, many, rfl, _⟩ := h
    rfl
  · obtain ⟨x, a, d, row, re, many, rfl, R, q1, q2⟩ := h
    have nd := sc_ByteReader_next_rising.nd
    refine ⟨_, (pss_cons (ps_set (i := 2) nd rfl (.inl rfl) (pe_lst pa_nil))
      (pss_cons (ps_while (passes_of rfl) (pt_cmpR op_lt (pe_callB call_len_seq (by rfl) T.b_len boot_len (pa_cons (pv 2) pa_nil)) (pv 1) (nomark _))
        (pss_cons (ps_set (i := 3) nd rfl (.inl rfl) (pe_gm0 (pv 0) T.k_ByteReader g_next_number hr (passes_call (takes_of rfl rfl rfl rfl) (fun _ _ _ _ h => h))))
        (pss_cons (ps_expr (pe_gm (pv 0) T.k_ByteReader g_sure hr (passes_call (takes_of rfl rfl rfl rfl) (fun _ _ _ _ h => h)) (pa_cons (pe_or (pe_cmpR op_gt (pv 3) pe_int (nomark _)) (pe_one (pe_cmpR op_eq (pe_callB call_len_seq (by rfl) T.b_len boot_len (pa_cons (pv 2) pa_nil)) pe_int (nomark _)))) pa_nil)))
        (pss_one (ps_expr (pe_bm PySem.F.plainAttrs_list PySem.F.slot_list_append PySem.F.type_list_append mt_append (pv 2) (pa_cons (pe_op op_add (pe_callB (cr_sum rfl) (by rfl) T.b_sum boot_sum (pa_cons (pe_slice sl_list (pv 2) (po_some (pe_un un_neg pe_int)) po_none) pa_nil)) (pv 3)) pa_nil)))))))
      (pss_one (ps_ret (pv 2))))), ?_⟩
    -- the next step
    refine ⟨sl_line (Nat.zero_le _), fun l hl => ?_⟩
    obtain ⟨nx, na, ndd⟩ := R.nel hl
    have hlen := R.len
    have hsuf := R.suf.length_le
    -- the next step
    refine ⟨fun m σ H' => ∃ (f r : List Int) (y : Option V), σ = [some (.ref x), some (.int many), some (.ref l), y] ∧ m = r.length ∧ Kp [x] H H' ∧ H' l = some (.lst (f.map V.int)) ∧ Rdr K c H' x a d row r ∧
      f.length + r.length ≤ 360 ∧ f.length ≤ many.toNat ∧ risR many.toNat none re = (risR (many.toNat - f.length) f.getLast? r).map fun p => (f ++ p.1, p.2),
      ⟨re.length, [], re, none, rfl, rfl, Kp.refl.new hl, upd_same, R.new hl, (by simp only [List.length_nil]; omega), Nat.zero_le _, ?_⟩, ?_⟩
    · show _ = (risR many.toNat none re).map fun p => (p.1, p.2)
      cases risR many.toNat none re <;> rfl
    · rintro m σ H2 ⟨f, r, y, rfl, rfl, k2, h2, R2, hsz, hfl, en⟩
      refine ⟨_, rfl, l, _, rfl, .inl (SqL.of h2), _, rfl, _, _, rfl, rfl, _, rfl, ite2 (fun e1 => ?_) (fun e1 => ?_)⟩
      · have e1' : (f.length : Int) < many := by
          have := of_decide_eq_true e1
          rwa [List.length_map] at this
        obtain ⟨k, hk⟩ : ∃ k, many.toNat - f.length = k + 1 := ⟨many.toNat - f.length - 1, by omega⟩
        rw [hk] at en
        refine ⟨fun σ' H' => ∃ (s : Int) (r' : List Int), numR r = some (s, r') ∧ (0 < s ∨ f = []) ∧ σ' = [some (.ref x), some (.int many), some (.ref l), some (.int s)] ∧ Kp [x] H H' ∧ H' l = some (.lst ((f ++ [f.getLast?.getD 0 + s]).map V.int)) ∧ Rdr K c H' x a d row r', ?_, ?_⟩
        · rintro σ' H' ⟨s, r', hn, hs, rfl, k3, h3, R3⟩
          have hr' := numR_len hn
          refine ⟨r'.length, hr', f ++ [f.getLast?.getD 0 + s], r', _, rfl, rfl, k3, h3, R3, ?_, ?_, ?_⟩
          · simp only [List.length_append, List.length_cons, List.length_nil]
            omega
          · simp only [List.length_append, List.length_cons, List.length_nil]
            omega
          · have : many.toNat - (f ++ [f.getLast?.getD 0 + s]).length = k := by
              simp only [List.length_append, List.length_cons, List.length_nil]
              omega
            rw [this]
            exact risR_step hn hs _ en
        · -- the next step
          obtain ⟨dx, fs, hx, n1, n2, n3, _⟩ := R2.noF
          refine ⟨_, rfl, x, dx, fs, rfl, hx, n3, x, a, d, row, r, rfl, R2, fun s r' e v H3 k3 R3 hv => ?_, fun e H3 k3 => q2 (by rw [en, risR_bad e]; rfl) H3 (k2.trans k3)⟩
          subst hv
          have h3 : H3 l = some (.lst (f.map V.int)) := k3 _ _ h2 (by simpa using nx.symm)
          obtain ⟨dx, fs, hx, n1, n2, n3, _⟩ := R3.noF
          have s0 := (numR_ok e).1
          refine ⟨_, rfl, x, dx, fs, rfl, hx, n2, or2 (fun Q q => ⟨_, rfl, _, _, rfl, rfl, q⟩) (fun Q q => ⟨_, rfl, l, _, rfl, .inl (SqL.of h3), rfl, q⟩) ⟨x, _, rfl, fun e2 => ?_, fun e2 => ?_⟩⟩
          · -- the next step
            have hs : 0 < s ∨ f = [] := by
              rcases Bool.or_eq_true_iff.mp e2 with e2 | e2
              · exact .inl (of_decide_eq_true e2)
              · exact .inr (len0 (V.int.inj (of_decide_eq_true e2)))
            refine ⟨_, rfl, .inl ⟨rfl, _, SqL.of h3⟩, _, rfl, _, rfl, _, rfl, l, _, rfl, SqL.of h3, fun p hp => ?_⟩
            have hpl : l ≠ p := ne_of_none h3 hp
            refine ⟨p, f.getLast?.toList, rfl, SqL.of (by rw [upd_same]; exact congrArg (fun z => some (HO.lst z)) (cut_last f)), _, rfl, _, _, rfl, rfl, l, f.map V.int, _, rfl, rfl, by rw [upd_ne hpl]; exact h3, ?_, s, r', e, hs, rfl, ?_, ?_, ?_⟩
            · rw [List.length_map]
              exact sl_lt (by omega)
            · exact ((k2.trans k3).new hp).mut hl
            · rw [upd_same, sum_last, List.map_append]
              rfl
            · exact (R3.new hp).put R hl
          · have e2' := Bool.or_eq_false_iff.mp e2
            refine q2 ?_ H3 (k2.trans k3)
            rw [en, risR_stop e (of_decide_eq_false e2'.1) s0]
            · rfl
            · rintro rfl
              exact of_decide_eq_false e2'.2 rfl
      · -- return found
        have e1' : ¬ (f.length : Int) < many := by
          have := of_decide_eq_false (Bool.eq_false_iff.mpr e1)
          rwa [List.length_map] at this
        rw [show many.toNat - f.length = 0 by omega, risR_zero] at en
        refine ⟨_, rfl, q1 f r ?_ _ _ k2 R2 ⟨l, rfl, hl, h2⟩⟩
        rw [en]
        simp
end
end FC
/-! W05: next_text; what is new in a heap; postings in a heap; next_postings. -/
namespace FC
open PySem PySem.Spec PyProof.Rows L2
theorem signsR_len {k : Nat} {l : List Int} {w : List Nat} {r : List Int} (h : signsR k l = some (w, r)) : w.length + r.length = l.length := by
  obtain ⟨_, e, _⟩ := signsR_ok h
  rw [e]
  simp
theorem textR_len {l : List Int} {w : List Nat} {r : List Int} (h : textR l = some (w, r)) : w.length + r.length < l.length := by
  obtain ⟨e, _⟩ := textR_ok h
  rw [e]
  have := numB_pos w.length
  unfold textB lenI
  simp only [List.length_append, List.length_map]
  omega
/-! ### what is new in H' -/
def nw (G H : Hp) : Hp := fun b => match G b with
  | none => H b
  | some _ => none
section
variable {G G' H H' : Hp} {b : Addr} {o : HO} {xs : List Addr}
theorem nw_get (h : H b = some o) (g : G b = none) : nw G H b = some o := by
  unfold nw
  rw [g]
  exact h
theorem nw_of (h : nw G H b = some o) : G b = none ∧ H b = some o := by
  unfold nw at h
  cases e : G b with
  | none => rw [e] at h; exact ⟨rfl, h⟩
  | some u => rw [e] at h; cases h
theorem nw_same : Same (nw G H) H := fun b o h => (nw_of h).2
theorem nw_kp (k : Kp xs H H') (n : ∀ b, b ∈ xs → ∃ o, G b = some o) : Same (nw G H) (nw G H') := fun b o h => by
  obtain ⟨g, e⟩ := nw_of h
  refine nw_get (k b o e fun hb => ?_) g
  obtain ⟨u, q⟩ := n b hb
  rw [g] at q
  cases q
theorem nw_up (k : Same H H') : Same (nw G H) (nw G H') := nw_kp (xs := []) (Kp.same k) fun b h => (nomatch h)
theorem nw_mono (k : ∀ b, G b = none → G' b = none) : Same (nw G H) (nw G' H) := fun b o h => by
  obtain ⟨g, e⟩ := nw_of h
  exact nw_get e (k b g)
theorem nw_sub (k : Same G' G) : Same (nw G H) (nw G' H) := nw_mono fun b h => k.free h
theorem nw_kpd (k : Kp xs G' G) (n : ∀ b, b ∈ xs → ∃ o, G b = some o) : Same (nw G H) (nw G' H) := nw_mono fun b h => k.free h fun hb => by
  obtain ⟨o, q⟩ := n b hb
  rw [h] at q
  cases q
end
/-! ### postings in a heap -/
def ItemsAt (H : Hp) (ts : List (Addr × Addr)) (ps : Posts) : Prop := Paired (fun (t : Addr × Addr) (p : Int × List Int) => H t.1 = some (.tup [.int p.1, .ref t.2]) ∧ H t.2 = some (.lst (p.2.map V.int))) ts ps
def PostsAt (H : Hp) (l : Addr) (ps : Posts) : Prop := ∃ ts : List (Addr × Addr), H l = some (.lst (ts.map fun t => V.ref t.1)) ∧ ItemsAt H ts ps
theorem paired_snoc {α β : Type} {R : α → β → Prop} {a : α} {b : β} : ∀ {as : List α} {bs : List β}, Paired R as bs → R a b → Paired R (as ++ [a]) (bs ++ [b])
  | _, _, .nil, h => .cons h .nil
  | _, _, .cons h t, h' => .cons h (paired_snoc t h')
theorem ItemsAt.same {H H' : Hp} {ts : List (Addr × Addr)} {ps : Posts} (h : ItemsAt H ts ps) (k : Same H H') : ItemsAt H' ts ps := Paired.mapP h fun _ _ z => ⟨k _ _ z.1, k _ _ z.2⟩
theorem PostsAt.same {H H' : Hp} {l : Addr} {ps : Posts} (h : PostsAt H l ps) (k : Same H H') : PostsAt H' l ps := by
  obtain ⟨ts, e, i⟩ := h
  exact ⟨ts, k _ _ e, i.same k⟩
def vPosts : Posts → Hp → Hp → V → Prop := fun ps H H' v => ∃ l, v = .ref l ∧ PostsAt (nw H H') l ps
def spPosts (K : PySem.W.Frag) (c : Cl) : Sp := fun vs H Q E => ∃ (x a d : Addr) (row re : List Int), vs = [.ref x] ∧ Rdr K c H x a d row re ∧ RdP K c H x a d row (postsR re) vPosts Q E
/-! ### what of postings is still to be read -/
theorem postsK_bad {k : Nat} {prev : Option Int} {l : List Int} (h : numR l = none) : postsK (k + 1) prev l = none := by
  unfold postsK
  rw [h]
theorem postsK_stop {k : Nat} {f : Posts} {prev : Option Int} {l r : List Int} {s : Int} (h : numR l = some (s, r)) (hs : ¬ 0 < s) (h0 : 0 ≤ s) (hf : prev ≠ none) : postsK (k + 1) prev l = none := by
  unfold postsK
  rw [h]
  show (if s = 0 ∧ prev ≠ none then none else _) = none
  rw [if_pos ⟨by omega, hf⟩]
/-- the make ahead -/
def lastM (f : Posts) : Option Int := f.getLast?.map (·.1)
theorem lastM_none {f : Posts} : lastM f = none ↔ f = [] := by
  unfold lastM
  simp
theorem lastM_snoc (f : Posts) (m : Int) (xs : List Int) : lastM (f ++ [(m, xs)]) = some m := by
  unfold lastM
  rw [List.getLast?_concat]
  rfl
/-- behind the step -/
theorem postsK_go {k : Nat} {prev : Option Int} {l r : List Int} {s : Int} (h : numR l = some (s, r)) (hs : 0 < s ∨ prev = none) : postsK (k + 1) prev l =
    match numR r with
      | none => none
      | some (n, r1) => if n = 0 then none else
        match risR n.toNat none r1 with
        | none => none
        | some (xs, r2) =>
          match postsK k (some (prev.getD 0 + s)) r2 with
          | none => none
          | some (ps, r') => some ((prev.getD 0 + s, xs) :: ps, r') := by
  conv => lhs; unfold postsK
  rw [h]
  have hc : ¬ (s = 0 ∧ prev ≠ none) := by
    rintro ⟨z1, z2⟩
    rcases hs with z | z
    · omega
    · exact z2 z
  show (if s = 0 ∧ prev ≠ none then none else _) = _
  rw [if_neg hc] <;> rfl
theorem map_cons_app {α β : Type} (f : List α) (m : α) (o : Option (List α × β)) (g : α → α) :
    ((match o with | none => none | some (ps, r') => some (m :: ps, r') : Option (List α × β)).map fun p => (f ++ p.1, p.2)) = o.map fun p => ((f ++ [m]) ++ p.1, p.2) := by
  cases o with
  | none => rfl
  | some p => simp
section
variable {P : Program} {w : World} {K : PySem.W.Frag} {mg : Str → Option Value} {base : Heap} {c : Cl}
theorem ok_next_text (T : Txt K mg c) : GMt P w K mg base (L2.CX P w) 4 c.ByteReader "next_text" ["self"] (spText K c) := by
  obtain ⟨f, fd, F, hm, hb⟩ := T.d_next_text
  have g_sure : GMt P w K mg base (L2.CX P w) 1 c.ByteReader "sure" ["self", "good"] (spSure c) := ok_sure T
  have g_next_byte : GMt P w K mg base (L2.CX P w) 2 c.ByteReader "next_byte" ["self"] (spByte K c) := ok_next_byte T
  have g_next_number : GMt P w K mg base (L2.CX P w) 3 c.ByteReader "next_number" ["self"] (spNumber K c) := ok_next_number T
  refine ⟨f, fd, hm, hb, F.okX sc_ByteReader_next_text (fun vs H Q E h => ?_) (fun cdv A outer s H vs Q E hr h => ?_)⟩
  · obtain ⟨x, a, d, row, re, rfl, _⟩ := h
    rfl
  · obtain ⟨x, a, d, row, re, rfl, R, q1, q2⟩ := h
    have nd := sc_ByteReader_next_text.nd
    have hu := hu_of hr
    refine ⟨_, (pss_cons (ps_set (i := 1) nd rfl (.inl rfl) (pe_gm0 (pv 0) T.k_ByteReader g_next_number hr (passes_call (takes_of rfl rfl rfl rfl) (fun _ _ _ _ h => h))))
      (pss_cons (ps_set (i := 2) nd rfl (.inl rfl) (pe_lst pa_nil))
      (pss_cons (ps_while (passes_of rfl) (pt_cmpR op_lt (pe_callB call_len_seq (by rfl) T.b_len boot_len (pa_cons (pv 2) pa_nil)) (pv 1) (nomark _))
        (pss_cons (ps_set (i := 3) nd rfl (.inl rfl) (pe_gm0 (pv 0) T.k_ByteReader g_next_byte hr (passes_call (takes_of rfl rfl rfl rfl) (fun _ _ _ _ h => h))))
        (pss_cons (ps_expr (pe_gm (pv 0) T.k_ByteReader g_sure hr (passes_call (takes_of rfl rfl rfl rfl) (fun _ _ _ _ h => h)) (pa_cons (pe_cmp (pc_din hu (pv 3) (pe_fld (pv 0) rfl))) pa_nil)))
        (pss_one (ps_expr (pe_bm PySem.F.plainAttrs_list PySem.F.slot_list_append PySem.F.type_list_append mt_append (pv 2) (pa_cons (pe_dget hu (pe_fld (pv 0) rfl) (pv 3) (fun _ _ => rfl)) pa_nil)))))))
      (pss_one (ps_ret (pe_join pe_str (pv 2))))))), ?_⟩
    obtain ⟨dx, fs, hx, n1, n2, n3, _⟩ := R.noF
    have hlen := R.len
    have hsuf := R.suf.length_le
    -- the next step
    refine ⟨_, rfl, x, dx, fs, rfl, hx, n3, x, a, d, row, re, rfl, R, fun many r0 e0 v H1 k1 R1 hv => ?_, fun e H1 k1 => q2 (by unfold textR; rw [e]) H1 k1⟩
    subst hv
    have et : textR re = signsR many.toNat r0 := by unfold textR; rw [e0]
    have hr0 := numR_len e0
    -- the next step
    refine ⟨sl_line (Nat.zero_le _), fun l hl => ?_⟩
    have hl0 : H l = none := by
      refine k1.free hl fun z => ?_
      have : l = x := by simpa using z
      exact (R1.nel hl).1 this.symm
    obtain ⟨nx, na, ndd⟩ := R.nel hl0
    refine ⟨fun m σ H' => ∃ (f : List Nat) (r : List Int) (y : Option V), σ = [some (.ref x), some (.int many), some (.ref l), y] ∧ m = r.length ∧ Kp [x] H H' ∧ H' l = some (.lst ((f.map fun ch => (⟨#[ch]⟩ : Str)).map V.str)) ∧ Rdr K c H' x a d row r ∧
      f.length + r.length ≤ 360 ∧ f.length ≤ many.toNat ∧ textR re = (signsR (many.toNat - f.length) r).map fun p => (f ++ p.1, p.2),
      ⟨r0.length, [], r0, none, rfl, rfl, k1.new hl, upd_same, R1.new hl, (by simp only [List.length_nil]; omega), Nat.zero_le _, ?_⟩, ?_⟩
    · rw [et]
      show _ = (signsR many.toNat r0).map fun p => (p.1, p.2)
      cases signsR many.toNat r0 <;> rfl
    · rintro m σ H2 ⟨f, r, y, rfl, rfl, k2, h2, R2, hsz, hfl, en⟩
      refine ⟨_, rfl, l, _, rfl, .inl (SqL.of h2), _, rfl, _, _, rfl, rfl, _, rfl, ite2 (fun e1 => ?_) (fun e1 => ?_)⟩
      · have e1' : (f.length : Int) < many := by
          have := of_decide_eq_true e1
          rwa [List.length_map, List.length_map] at this
        obtain ⟨k, hk⟩ : ∃ k, many.toNat - f.length = k + 1 := ⟨many.toNat - f.length - 1, by omega⟩
        rw [hk] at en
        refine ⟨fun σ' H' => ∃ (b : Int) (r' : List Int), r = b :: r' ∧ okB b ∧ σ' = [some (.ref x), some (.int many), some (.ref l), some (.int b)] ∧ Kp [x] H H' ∧ H' l = some (.lst (((f ++ [b.toNat]).map fun ch => (⟨#[ch]⟩ : Str)).map V.str)) ∧ Rdr K c H' x a d row r', ?_, ?_⟩
        · rintro σ' H' ⟨b, r', rfl, hb, rfl, k3, h3, R3⟩
          refine ⟨r'.length, by simp, f ++ [b.toNat], r', _, rfl, rfl, k3, h3, R3, ?_, ?_, ?_⟩
          · simp only [List.length_append, List.length_cons, List.length_nil] at hsz ⊢
            omega
          · simp only [List.length_append, List.length_cons, List.length_nil]
            omega
          · have : many.toNat - (f ++ [b.toNat]).length = k := by
              simp only [List.length_append, List.length_cons, List.length_nil]
              omega
            rw [this]
            exact signsR_step hb _ en
        · obtain ⟨dx, fs, hx, n1, n2, n3, _⟩ := R2.noF
          refine ⟨_, rfl, x, dx, fs, rfl, hx, n1, x, a, d, row, r, rfl, R2, fun b r' e v H3 k3 R3 hv => ?_, fun e H3 k3 => q2 (by rw [en, signsR_none e]; rfl) H3 (k2.trans k3)⟩
          subst hv
          obtain ⟨rfl, _, _⟩ := byteR_some e
          have h3 : H3 l = some (.lst ((f.map fun ch => (⟨#[ch]⟩ : Str)).map V.str)) := k3 _ _ h2 (by simpa using nx.symm)
          obtain ⟨dx, hx⟩ := R3.ins
          obtain ⟨kvs, hd, hs⟩ := R3.sig
          -- the next step
          refine ⟨_, rfl, x, dx, _, rfl, hx, rfl, _, rfl, _, rfl, x, _, dx, _, _, rfl, hx, T.k_ByteReader, T.a_signs, fsR_signs _ _ _, d, _, rfl, DGet.k (k := Sum.inl b) hd, x, _, rfl, fun e2 => ?_, fun e2 => ?_⟩
          · rw [hs b] at e2
            by_cases hb : okB b
            · refine ⟨_, rfl, .inl ⟨rfl, _, SqL.of h3⟩, _, rfl, x, _, dx, _, _, rfl, hx, T.k_ByteReader, T.a_signs, fsR_signs _ _ _, _, rfl, d, V.str ⟨#[b.toNat]⟩, rfl, ?_, l, _, _, rfl, rfl, h3, ?_, b, r', rfl, hb, rfl, (k2.trans k3).mut hl0, ?_, R3.put R hl0⟩
              · have g := DGet.k (k := Sum.inl b) hd
                rw [hs b, if_pos hb] at g
                exact g
              · rw [List.length_map, List.length_map]
                exact sl_lt (by omega)
              · rw [upd_same, List.map_append, List.map_append]
                rfl
            · rw [if_neg hb] at e2
              cases e2
          · rw [hs b] at e2
            by_cases hb : okB b
            · rw [if_pos hb] at e2
              cases e2
            · refine q2 ?_ H3 (k2.trans k3)
              rw [en, signsR_bad hb]
              rfl
      · have e1' : ¬ (f.length : Int) < many := by
          have := of_decide_eq_false (Bool.eq_false_iff.mpr e1)
          rwa [List.length_map, List.length_map] at this
        rw [show many.toNat - f.length = 0 by omega] at en
        refine ⟨⟨_, rfl⟩, _, rfl, _, l, f.map fun ch => (⟨#[ch]⟩ : Str), rfl, rfl, .inl (SqL.of h2), ?_, q1 f r ?_ _ _ k2 R2 ?_⟩
        · have hs : ((f.map fun ch => (⟨#[ch]⟩ : Str)).map (·.length)).sum = f.length := by
            rw [List.map_map]
            clear en h2 hsz hfl e1 e1'
            induction f with
            | nil => rfl
            | cons ch f ih =>
              rw [List.map_cons, List.sum_cons, ih, List.length_cons]
              show 1 + f.length = f.length + 1
              omega
          rw [hs, List.length_map]
          show f.length + f.length * 0 ≤ 16777216
          omega
        · rw [en]
          show some (f ++ [], r) = _
          rw [List.append_nil]
        · show V.str _ = V.str _
          rw [join_one]
end
end FC
/-! W06: next_postings. -/
namespace FC
open PySem PySem.Spec PyProof.Rows L2
theorem postsK_len {k : Nat} {prev : Option Int} {l : List Int} {ps : Posts} {r : List Int} (h : postsK k prev l = some (ps, r)) (h0 : 0 ≤ prev.getD 0) : r.length ≤ l.length := by
  rw [(postsK_ok h h0).2.1, List.length_append]
  omega
theorem risR_len {k : Nat} {prev : Option Int} {l xs r : List Int} (h : risR k prev l = some (xs, r)) : r.length ≤ l.length := (risR_suf h).length_le
section
variable {P : Program} {w : World} {K : PySem.W.Frag} {mg : Str → Option Value} {base : Heap} {c : Cl}
theorem ok_next_postings (T : Txt K mg c) : GMt P w K mg base (L2.CX P w) 5 c.ByteReader "next_postings" ["self"] (spPosts K c) := by
  obtain ⟨f, fd, F, hm, hb⟩ := T.d_next_postings
  have g_sure : GMt P w K mg base (L2.CX P w) 1 c.ByteReader "sure" ["self", "good"] (spSure c) := ok_sure T
  have g_next_number : GMt P w K mg base (L2.CX P w) 3 c.ByteReader "next_number" ["self"] (spNumber K c) := ok_next_number T
  have g_next_rising : GMt P w K mg base (L2.CX P w) 4 c.ByteReader "next_rising" ["self", "many"] (spRising K c) := ok_next_rising T
  refine ⟨f, fd, hm, hb, F.okX sc_ByteReader_next_postings (fun vs H Q E h => ?_) (fun cdv A outer s H vs Q E hr h => ?_)⟩
  · obtain ⟨x, a, d, row, re, rfl, _⟩ := h
    rfl
  · obtain ⟨x, a, d, row, re, rfl, R, q1, q2⟩ := h
    have nd := sc_ByteReader_next_postings.nd
    refine ⟨_, (pss_cons (ps_set (i := 1) nd rfl (.inl rfl) (pe_gm0 (pv 0) T.k_ByteReader g_next_number hr (passes_call (takes_of rfl rfl rfl rfl) (fun _ _ _ _ h => h))))
      (pss_cons (ps_set (i := 2) nd rfl (.inl rfl) (pe_lst pa_nil))
      (pss_cons (ps_set (i := 3) nd rfl (.inl rfl) pe_int)
      (pss_cons (ps_while (passes_of rfl) (pt_cmpR op_lt (pe_callB call_len_seq (by rfl) T.b_len boot_len (pa_cons (pv 2) pa_nil)) (pv 1) (nomark _))
        (pss_cons (ps_set (i := 4) nd rfl (.inl rfl) (pe_gm0 (pv 0) T.k_ByteReader g_next_number hr (passes_call (takes_of rfl rfl rfl rfl) (fun _ _ _ _ h => h))))
        (pss_cons (ps_expr (pe_gm (pv 0) T.k_ByteReader g_sure hr (passes_call (takes_of rfl rfl rfl rfl) (fun _ _ _ _ h => h)) (pa_cons (pe_or (pe_cmpR op_gt (pv 4) pe_int (nomark _)) (pe_one (pe_cmpR op_eq (pe_callB call_len_seq (by rfl) T.b_len boot_len (pa_cons (pv 2) pa_nil)) pe_int (nomark _)))) pa_nil)))
        (pss_cons (ps_aug (i := 3) nd rfl (.inl rfl) (pv 4) ip_add)
        (pss_cons (ps_set (i := 5) nd rfl (.inl rfl) (pe_gm0 (pv 0) T.k_ByteReader g_next_number hr (passes_call (takes_of rfl rfl rfl rfl) (fun _ _ _ _ h => h))))
        (pss_cons (ps_expr (pe_gm (pv 0) T.k_ByteReader g_sure hr (passes_call (takes_of rfl rfl rfl rfl) (fun _ _ _ _ h => h)) (pa_cons (pe_cmpR op_gt (pv 5) pe_int (nomark _)) pa_nil)))
        (pss_one (ps_expr (pe_bm PySem.F.plainAttrs_list PySem.F.slot_list_append PySem.F.type_list_append mt_append (pv 2) (pa_cons (pe_tup (pa_cons (pv 3) (pa_cons (pe_gm (pv 0) T.k_ByteReader g_next_rising hr (passes_call (takes_of rfl rfl rfl rfl) (fun _ _ _ _ h => h)) (pa_cons (pv 5) pa_nil)) pa_nil))) pa_nil))))))))))
      (pss_one (ps_ret (pv 2))))))), ?_⟩
    obtain ⟨dx, fs, hx, n1, n2, n3, _⟩ := R.noF
    have hlen := R.len
    have hsuf := R.suf.length_le
    -- the next step
    refine ⟨_, rfl, x, dx, fs, rfl, hx, n3, x, a, d, row, re, rfl, R, fun many r0 e0 v H1 k1 R1 hv => ?_, fun e H1 k1 => q2 (by unfold postsR; rw [e]) H1 k1⟩
    subst hv
    have et : postsR re = postsK many.toNat none r0 := by unfold postsR; rw [e0]
    have hr0 := numR_len e0
    -- the next step
    refine ⟨sl_line (Nat.zero_le _), fun l hl => ?_⟩
    have hl0 : H l = none := by
      refine k1.free hl fun z => ?_
      have : l = x := by simpa using z
      exact (R1.nel hl).1 this.symm
    obtain ⟨nx, na, ndd⟩ := R.nel hl0
    have gx : ∃ o, upd H l (.lst []) x = some o := by
      obtain ⟨dx, h1⟩ := R.ins
      exact ⟨_, upd_old h1 hl0⟩
    refine ⟨fun m σ H' => ∃ (f : Posts) (ts : List (Addr × Addr)) (r : List Int) (y4 y5 : Option V), σ = [some (.ref x), some (.int many), some (.ref l), some (.int ((lastM f).getD 0)), y4, y5] ∧ m = r.length ∧ Kp [x] H H' ∧ H' l = some (.lst (ts.map fun t => V.ref t.1)) ∧
      ItemsAt (nw (upd H l (.lst [])) H') ts f ∧ Rdr K c H' x a d row r ∧ f.length + r.length ≤ 360 ∧ f.length ≤ many.toNat ∧ postsR re = (postsK (many.toNat - f.length) (lastM f) r).map fun p => (f ++ p.1, p.2),
      ⟨r0.length, [], [], r0, none, none, rfl, rfl, k1.new hl, upd_same, .nil, R1.new hl, (by simp only [List.length_nil]; omega), Nat.zero_le _, ?_⟩, ?_⟩
    · rw [et]
      show _ = (postsK many.toNat none r0).map fun p => (p.1, p.2)
      cases postsK many.toNat none r0 <;> rfl
    · rintro m σ H2 ⟨f, ts, r, y4, y5, rfl, rfl, k2, h2, it, R2, hsz, hfl, en⟩
      have htl : ts.length = f.length := Paired.length it
      refine ⟨_, rfl, l, _, rfl, .inl (SqL.of h2), _, rfl, _, _, rfl, rfl, _, rfl, ite2 (fun e1 => ?_) (fun e1 => ?_)⟩
      · have e1' : (f.length : Int) < many := by
          have := of_decide_eq_true e1
          rwa [List.length_map, htl] at this
        obtain ⟨k, hk⟩ : ∃ k, many.toNat - f.length = k + 1 := ⟨many.toNat - f.length - 1, by omega⟩
        rw [hk] at en
        refine ⟨fun σ' H' => ∃ (xs : List Int) (mk : Int) (t : Addr × Addr) (r' : List Int) (y4 y5 : Option V), σ' = [some (.ref x), some (.int many), some (.ref l), some (.int mk), y4, y5] ∧ r'.length < r.length ∧ Kp [x] H H' ∧
          H' l = some (.lst ((ts ++ [t]).map fun t => V.ref t.1)) ∧ ItemsAt (nw (upd H l (.lst [])) H') (ts ++ [t]) (f ++ [(mk, xs)]) ∧ Rdr K c H' x a d row r' ∧ postsR re = (postsK k (some mk) r').map fun p => ((f ++ [(mk, xs)]) ++ p.1, p.2), ?_, ?_⟩
        · rintro σ' H' ⟨xs, mk, t, r', y4, y5, rfl, hr', k3, h3, it3, R3, en3⟩
          refine ⟨r'.length, hr', f ++ [(mk, xs)], ts ++ [t], r', y4, y5, ?_, rfl, k3, h3, it3, R3, ?_, ?_, ?_⟩
          · rw [lastM_snoc]
            rfl
          · simp only [List.length_append, List.length_cons, List.length_nil]
            omega
          · simp only [List.length_append, List.length_cons, List.length_nil]
            omega
          · have : many.toNat - (f ++ [(mk, xs)]).length = k := by
              simp only [List.length_append, List.length_cons, List.length_nil]
              omega
            rw [this, lastM_snoc]
            exact en3
        · -- the next step
          obtain ⟨dx, fs, hx, n1, n2, n3, _⟩ := R2.noF
          refine ⟨_, rfl, x, dx, fs, rfl, hx, n3, x, a, d, row, r, rfl, R2, fun s r1 e v H3 k3 R3 hv => ?_, fun e H3 k3 => q2 (by rw [en, postsK_bad e]; rfl) H3 (k2.trans k3)⟩
          subst hv
          have h3 : H3 l = some (.lst (ts.map fun t => V.ref t.1)) := k3 _ _ h2 (by simpa using nx.symm)
          obtain ⟨dx, fs, hx, n1, n2, n3, _⟩ := R3.noF
          have s0 := (numR_ok e).1
          have l1 := numR_len e
          refine ⟨_, rfl, x, dx, fs, rfl, hx, n2, or2 (fun Q q => ⟨_, rfl, _, _, rfl, rfl, q⟩) (fun Q q => ⟨_, rfl, l, _, rfl, .inl (SqL.of h3), rfl, q⟩) ⟨x, _, rfl, fun e2 => ?_, fun e2 => ?_⟩⟩
          · have hs : 0 < s ∨ lastM f = none := by
              rcases Bool.or_eq_true_iff.mp e2 with e2 | e2
              · exact .inl (of_decide_eq_true e2)
              · have z := len0 (V.int.inj (of_decide_eq_true e2))
                rw [z] at htl
                exact .inr (lastM_none.mpr (List.eq_nil_of_length_eq_zero htl.symm))
            rw [postsK_go e hs] at en
            -- the next step
            refine ⟨_, rfl, _, rfl, _, _, rfl, rfl, ?_⟩
            refine ⟨_, rfl, x, dx, fs, rfl, hx, n3, x, a, d, row, r1, rfl, R3, fun n r2 e' v H4 k4 R4 hv => ?_, fun e' H4 k4 => q2 (by rw [en, e']; rfl) H4 ((k2.trans k3).trans k4)⟩
            subst hv
            have h4 : H4 l = some (.lst (ts.map fun t => V.ref t.1)) := k4 _ _ h3 (by simpa using nx.symm)
            obtain ⟨dx, fs, hx, n1, n2, n3, n4, _⟩ := R4.noF
            have t0 := (numR_ok e').1
            have l2 := numR_len e'
            rw [e'] at en
            refine ⟨_, rfl, x, dx, fs, rfl, hx, n2, _, rfl, _, _, rfl, rfl, x, _, rfl, fun e3 => ?_, fun e3 => ?_⟩
            · have hn : ¬ n = 0 := by have := of_decide_eq_true e3; omega
              have en' : postsR re = Option.map (fun p => (f ++ p.1, p.2)) (match risR n.toNat none r2 with
                  | none => none
                  | some (xs, r2) =>
                    match postsK k (some ((lastM f).getD 0 + s)) r2 with
                    | none => none
                    | some (ps, r') => some (((lastM f).getD 0 + s, xs) :: ps, r')) := by
                rw [en]
                show Option.map _ (if n = 0 then none else _) = _
                rw [if_neg hn] <;> rfl
              -- the next step
              refine ⟨_, rfl, .inl ⟨rfl, _, SqL.of h4⟩, _, rfl, _, rfl, x, dx, fs, rfl, hx, n4, _, rfl, x, a, d, row, r2, n, rfl, R4, fun xs r3 e4 v H5 k5 R5 hv => ?_, fun e4 H5 k5 => q2 (by rw [en', e4]; rfl) H5 (((k2.trans k3).trans k4).trans k5)⟩
              obtain ⟨q, rfl, hq0, hq⟩ := hv
              have h5 : H5 l = some (.lst (ts.map fun t => V.ref t.1)) := k5 _ _ h4 (by simpa using nx.symm)
              have kA : Kp [x] H H5 := ((k2.trans k3).trans k4).trans k5
              refine ⟨by show 2 ≤ sizeLine; decide, fun t ht => ?_⟩
              have hlt : l ≠ t := ne_of_none h5 ht
              have hqt : q ≠ t := ne_of_none hq ht
              have hql : q ≠ l := fun z => by rw [z, h4] at hq0; cases hq0
              have l3 := risR_len e4
              refine ⟨l, _, _, rfl, rfl, by rw [upd_ne hlt]; exact h5, ?_, xs, (lastM f).getD 0 + s, (t, q), r3, _, _, rfl, ?_, (kA.new ht).mut hl0, ?_, ?_, (R5.new ht).put R hl0, ?_⟩
              · rw [List.length_map]
                exact sl_lt (by omega)
              · omega
              · rw [upd_same, List.map_append]
                rfl
              · have kn : Same (nw (upd H l (.lst [])) H2) (nw (upd H l (.lst [])) (upd (upd H5 t (.tup [.int ((lastM f).getD 0 + s), .ref q])) l (.lst (ts.map (fun t => V.ref t.1) ++ [.ref t])))) := by
                  refine (nw_kp (xs := [x]) ((k3.trans k4).trans k5) fun b hb' => ?_).trans ((nw_up (Same.upd_new ht)).trans (nw_kp (xs := [l]) (Kp.refl.at (by simp)) fun b hb' => ?_))
                  · have : b = x := by simpa using hb'
                    subst this
                    exact gx
                  · have : b = l := by simpa using hb'
                    subst this
                    exact ⟨_, upd_same⟩
                refine paired_snoc (it.same kn) ⟨nw_get ?_ ?_, nw_get ?_ ?_⟩
                · rw [upd_ne hlt.symm, upd_same]
                · rw [upd_ne hlt.symm]
                  exact kA.free ht fun z => by
                    have : t = x := by simpa using z
                    exact (R5.nel ht).1 this.symm
                · show upd _ l _ q = _
                  rw [upd_ne hql, upd_ne hqt]
                  exact hq
                · show upd H l (.lst []) q = none
                  rw [upd_ne hql]
                  exact ((k2.trans k3).trans k4).free hq0 fun z => by
                    have : q = x := by simpa using z
                    exact (R4.nel hq0).1 this.symm
              · rw [en', e4]
                dsimp only
                cases postsK k (some ((lastM f).getD 0 + s)) r3 with
                | none => rfl
                | some p => simp
            · refine q2 ?_ H4 ((k2.trans k3).trans k4)
              have hn : n = 0 := by have := of_decide_eq_false e3; omega
              rw [en]
              show Option.map _ (if n = 0 then none else _) = _
              rw [if_pos hn]
              rfl
          · have e2' := Bool.or_eq_false_iff.mp e2
            refine q2 ?_ H3 (k2.trans k3)
            rw [en, postsK_stop (f := f) e (of_decide_eq_false e2'.1) s0]
            · rfl
            · intro z
              rw [lastM_none.mp z] at htl
              rw [List.eq_nil_of_length_eq_zero htl] at e2'
              exact of_decide_eq_false e2'.2 rfl
      · have e1' : ¬ (f.length : Int) < many := by
          have := of_decide_eq_false (Bool.eq_false_iff.mpr e1)
          rwa [List.length_map, htl] at this
        rw [show many.toNat - f.length = 0 by omega] at en
        refine ⟨_, rfl, q1 f r ?_ _ _ k2 R2 ⟨l, rfl, ts, nw_get h2 hl0, it.same (nw_mono fun b hb' => ?_)⟩⟩
        · rw [en]
          show some (f ++ [], r) = _
          rw [List.append_nil]
        · exact (free_ne hb').2
end
end FC
/-! W07: words in a heap; next_words. -/
namespace FC
open PySem PySem.Spec PyProof.Rows L2
theorem postsR_len {l : List Int} {ps : Posts} {r : List Int} (h : postsR l = some (ps, r)) : r.length ≤ l.length := (postsR_suf h).length_le
def KvsAt (H : Hp) (kvs : List (Key × V)) (ws : Words) : Prop := Paired (fun (kv : Key × V) (w : List Nat × Posts) => kv.1 = (Sum.inr (S w.1) : Key) ∧ ∃ l, kv.2 = V.ref l ∧ PostsAt H l w.2) kvs ws
def WordsAt (H : Hp) (dw : Addr) (ws : Words) : Prop := ∃ kvs, H dw = some (.dK kvs) ∧ KvsAt H kvs ws
theorem KvsAt.same {H H' : Hp} {kvs : List (Key × V)} {ws : Words} (h : KvsAt H kvs ws) (k : Same H H') : KvsAt H' kvs ws := Paired.mapP h fun _ _ z => ⟨z.1, let ⟨l, e, p⟩ := z.2; ⟨l, e, p.same k⟩⟩
theorem WordsAt.same {H H' : Hp} {dw : Addr} {ws : Words} (h : WordsAt H dw ws) (k : Same H H') : WordsAt H' dw ws := by
  obtain ⟨kvs, e, i⟩ := h
  exact ⟨kvs, k _ _ e, i.same k⟩
theorem S_inj {a b : List Nat} (h : S a = S b) : a = b := by
  have := congrArg (fun z : Str => z.cps.toList) h
  simpa using this
theorem key_inj {a b : List Nat} (h : (Sum.inr (S a) : Key) = Sum.inr (S b)) : a = b := S_inj (Sum.inr.inj h)
theorem KvsAt.none {H : Hp} {v : List Nat} : ∀ {kvs : List (Key × V)} {ws : Words}, KvsAt H kvs ws → (∀ p ∈ ws, p.1 ≠ v) → valV kvs (Sum.inr (S v) : Key) = Option.none
  | _, _, .nil, _ => rfl
  | _, _, .cons h t, n => by
    rw [valV_neg]
    · exact KvsAt.none t fun p hp => n p (List.mem_cons_of_mem _ hp)
    · intro e
      rw [h.1] at e
      exact n _ List.mem_cons_self (key_inj e)
def vWords : Words → Hp → Hp → V → Prop := fun ws H H' v => ∃ dw, v = .ref dw ∧ WordsAt (nw H H') dw ws
def spWords (K : PySem.W.Frag) (c : Cl) : Sp := fun vs H Q E => ∃ (x a d : Addr) (row re : List Int), vs = [.ref x] ∧ Rdr K c H x a d row re ∧ RdP K c H x a d row (wordsR re) vWords Q E
def lastW (f : Words) : List Nat := (f.getLast?.map (·.1)).getD []
theorem lastW_snoc (f : Words) (w : List Nat) (ps : Posts) : lastW (f ++ [(w, ps)]) = w := by
  unfold lastW
  rw [List.getLast?_concat]
  rfl
theorem nlt_irrefl (a : List Nat) : ¬ a < a := List.lt_irrefl a
theorem wordsK_text {k : Nat} {last : List Nat} {l : List Int} (h : textR l = none) : wordsK (k + 1) last l = none := by
  unfold wordsK
  rw [h]
theorem wordsK_word {k : Nat} {last w : List Nat} {l r : List Int} (h : textR l = some (w, r)) (n : ¬ (wordB w = true ∧ last < w)) : wordsK (k + 1) last l = none := by
  unfold wordsK
  rw [h]
  exact if_neg n
theorem wordsK_go {k : Nat} {last w : List Nat} {l r : List Int} (h : textR l = some (w, r)) (n : wordB w = true ∧ last < w) : wordsK (k + 1) last l =
    match postsR r with
        | none => none
        | some (ps, r1) => if ps = [] then none else
          match wordsK k w r1 with
          | none => none
          | some (ws, r2) => some ((w, ps) :: ws, r2) := by
  conv => lhs; unfold wordsK
  rw [h]
  exact if_pos n
theorem PostsAt.seq {K : PySem.W.Frag} {H : Hp} {l : Addr} {ps : Posts} (h : PostsAt H l ps) : ∃ vs, SqL K H l vs ∧ vs.length = ps.length := by
  obtain ⟨ts, e, i⟩ := h
  exact ⟨_, SqL.of e, by rw [List.length_map]; exact Paired.length i⟩
section
variable {P : Program} {w : World} {K : PySem.W.Frag} {mg : Str → Option Value} {base : Heap} {c : Cl}
theorem ok_is_word (T : Txt K mg c) : GFn P w K mg base CX0 1 "is_word" ["text"] spIsWord := by
  obtain ⟨f, fd, F, hm, hb⟩ := T.d_is_word
  refine ⟨f, fd, hm, F.kp, hb, F.ok sc_is_word (fun vs H Q E h => ?_) (fun cdv A outer s H vs Q E hr h => ?_)⟩
  · obtain ⟨z, rfl, _⟩ := h
    rfl
  · obtain ⟨z, rfl, hz, q⟩ := h
    have nd := sc_is_word.nd
    refine ⟨_, (pss_one (ps_ret (pe_and (pe_cmpR op_ne (pv 0) pe_str (nomark _)) (pe_one (pe_callB (cr_all rfl) (by rfl) T.b_all boot_all (pa_cons (pe_lc (own := [("sign", 1)]) rfl nd (pi_str (pv 0)) (blkOk_by (N := ["text", "sign"]) (sc := defScope s_is_word) (by decide +kernel)) (fun _ _ _ _ _ => (pg_name (i := 1) nd rfl (.inl rfl))) (fun _ _ _ _ _ => pts_nil) (fun _ _ _ _ _ => (pe_or (pe_cmpR op_in_sign (pv 1) (pe_gstr (by rfl) T.g_LETTERS) rfl) (pe_one (pe_cmpR op_in_sign (pv 1) (pe_gstr (by rfl) T.g_FIGURES) rfl))))) pa_nil)))))), ?_⟩
    have hz0 : (z = ("" : Str)) ↔ z.cps.toList = [] := by
      constructor
      · rintro rfl
        rfl
      · intro h
        have h2 : z.cps = #[] := by
          rw [← Array.toList_eq_nil_iff]
          exact h
        obtain ⟨cps⟩ := z
        dsimp only at h2
        rw [h2]
        rfl
    refine ⟨_, rfl, rfl, _, rfl, ?_⟩
    by_cases e0 : z.cps.toList = []
    · rw [hz0.mpr e0]
      have := q _ (Same.refl H)
      unfold wordB at this
      rw [e0] at this
      exact this
    · have e1 : (decide ((V.str z) = V.str ("" : Str))) = false := decide_eq_false fun h => e0 (hz0.mp (V.str.inj h))
      rw [e1]
      refine iteT ?_
      refine ⟨_, rfl, z, rfl, fun D hD => lc_strMap (fun c => .bl (decide (c ∈ lets) || decide (c ∈ figs))) (by omega) (fun _ => rfl) (fun c H Q q => or2 (fun Q q => ⟨_, rfl, c, _, rfl, rfl, q⟩) (fun Q q => ⟨_, rfl, c, _, rfl, rfl, q⟩) q) ?_⟩
      refine ⟨D, z.cps.toList.map fun c => decide (c ∈ lets) || decide (c ∈ figs), rfl, SqL.of ?_, ?_⟩
      · rw [upd_same, List.map_map]
        rfl
      · have := q _ (Same.upd_new (o := .lst (z.cps.toList.map fun c => .bl (decide (c ∈ lets) || decide (c ∈ figs)))) hD)
        unfold wordB at this
        rw [decide_eq_true e0, Bool.true_and] at this
        rw [List.all_map]
        exact this
theorem ok_next_words (T : Txt K mg c) : GMt P w K mg base (L2.CX P w) 6 c.ByteReader "next_words" ["self"] (spWords K c) := by
  obtain ⟨f, fd, F, hm, hb⟩ := T.d_next_words
  have g_sure : GMt P w K mg base (L2.CX P w) 1 c.ByteReader "sure" ["self", "good"] (spSure c) := ok_sure T
  have g_next_number : GMt P w K mg base (L2.CX P w) 3 c.ByteReader "next_number" ["self"] (spNumber K c) := ok_next_number T
  have g_next_text : GMt P w K mg base (L2.CX P w) 4 c.ByteReader "next_text" ["self"] (spText K c) := ok_next_text T
  have g_next_postings : GMt P w K mg base (L2.CX P w) 5 c.ByteReader "next_postings" ["self"] (spPosts K c) := ok_next_postings T
  have g_is_word : GFn P w K mg base CX0 1 "is_word" ["text"] spIsWord := ok_is_word T
  refine ⟨f, fd, hm, hb, F.okX sc_ByteReader_next_words (fun vs H Q E h => ?_) (fun cdv A outer s H vs Q E hr h => ?_)⟩
  · obtain ⟨x, a, d, row, re, rfl, _⟩ := h
    rfl
  · obtain ⟨x, a, d, row, re, rfl, R, q1, q2⟩ := h
    have nd := sc_ByteReader_next_words.nd
    have hu := hu_of hr
    refine ⟨_, (pss_cons (ps_set (i := 1) nd rfl (.inl rfl) (pe_gm0 (pv 0) T.k_ByteReader g_next_number hr (passes_call (takes_of rfl rfl rfl rfl) (fun _ _ _ _ h => h))))
      (pss_cons (ps_expr (pe_gm (pv 0) T.k_ByteReader g_sure hr (passes_call (takes_of rfl rfl rfl rfl) (fun _ _ _ _ h => h)) (pa_cons (pe_cmpR op_gt (pv 1) pe_int (nomark _)) pa_nil)))
      (pss_cons (ps_set (i := 2) nd rfl (.inl rfl) pe_dnewK)
      (pss_cons (ps_set (i := 3) nd rfl (.inl rfl) pe_str)
      (pss_cons (ps_while (passes_of rfl) (pt_cmpR op_lt (pe_callB call_lenD (by rfl) T.b_len boot_len (pa_cons (pv 2) pa_nil)) (pv 1) (nomark _))
        (pss_cons (ps_set (i := 4) nd rfl (.inl rfl) (pe_gm0 (pv 0) T.k_ByteReader g_next_text hr (passes_call (takes_of rfl rfl rfl rfl) (fun _ _ _ _ h => h))))
        (pss_cons (ps_expr (pe_gm (pv 0) T.k_ByteReader g_sure hr (passes_call (takes_of rfl rfl rfl rfl) (fun _ _ _ _ h => h)) (pa_cons (pe_and (pe_g g_is_word hr (by rfl) pass0 (pa_cons (pv 4) pa_nil)) (pe_one (pe_cmpR op_gt_str (pv 4) (pv 3) (nomark _)))) pa_nil)))
        (pss_cons (ps_set (i := 3) nd rfl (.inl rfl) (pv 4))
        (pss_cons (ps_dput hu (pv 2) (pv 4) (pe_gm0 (pv 0) T.k_ByteReader g_next_postings hr (passes_call (takes_of rfl rfl rfl rfl) (fun _ _ _ _ h => h))) rfl)
        (pss_one (ps_expr (pe_gm (pv 0) T.k_ByteReader g_sure hr (passes_call (takes_of rfl rfl rfl rfl) (fun _ _ _ _ h => h)) (pa_cons (pe_cmpR op_gt (pe_callB call_len_seq (by rfl) T.b_len boot_len (pa_cons (pe_dget hu (pv 2) (pv 4) (fun _ _ => rfl)) pa_nil)) pe_int (nomark _)) pa_nil)))))))))
      (pss_one (ps_ret (pv 2)))))))), ?_⟩
    obtain ⟨dx, fs, hx, n1, n2, n3, _⟩ := R.noF
    have hlen := R.len
    have hsuf := R.suf.length_le
    -- the next step
    refine ⟨_, rfl, x, dx, fs, rfl, hx, n3, x, a, d, row, re, rfl, R, fun many r0 e0 v H1 k1 R1 hv => ?_, fun e H1 k1 => q2 (by unfold wordsR; rw [e]) H1 k1⟩
    subst hv
    have hr0 := numR_len e0
    have m0 := (numR_ok e0).1
    obtain ⟨dx, fs, hx, n1, n2, n3, _⟩ := R1.noF
    refine ⟨_, rfl, x, dx, fs, rfl, hx, n2, _, rfl, _, _, rfl, rfl, x, _, rfl, fun e2 => ?_, fun e2 => ?_⟩
    · have hm0 : ¬ many = 0 := by have := of_decide_eq_true e2; omega
      have et : wordsR re = wordsK many.toNat [] r0 := by
        unfold wordsR
        rw [e0]
        exact if_neg hm0
      -- the next step
      intro l hl
      have hl0 : H l = none := by
        refine k1.free hl fun z => ?_
        have : l = x := by simpa using z
        exact (R1.nel hl).1 this.symm
      obtain ⟨nx, na, ndd⟩ := R.nel hl0
      have gx : ∃ o, upd H l (.dK []) x = some o := by
        obtain ⟨dx, h1⟩ := R.ins
        exact ⟨_, upd_old h1 hl0⟩
      refine ⟨fun m σ H' => ∃ (f : Words) (kvs : List (Key × V)) (r : List Int) (y4 : Option V), σ = [some (.ref x), some (.int many), some (.ref l), some (.str (S (lastW f))), y4] ∧ m = r.length ∧ Kp [x] H H' ∧ H' l = some (.dK kvs) ∧
        KvsAt (nw (upd H l (.dK [])) H') kvs f ∧ Rdr K c H' x a d row r ∧ f.length + r.length ≤ 360 ∧ f.length ≤ many.toNat ∧ (∀ v, lastW f < v → ∀ p ∈ f, p.1 < v) ∧ wordsR re = (wordsK (many.toNat - f.length) (lastW f) r).map fun p => (f ++ p.1, p.2),
        ⟨r0.length, [], [], r0, none, rfl, rfl, k1.new hl, upd_same, .nil, R1.new hl, (by simp only [List.length_nil]; omega), Nat.zero_le _, (fun _ _ _ z => nomatch z), ?_⟩, ?_⟩
      · rw [et]
        show _ = (wordsK many.toNat [] r0).map fun p => (p.1, p.2)
        cases wordsK many.toNat [] r0 <;> rfl
      · rintro m σ H2 ⟨f, kvs, r, y4, rfl, rfl, k2, h2, it, R2, hsz, hfl, hlt, en⟩
        have htl : kvs.length = f.length := Paired.length it
        refine ⟨_, rfl, l, _, rfl, h2, _, rfl, _, _, rfl, rfl, _, rfl, ite2 (fun e1 => ?_) (fun e1 => ?_)⟩
        · have e1' : (f.length : Int) < many := by
            have := of_decide_eq_true e1
            rwa [htl] at this
          obtain ⟨k, hk⟩ : ∃ k, many.toNat - f.length = k + 1 := ⟨many.toNat - f.length - 1, by omega⟩
          rw [hk] at en
          refine ⟨fun σ' H' => ∃ (wd : List Nat) (ps : Posts) (q : Addr) (r' : List Int), lastW f < wd ∧ σ' = [some (.ref x), some (.int many), some (.ref l), some (.str (S wd)), some (.str (S wd))] ∧ r'.length < r.length ∧ Kp [x] H H' ∧
            H' l = some (.dK (kvs ++ [(Sum.inr (S wd), V.ref q)])) ∧ KvsAt (nw (upd H l (.dK [])) H') (kvs ++ [(Sum.inr (S wd), V.ref q)]) (f ++ [(wd, ps)]) ∧ Rdr K c H' x a d row r' ∧ wordsR re = (wordsK k wd r').map fun p => ((f ++ [(wd, ps)]) ++ p.1, p.2), ?_, ?_⟩
          · rintro σ' H' ⟨wd, ps, q, r', hw, rfl, hr', k3, h3, it3, R3, en3⟩
            refine ⟨r'.length, hr', f ++ [(wd, ps)], _, r', some (.str (S wd)), ?_, rfl, k3, h3, it3, R3, ?_, ?_, ?_, ?_⟩
            · rw [lastW_snoc]
            · simp only [List.length_append, List.length_cons, List.length_nil]
              omega
            · simp only [List.length_append, List.length_cons, List.length_nil]
              omega
            · intro v hv p hp
              rw [lastW_snoc] at hv
              rcases List.mem_append.mp hp with hp | hp
              · exact nlt_trans (hlt wd hw p hp) hv
              · have : p = (wd, ps) := by simpa using hp
                rw [this]
                exact hv
            · have : many.toNat - (f ++ [(wd, ps)]).length = k := by
                simp only [List.length_append, List.length_cons, List.length_nil]
                omega
              rw [this, lastW_snoc]
              exact en3
          · -- the next step
            obtain ⟨dx, fs, hx, n1, n2, n3, n4, n5, _⟩ := R2.noF
            refine ⟨_, rfl, x, dx, fs, rfl, hx, n5, x, a, d, row, r, rfl, R2, fun wd r1 e v H3 k3 R3 hv => ?_, fun e H3 k3 => q2 (by rw [en, wordsK_text e]; rfl) H3 (k2.trans k3)⟩
            subst hv
            have l1 := textR_len e
            have h3 : H3 l = some (.dK kvs) := k3 _ _ h2 (by simpa using nx.symm)
            obtain ⟨dx, fs, hx, n1, n2, n3, _⟩ := R3.noF
            refine ⟨_, rfl, x, dx, fs, rfl, hx, n2, _, rfl, S wd, rfl, ?_, fun H4 k4 => ⟨wordB wd, rfl, ?_⟩⟩
            · show wd.toArray.size ≤ 1000
              rw [List.size_toArray]
              omega
            have R4 : Rdr K c H4 x a d row r1 := R3.same k4
            have h4 : H4 l = some (.dK kvs) := k4 _ _ h3
            have bad : ¬ (wordB wd = true ∧ lastW f < wd) → E (.ref c.NoBytes) none H4 := fun n => q2 (by rw [en, wordsK_word e n]; rfl) H4 ((k2.trans k3).trans (Kp.same k4))
            cases hwb : wordB wd with
            | false => exact ⟨x, _, rfl, (fun z => nomatch z), fun _ => bad fun z => by rw [hwb] at z; exact nomatch z.1⟩
            | true =>
              refine ⟨_, rfl, _, rfl, _, _, rfl, rfl, x, _, rfl, fun e3 => ?_, fun e3 => bad fun z => of_decide_eq_false e3 z.2⟩
              have hw : lastW f < wd := of_decide_eq_true e3
              rw [wordsK_go e ⟨hwb, hw⟩] at en
              -- the next step
              obtain ⟨dx, fs, hx, n1, n2, n3, n4, n5, n6, _⟩ := R4.noF
              refine ⟨_, rfl, _, rfl, x, dx, fs, rfl, hx, n6, x, a, d, row, r1, rfl, R4, fun ps r2 e5 v H5 k5 R5 hv => ?_, fun e5 H5 k5 => q2 (by rw [en, e5]; rfl) H5 (((k2.trans k3).trans (Kp.same k4)).trans k5)⟩
              obtain ⟨q, rfl, hq⟩ := hv
              have l2 := postsR_len e5
              have h5 : H5 l = some (.dK kvs) := k5 _ _ h4 (by simpa using nx.symm)
              have kA : Kp [x] H H5 := ((k2.trans k3).trans (Kp.same k4)).trans k5
              have hnew : valV kvs (Sum.inr (S wd) : Key) = none := it.none fun p hp z => by
                have := hlt wd hw p hp
                rw [z] at this
                exact nlt_irrefl _ this
              refine ⟨_, rfl, _, rfl, l, _, rfl, DPut.k (k := Sum.inr (S wd)) h5 (sl_lt (by omega)), ?_⟩
              rw [putK_new _ hnew]
              have R6 : Rdr K c (upd H5 l (.dK (kvs ++ [(Sum.inr (S wd), V.ref q)]))) x a d row r2 := R5.put R hl0
              obtain ⟨dx, fs, hx, n1, n2, n3, n4, n5, n6, _⟩ := R6.noF
              have hq5 : PostsAt (upd H5 l (.dK (kvs ++ [(Sum.inr (S wd), V.ref q)]))) q ps := by
                refine hq.same fun b o z => ?_
                obtain ⟨z1, z2⟩ := nw_of z
                rw [upd_ne (fun w => by rw [w, h4] at z1; cases z1)]
                exact z2
              obtain ⟨vs, hqs, hql⟩ := hq5.seq (K := K)
              refine ⟨_, rfl, x, dx, fs, rfl, hx, n2, _, rfl, _, rfl, l, V.ref q, rfl, ?_, q, _, rfl, .inl hqs, _, _, rfl, rfl, x, _, rfl, fun e6 => ?_, fun e6 => ?_⟩
              · have g := DGet.k (k := Sum.inr (S wd)) (upd_same (H := H5) (a := l) (o := .dK (kvs ++ [(Sum.inr (S wd), V.ref q)])))
                rw [valV_snoc _ _ _ _ hnew, if_pos rfl] at g
                exact g
              · have e6' : ps ≠ [] := by
                  rintro rfl
                  have := of_decide_eq_true e6
                  rw [hql] at this
                  simp at this
                refine ⟨wd, ps, q, r2, hw, rfl, by omega, kA.mut hl0, upd_same, ?_, R6, ?_⟩
                · have kn : Same (nw (upd H l (.dK [])) H2) (nw (upd H l (.dK [])) (upd H5 l (.dK (kvs ++ [(Sum.inr (S wd), V.ref q)])))) := by
                    refine (nw_kp (xs := [x]) ((k3.trans (Kp.same k4)).trans k5) fun b hb' => ?_).trans (nw_kp (xs := [l]) (Kp.refl.at (by simp)) fun b hb' => ?_)
                    · have : b = x := by simpa using hb'
                      subst this
                      exact gx
                    · have : b = l := by simpa using hb'
                      subst this
                      exact ⟨_, upd_same⟩
                  refine paired_snoc (it.same kn) ⟨rfl, q, rfl, hq.same fun b o z => ?_⟩
                  obtain ⟨z1, z2⟩ := nw_of z
                  have bl : b ≠ l := fun w => by rw [w, h4] at z1; cases z1
                  refine nw_get ?_ ?_
                  · rw [upd_ne bl]
                    exact z2
                  · rw [upd_ne bl]
                    refine ((k2.trans k3).trans (Kp.same k4)).free z1 fun z => ?_
                    have : b = x := by simpa using z
                    exact (R4.nel z1).1 this.symm
                · rw [en, e5]
                  dsimp only
                  rw [if_neg e6']
                  cases wordsK k wd r2 with
                  | none => rfl
                  | some p => simp
              · have e6' : ps = [] := by
                  have := of_decide_eq_false e6
                  rw [hql] at this
                  exact List.eq_nil_of_length_eq_zero (by omega)
                refine q2 ?_ _ (kA.mut hl0)
                rw [en, e5]
                dsimp only
                rw [if_pos e6']
                rfl
        · have e1' : ¬ (f.length : Int) < many := by
            have := of_decide_eq_false (Bool.eq_false_iff.mpr e1)
            rwa [htl] at this
          rw [show many.toNat - f.length = 0 by omega] at en
          refine ⟨_, rfl, q1 f r ?_ _ _ k2 R2 ⟨l, rfl, kvs, nw_get h2 hl0, it.same (nw_mono fun b hb' => ?_)⟩⟩
          · rw [en]
            show some (f ++ [], r) = _
            rw [List.append_nil]
          · exact (free_ne hb').2
    · refine q2 ?_ H1 k1
      have hm0 : many = 0 := by have := of_decide_eq_false e2; omega
      unfold wordsR
      rw [e0]
      exact if_pos hm0
end
end FC
/-! W08: rules of our own: range(n), list(range(n)), d.keys() as a value, sorted of it. -/
namespace FC
open PySem PySem.Spec PyProof.Rows L2
theorem boot_range : bootBuiltins "range" = some (.type "range") := by decide +kernel
section
variable {X : Cx}
/-- range(n) -/
theorem cr_rng1 : CallR X (.type "range") (fun vs H Q => ∃ j : Int, vs = [V.int j] ∧ ∀ p, H p = none → Q (.ref p) (upd H p (.rng 0 j))) := by
  intro pins s σ H vs us Q I r hq
  obtain ⟨j, ev, hQ⟩ := hq
  subst ev
  obtain ⟨u, eu, ru⟩ := vals1 r
  subst eu
  obtain ⟨tj, etj⟩ := ru
  subst etj
  have fresh := I.hok.fresh (Nat.le_refl s.heap.objs.size)
  exact PySem.call_range_1 ⟨.ref s.heap.objs.size, _, I.laid (a := s.heap.objs.size) (o := .rng 0 j) (t' := s.toks + 1 + 1) (fun b o e => Heap.get?_push_of_some _ e) (Nat.le_refl _) ⟨_, _, _, Heap.get?_push_size _ rfl⟩, rfl, hQ _ fresh⟩
/-- list of such a range -/
theorem cr_listRng (hc : X.calm = true) : CallR X (.type "list") (fun vs H Q => ∃ (p : Addr) (n : Nat), vs = [V.ref p] ∧ H p = some (.rng 0 (n : Int)) ∧ n ≤ 100000 ∧ ∀ l, H l = none → Q (.ref l) (upd H l (.lst ((iota n).map V.int)))) := by
  intro pins s σ H vs us Q I r hq
  obtain ⟨p, n, ev, hp, hn, hQ⟩ := hq
  subst ev
  obtain ⟨u, eu, ru⟩ := vals1 r
  subst eu
  have eu : u = Value.ref p := ru
  subst eu
  obtain ⟨t1, t2, t3, hg⟩ := (I.hok p _ hp : ObjOk X.prog X.w H s.heap p (.rng 0 (n : Int)))
  have hsz : Builtin.Range.rangeSize 0 (n : Int) 1 = ((n : Nat) : Int) := by
    rw [rangeSize_one]
    split <;> omega
  have hlen : ((iota n).map V.int).length = n := by
    unfold iota
    simp
  refine call_list_range (n := n) (I.ok.hd hc) hg (small_one (by omega) (by omega) (by omega) (by omega)) hsz (by omega) fun h' tk acc c' hkeep hnew hits => ?_
  refine ⟨.ref s.heap.objs.size, _, I.laid (o := .lst ((iota n).map V.int)) hkeep (Nat.le_refl _) ⟨?_, acc.toList, c', ?_, ?_⟩, rfl, hQ _ (I.hok.fresh (Nat.le_refl _))⟩
  · rw [hlen]
    exact sl_line (by omega)
  · refine vals_of_at (by rw [hlen, Array.length_toList, hits.1]) fun i x v hx hv => ?_
    obtain ⟨t, et⟩ := hits.2 i v (by rw [← Array.getElem?_toList]; exact hv)
    have hi : i < n := by
      have := (List.getElem?_eq_some_iff.mp hx).1
      rwa [hlen] at this
    have hx' : ((iota n).map V.int)[i]? = some (V.int (i : Int)) := by
      unfold iota
      simp [hi]
    rw [hx'] at hx
    cases Option.some.inj hx
    refine ⟨t, ?_⟩
    rw [et]
    congr 1
    omega
  · rw [Array.toArray_toList]
    exact hnew
/-- the view of a dict's keys, at v -/
def keysO (v d : Addr) : HO := .ext fun h => h.get? v = some { cls := .type "dict_keys", data := .fields #[.ref d] }
/-- d.keys() as a value -/
def tKeysV (td : TE) : TE := fun σ H Q => td σ H fun x H1 => ∃ d kvs, x = .ref d ∧ H1 d = some (.dK kvs) ∧ ∀ v, H1 v = none → Q (.ref v) (upd H1 v (keysO v d))
theorem pe_keysV {e : Expr} {td : TE} {apos cpos : Pos} (he : PE X e td) (hbase : attributeBase e "keys" X.env (eval e X.env) = eval e X.env := by rfl) (hline : (apos.endLine == cpos.line) = true := by rfl) :
    PE X (.Call (.Attribute e "keys" apos) [] [] cpos) (tKeysV td) := by
  constructor
  intro pins s σ H Q I hq
  apply wpAny_Call_method (T := "dict") (id := "dict.keys") hbase rfl hline PySem.F.plainAttrs_dict PySem.F.slot_dict_keys PySem.F.type_dict_keys
  apply thn (he.run pins s σ H _ I hq)
  rintro u s1 ⟨x, H1, I1, rx, d, kvs, ex, hd, hQ⟩
  subst ex
  have eu : u = Value.ref d := rx
  subst eu
  obtain ⟨_, nsys, vs, _, dd⟩ := dk_rd I1.hok (.inl hd)
  refine ⟨dd.typeIs, dd.mapOf.noDict, ?_⟩
  have lay : Inv X pins σ (upd H1 s1.heap.objs.size (keysO s1.heap.objs.size d)) { s1 with heap := s1.heap.push { cls := .type "dict_keys", data := .fields #[.ref d] } } :=
    I1.laid (t' := s1.toks) (fun b o e => Heap.get?_push_of_some _ e) (Nat.le_refl _) ⟨Heap.get?_push_size _ rfl, ⟨_, Heap.get?_push_size _ rfl⟩, fun _ _ w k => k _ w⟩
  show wpAny _ _ (callWith cpos (.builtin "dict.keys") [.ref d] [] []) _ X.xe s1
  exact method_meetsIn PySem.F.slot_dict_keys PySem.F.entry_dict_keys rfl (PySem.evalArgs_none ⟨rfl, dd.typeIs, PySem.F.args_dict_keys_1 _, _, PySem.W.kdl_meets_keys (mixKind X.prog X.w) d nsys, ⟨vs, dd⟩,
    ⟨.ref s1.heap.objs.size, _, lay, rfl, hQ _ (I1.hok.fresh (Nat.le_refl _))⟩⟩)
/-- sorted of such a view, all keys texts, fewer than 64 -/
theorem cr_sortedV (hc : X.calm = true) : CallR X (.builtin "sorted") (fun xs H Q => ∃ (v d : Addr) (kvs : List (Key × V)) (ks : List Str), xs = [.ref v] ∧ H v = some (keysO v d) ∧ H d = some (.dK kvs) ∧ kvs.map (·.1) = ks.map Sum.inr ∧ ks.length < 64 ∧
    ∀ ys p, ys.Perm ks → sortedS ys = true → H p = none → Q (.ref p) (upd H p (.lst (ys.map V.str)))) := by
  intro pins s σ H xs us Q I r hq
  obtain ⟨v, d, kvs, ks, exs, hv, hd, hks, h64, hQ⟩ := hq
  subst exs
  obtain ⟨u, eu, ru⟩ := vals1 r
  subst eu
  have eu : u = Value.ref v := ru
  subst eu
  obtain ⟨hview, _, _⟩ := I.hok v _ hv
  obtain ⟨_, nsys, vs, rel, dd⟩ := dk_rd I.hok (.inl hd)
  obtain ⟨ep, hat⟩ := dd.dictAt
  have ek : vs.map (·.1) = ks.map Sum.inr := rel.keys.symm.trans hks
  have el : vs.length = ks.length := by simpa using congrArg List.length ek
  refine Calls.call_function_entry PyProof.Rows.kind_sorted PyProof.Rows.plain_sorted PyProof.Rows.entry_sorted (PyProof.Rows.args_sorted1 _) ?_
  unfold Builtin.«sorted»
  apply wpAny_bind (m := checkCount "sorted" 1 1 _)
  apply wpAny_pure
  apply wpAny_bind
  refine PySem.W.kdu_collect (A := X.A.in1) (PySem.W.kdl_keys (knd := mixKind X.prog X.w) (kvs := vs) (ep := ep) (r := v) (d := d)) (I.ok.hd hc) ⟨⟨_, hview, rfl, rfl⟩, hat⟩ (by rw [el]; exact sl_line (by omega)) fun h' tk acc hkeep hacc => ?_
  have la : acc.toList.length = ks.length := by rw [Array.length_toList, hacc.1, el]
  have hst : StrsAre acc.toList ks := by
    refine strs_at la fun j z ez => ?_
    obtain ⟨k, y, e1, e2⟩ := hacc.2 j z (by rw [← Array.getElem?_toList]; exact ez)
    have e3 : (ks.map Sum.inr : List Key)[j]? = some k := by rw [← ek, List.getElem?_map, e1]; rfl
    rw [List.getElem?_map] at e3
    cases e4 : ks[j]? with
    | none => rw [e4] at e3; cases e3
    | some y' =>
      rw [e4] at e3
      have e5 : Sum.inr y' = k := Option.some.inj e3
      subst e5
      obtain ⟨t, et⟩ := Value.isStrOf_shape (x := y') (v := z) e2
      exact ⟨y', t, rfl, et⟩
  have J : Inv X pins σ H { s with heap := h', toks := tk } := I.kept hkeep
  apply wpAny_bind
  refine wpAny_newList ?_ (by rw [la]; exact sl_line (by omega))
  have hL : (h'.push (seqObj "list" acc.toList.toArray 0)).get? h'.objs.size = some (seqObj "list" acc.toList.toArray 0) := Heap.get?_push_size _ rfl
  show wpAny _ _ _ _ _ { s with heap := h'.push (seqObj "list" acc.toList.toArray 0), toks := tk }
  apply wpAny_bind
  apply wpAny_holding
  refine wpAny_call_entry PyProof.Rows.slot_list_sort ⟨_, hL, rfl⟩ PyProof.Rows.entry_list_sort (list_sort_treeK strKind_oneLt (s := { s with heap := h'.push (seqObj "list" acc.toList.toArray 0), toks := tk }) hL hst.keysOf (fun v₁ v₂ rest e => keyKind_strs (by rw [← e]; exact hst)) (by rw [la]; exact h64) fun st hp hs => ⟨_, rfl, ?_⟩) (PyProof.Rows.args_list_sort _)
  obtain ⟨ys, y1, y2, y3⟩ := sorted_out_str hst hp hs
  obtain ⟨c', hc'⟩ := PyProof.Rows.sortedHeap_at (vs := acc.toList) (out := (arrOf st).map (·.2)) hL
  have ly : (ys.map V.str).length ≤ sizeLine := by
    rw [List.length_map, y2.length_eq]
    exact sl_line (by omega)
  apply wpAny_pure
  refine ⟨_, rfl, .ref h'.objs.size, _, J.laid (a := h'.objs.size) (o := .lst (ys.map V.str)) (t' := tk) (fun b o e => ?_) (Nat.le_refl _) ⟨ly, ((arrOf st).map (·.2)).toList, c', vals_of_strs y1, by rw [Array.toArray_toList]; exact hc'⟩, rfl, hQ ys _ y2 y3 (J.hok.fresh (Nat.le_refl _))⟩
  have lt : b < h'.objs.size := Heap.lt_size e
  rw [PyProof.Rows.sortedHeap_old (Nat.ne_of_lt lt) (by rw [size_push']; exact Nat.lt_succ_of_lt lt)]
  exact Heap.get?_push_of_some _ e
end
/-! ### what is sorted already -/
theorem ltCps_lt : ∀ a b : List Nat, ltCps a b = decide (a < b)
  | [], [] => by simp [ltCps]
  | [], _ :: _ => by simp [ltCps]
  | _ :: _, [] => by simp [ltCps]
  | a :: r, b :: t => by
    unfold ltCps
    rw [ltCps_lt r t]
    by_cases h : a < b
    · simp [h, List.cons_lt_cons_iff]
    · by_cases e : a = b
      · simp [e, List.cons_lt_cons_iff]
      · simp [h, e, List.cons_lt_cons_iff]
theorem risingS_pw : ∀ (l : List Str) (p : Str), risingS p l = true → (p :: l).Pairwise fun a b => ¬ b.cps.toList < a.cps.toList
  | [], p, _ => List.pairwise_singleton _ _
  | x :: r, p, h => by
    unfold risingS at h
    rw [ltCps_lt] at h
    obtain ⟨h1, h2⟩ := Bool.and_eq_true_iff.mp h
    have h1' : ¬ x.cps.toList < p.cps.toList := by simpa using h1
    have ih := risingS_pw r x h2
    refine List.pairwise_cons.mpr ⟨fun y hy => ?_, ih⟩
    rcases List.mem_cons.mp hy with rfl | hy
    · exact h1'
    · have h3 := (List.pairwise_cons.mp ih).1 y hy
      exact fun z => h1' (List.lt_of_le_of_lt h3 z)
theorem sortedS_pw {l : List Str} (h : sortedS l = true) : l.Pairwise fun a b => ¬ b.cps.toList < a.cps.toList := by
  cases l with
  | nil => exact .nil
  | cons x r => exact risingS_pw r x h
theorem Str_ext {a b : Str} (h : a.cps.toList = b.cps.toList) : a = b := by
  obtain ⟨a⟩ := a
  obtain ⟨b⟩ := b
  congr
  exact Array.toList_inj.mp h
/-- texts that rise, sorted, are as they are -/
theorem sorted_same {ys : List Str} {ws : List (List Nat)} (hp : ys.Perm (ws.map S)) (hs : sortedS ys = true) (hw : ws.Pairwise (· < ·)) : ys = ws.map S := by
  refine List.Perm.eq_of_pairwise (le := fun a b => ¬ b.cps.toList < a.cps.toList) (fun a b _ _ h1 h2 => Str_ext ?_) (sortedS_pw hs) ?_ hp
  · exact List.le_antisymm h1 h2
  · rw [List.pairwise_map]
    exact hw.imp fun h z => nlt_irrefl _ (nlt_trans h z)
end FC
/-! W09: a piece in a heap; Piece's methods. -/
namespace FC
open PySem PySem.Spec PyProof.Rows L2
/-! ### dicts by texts -/
def KA {α : Type} (A : Addr → α → Prop) (kvs : List (Key × V)) (ps : List (List Nat × α)) : Prop := Paired (fun (kv : Key × V) (p : List Nat × α) => kv.1 = (Sum.inr (S p.1) : Key) ∧ ∃ l, kv.2 = V.ref l ∧ A l p.2) kvs ps
def findA {α : Type} (ps : List (List Nat × α)) (f : List Nat) : Option α := (ps.find? fun p => decide (p.1 = f)).map (·.2)
theorem findA_cons {α : Type} (p : List Nat × α) (ps : List (List Nat × α)) (f : List Nat) : findA (p :: ps) f = if p.1 = f then some p.2 else findA ps f := by
  unfold findA
  by_cases h : p.1 = f <;> simp [List.find?_cons, h]
theorem KA.get {α : Type} {A : Addr → α → Prop} {f : List Nat} : ∀ {kvs : List (Key × V)} {ps : List (List Nat × α)}, KA A kvs ps → (findA ps f = none ∧ valV kvs (Sum.inr (S f) : Key) = none) ∨ ∃ a l, findA ps f = some a ∧ valV kvs (Sum.inr (S f) : Key) = some (V.ref l) ∧ A l a
  | _, _, .nil => .inl ⟨rfl, rfl⟩
  | _, _, .cons (a := kv) (b := p) h t => by
    by_cases e : p.1 = f
    · obtain ⟨h1, l, h2, h3⟩ := h
      refine .inr ⟨p.2, l, by rw [findA_cons, if_pos e], ?_, h3⟩
      rw [valV_pos (by rw [h1, e]), h2]
    · rw [findA_cons, if_neg e, valV_neg (fun z => e (key_inj (h.1.symm.trans z)))]
      exact KA.get t
theorem KA.mono {α : Type} {A B : Addr → α → Prop} {kvs : List (Key × V)} {ps : List (List Nat × α)} (h : KA A kvs ps) (k : ∀ l a, A l a → B l a) : KA B kvs ps := Paired.mapP h fun _ _ z => ⟨z.1, let ⟨l, e, p⟩ := z.2; ⟨l, e, k _ _ p⟩⟩
theorem KA.keys {α : Type} {A : Addr → α → Prop} : ∀ {kvs : List (Key × V)} {ps : List (List Nat × α)}, KA A kvs ps → kvs.map (·.1) = (ps.map fun p => S p.1).map Sum.inr
  | _, _, .nil => rfl
  | _, _, .cons h t => by rw [List.map_cons, List.map_cons, List.map_cons, KA.keys t, h.1]
abbrev Tab := List (List Nat × Words)
def TabAt (H : Hp) (tb : Addr) (tab : Tab) : Prop := ∃ kvs, H tb = some (.dK kvs) ∧ KA (WordsAt H) kvs tab
theorem TabAt.same {H H' : Hp} {tb : Addr} {tab : Tab} (h : TabAt H tb tab) (k : Same H H') : TabAt H' tb tab := by
  obtain ⟨kvs, e, i⟩ := h
  exact ⟨kvs, k _ _ e, i.mono fun l a z => z.same k⟩
def wordsIn (tab : Tab) (f : List Nat) : Words := (findA tab f).getD []
def postsIn (ws : Words) (w : List Nat) : Posts := (findA ws w).getD []
def lenOf (tab : Tab) (m : Int) (f : List Nat) : Int := ((gath (wordsIn tab f) m).length : Int)
def LensOk (lkvs : List (List Key × V)) (tab : Tab) : Prop := ∀ (m : Int) (f : List Nat), (valV lkvs ([Sum.inl m, Sum.inr (S f)] : List Key)).getD (.int 0) = .int (lenOf tab m f)
def fsP (hm ln tb : Addr) : List (Str × V) := [("held_makes", .ref hm), ("lengths", .ref ln), ("table", .ref tb)]
theorem fsP_hm (hm ln tb : Addr) : (fsP hm ln tb).lookup ("held_makes" : Str) = some (V.ref hm) := rfl
theorem fsP_ln (hm ln tb : Addr) : (fsP hm ln tb).lookup ("lengths" : Str) = some (V.ref ln) := rfl
theorem fsP_tb (hm ln tb : Addr) : (fsP hm ln tb).lookup ("table" : Str) = some (V.ref tb) := rfl
/-- the piece of these makes and words stands at y -/
def PceAt (c : Cl) (H : Hp) (y : Addr) (makes : List Int) (tab : Tab) : Prop :=
  ∃ dx hm ln tb lkvs, H y = some (.ins c.Piece dx (fsP hm ln tb)) ∧ H hm = some (.lst (makes.map V.int)) ∧ H ln = some (.dT lkvs) ∧ LensOk lkvs tab ∧ TabAt H tb tab
theorem PceAt.same {c : Cl} {H H' : Hp} {y : Addr} {makes : List Int} {tab : Tab} (h : PceAt c H y makes tab) (k : Same H H') : PceAt c H' y makes tab := by
  obtain ⟨dx, hm, ln, tb, lkvs, h1, h2, h3, h4, h5⟩ := h
  exact ⟨dx, hm, ln, tb, lkvs, k _ _ h1, k _ _ h2, k _ _ h3, h4, h5.same k⟩
/-! ### promises -/
def spLookMakes : Sp := fun vs H Q _ => ∃ e : Addr, vs = [.ref e] ∧ H e = some (.lst []) ∧ ∀ H', Same H H' → Q .non H'
def spPInit (c : Cl) : Sp := fun vs H Q _ => ∃ y e dx : Addr, vs = [.ref y, .ref e] ∧ H y = some (.ins c.Piece dx []) ∧ H e = some (.lst []) ∧
  ∀ (hm ln tb : Addr) H', Kp [y] H H' → H hm = none → H ln = none → H tb = none → H' y = some (.ins c.Piece dx (fsP hm ln tb)) → H' hm = some (.lst []) → H' ln = some (.dT []) → H' tb = some (.dK []) → Q .non H'
def spMakes (c : Cl) : Sp := fun vs H Q _ => ∃ (y dx hm : Addr) (fs : List (Str × V)) (ms : List Int), vs = [.ref y] ∧ H y = some (.ins c.Piece dx fs) ∧ fs.lookup ("held_makes" : Str) = some (V.ref hm) ∧ H hm = some (.lst (ms.map V.int)) ∧
  ∀ H' p, Same H H' → H p = none → H' p = some (.lst (ms.map V.int)) → Q (.ref p) H'
def TabOk (tab : Tab) : Prop := tab.length < 64 ∧ tab.Pairwise (fun a b => a.1 < b.1) ∧ ∀ p ∈ tab, p.2.length < 64 ∧ p.2.Pairwise (fun a b => a.1 < b.1)
def spFields (c : Cl) : Sp := fun vs H Q _ => ∃ (y : Addr) (makes : List Int) (tab : Tab), vs = [.ref y] ∧ PceAt c H y makes tab ∧ TabOk tab ∧ ∀ H' p, Same H H' → H p = none → H' p = some (.lst ((tab.map fun f => S f.1).map V.str)) → Q (.ref p) H'
def spPWords (c : Cl) : Sp := fun vs H Q _ => ∃ (y : Addr) (makes : List Int) (tab : Tab) (f : List Nat), vs = [.ref y, .str (S f)] ∧ PceAt c H y makes tab ∧ TabOk tab ∧
  ∀ H' p, Same H H' → H p = none → H' p = some (.lst (((wordsIn tab f).map fun w => S w.1).map V.str)) → Q (.ref p) H'
def spPPosts (c : Cl) : Sp := fun vs H Q _ => ∃ (y : Addr) (makes : List Int) (tab : Tab) (f w : List Nat), vs = [.ref y, .str (S f), .str (S w)] ∧ PceAt c H y makes tab ∧ (postsIn (wordsIn tab f) w).length ≤ 1000 ∧
  ∀ H' l, Same H H' → PostsAt (nw H H') l (postsIn (wordsIn tab f) w) → Q (.ref l) H'
def spPLen (c : Cl) : Sp := fun vs H Q _ => ∃ (y : Addr) (makes : List Int) (tab : Tab) (m : Int) (f : List Nat), vs = [.ref y, .int m, .str (S f)] ∧ PceAt c H y makes tab ∧ ∀ H', Same H H' → Q (.int (lenOf tab m f)) H'
def spCopied : Sp := fun vs H Q _ => ∃ (l : Addr) (ps : Posts), vs = [.ref l] ∧ PostsAt H l ps ∧ ps.length ≤ 1000 ∧ ∀ H' l', Same H H' → PostsAt (nw H H') l' ps → Q (.ref l') H'
theorem ItemsAt.at {H : Hp} : ∀ {ts : List (Addr × Addr)} {ps : Posts} {i : Nat} {t : Addr × Addr}, ItemsAt H ts ps → ts[i]? = some t → ∃ p, ps[i]? = some p ∧ H t.1 = some (.tup [.int p.1, .ref t.2]) ∧ H t.2 = some (.lst (p.2.map V.int))
  | _, _, _, _, .nil, e => by simp at e
  | _, _, 0, t, .cons h _, e => by
    have e' := Option.some.inj e
    subst e'
    exact ⟨_, rfl, h⟩
  | _, _, i + 1, t, .cons _ h, e => by
    obtain ⟨p, e1, e2⟩ := ItemsAt.at (i := i) h (by simpa using e)
    exact ⟨p, by simpa using e1, e2⟩
section
variable {P : Program} {w : World} {K : PySem.W.Frag} {mg : Str → Option Value} {base : Heap} {c : Cl}
theorem ok_look_at_makes (T : Txt K mg c) : GFn P w K mg base CX0 1 "look_at_makes" ["makes"] spLookMakes := by
  obtain ⟨f, fd, F, hm, hb⟩ := T.d_look_at_makes
  refine ⟨f, fd, hm, F.kp, hb, F.ok sc_look_at_makes (fun vs H Q E h => ?_) (fun cdv A outer s H vs Q E hr h => ?_)⟩
  · obtain ⟨e, rfl, _⟩ := h
    rfl
  · obtain ⟨e, rfl, he, q⟩ := h
    have nd := sc_look_at_makes.nd
    refine ⟨_, (pss_cons (ps_set (i := 1) nd rfl (.inl rfl) (pe_un un_neg pe_int))
      (pss_one (ps_for PassesOwn.never rfl (pi_enum (by rfl) T.b_enumerate (pa_cons (pv 0) pa_nil)) (pg_tup rfl (pgs_cons (pg_name (i := 2) nd rfl (.inl rfl)) (pgs_cons (pg_tup rfl (pgs_cons (pg_name (i := 3) nd rfl (.inl rfl)) (pgs_cons (pg_name (i := 4) nd rfl (.inl rfl)) pgs_nil))) pgs_nil))) pss_never))), ?_⟩
    refine ⟨_, rfl, _, rfl, e, [], rfl, SqL.of he, for_it (walk_enum (xs := [])) (fun _ _ H' => H' = H) rfl (fun _ _ _ _ z => by rw [z]; exact SqL.of he) (fun i _ _ _ _ hi => absurd hi (Nat.not_lt_zero i)) fun _ H' z => ?_⟩
    subst z
    exact q _ (Same.refl _)
theorem ok_Piece_init (T : Txt K mg c) : GIn P w K mg base CX0 2 c.Piece ["self", "makes"] (spPInit c) := by
  obtain ⟨f, fd, F, M, hb⟩ := T.d_Piece_init
  have g_look_at_makes : GFn P w K mg base CX0 1 "look_at_makes" ["makes"] spLookMakes := ok_look_at_makes T
  refine ⟨f, fd, M, hb, F.ok sc_Piece__init_ (fun vs H Q E h => ?_) (fun cdv A outer s H vs Q E hr h => ?_)⟩
  · obtain ⟨y, e, dx, rfl, _⟩ := h
    rfl
  · obtain ⟨y, e, dx, rfl, hy, he, q⟩ := h
    have nd := sc_Piece__init_.nd
    refine ⟨_, (pss_cons (ps_expr (pe_g g_look_at_makes hr (by rfl) pass0 (pa_cons (pv 1) pa_nil)))
      (pss_cons (ps_fld (pv 0) (pe_lc (own := [("make", 2), ("document", 3)]) (g := gTup K 2 (gCons (gName 2) (gCons (gName 3) gNil))) rfl nd (pi_list (pv 1)) (blkOk_by (N := ["self", "makes", "make", "document", "field", "many", "places"]) (sc := defScope s_Piece__init_) (by decide +kernel)) (fun _ _ _ _ _ => (pg_tup rfl (pgs_cons (pg_name (i := 2) nd rfl (.inl rfl)) (pgs_cons (pg_name (i := 3) nd rfl (.inl rfl)) pgs_nil)))) (fun _ _ _ _ _ => pts_nil) (fun _ _ _ _ _ => (pv 2))) rfl)
      (pss_cons (ps_fld (pv 0) pe_dnewT rfl)
      (pss_cons (ps_fld (pv 0) pe_dnewK rfl)
      (pss_one (ps_for PassesOwn.never rfl (pi_list (pv 1)) (pg_tup rfl (pgs_cons (pg_name (i := 2) nd rfl (.inl rfl)) (pgs_cons (pg_name (i := 3) nd rfl (.inl rfl)) pgs_nil))) pss_never)))))), ?_⟩
    -- the next step
    refine ⟨_, rfl, e, rfl, he, fun H1 s1 => ?_⟩
    have y1 := s1 _ _ hy
    have e1 := s1 _ _ he
    -- the next step
    refine ⟨_, rfl, e, rfl, ⟨_, SqL.of e1⟩, fun hm hhm => lc_list (xs := []) (fun _ H' => H' = upd H1 hm (.lst [])) rfl (fun _ _ _ z => z ▸ SqL.of (upd_old e1 hhm)) (fun _ _ _ z => by simp at z) fun H2 z => ?_⟩
    subst z
    have y2 := upd_old (u := .lst []) y1 hhm
    have hmy : hm ≠ y := (ne_of_none y1 hhm).symm
    refine ⟨_, rfl, y, c.Piece, dx, _, rfl, y2, T.k_Piece, T.a_held_makes, (by show 0 < 1000; decide), ?_⟩
    -- the next step
    intro ln hln
    obtain ⟨lny, hln2⟩ := free_ne hln
    obtain ⟨lnm, hln1⟩ := free_ne hln2
    refine ⟨_, rfl, y, c.Piece, dx, _, rfl, upd_old upd_same hln, T.k_Piece, T.a_lengths, (by show 1 < 1000; decide), ?_⟩
    -- the next step
    intro tb htb
    obtain ⟨tby, htb2⟩ := free_ne htb
    obtain ⟨tbl, htb3⟩ := free_ne htb2
    obtain ⟨_, htb4⟩ := free_ne htb3
    obtain ⟨tbm, htb1⟩ := free_ne htb4
    refine ⟨_, rfl, y, c.Piece, dx, _, rfl, upd_old upd_same htb, T.k_Piece, T.a_table, (by show 2 < 1000; decide), ?_⟩
    have ey : e ≠ y := ne_of he hy (by intro z; cases z)
    have em : e ≠ hm := ne_of_none e1 hhm
    have el : e ≠ ln := ne_of_none e1 hln1
    have et : e ≠ tb := ne_of_none e1 htb1
    have lk : ∀ (u1 u2 : HO), upd (upd (upd (upd (upd (upd H1 hm (.lst [])) y u1) ln (.dT [])) y u2) tb (.dK [])) y (.ins c.Piece dx (fsP hm ln tb)) e = some (.lst []) := fun u1 u2 => by
      rw [upd_ne ey, upd_ne et, upd_ne ey, upd_ne el, upd_ne ey, upd_ne em]
      exact e1
    refine ⟨_, rfl, e, rfl, ⟨_, SqL.of (lk _ _)⟩, for_list (xs := []) (fun _ _ H' => H' = _) rfl (fun _ _ _ _ z => z ▸ SqL.of (lk _ _)) (fun _ _ _ _ z => by simp at z) fun _ H2 z => ?_⟩
    subst z
    have f1 : H hm = none := s1.free hhm
    have f2 : H ln = none := s1.free hln1
    have f3 : H tb = none := s1.free htb1
    refine q hm ln tb _ ((((((Kp.same s1).mut f1).at (by simp)).mut f2).at (by simp)).mut f3 |>.at (by simp)) f1 f2 f3 upd_same ?_ ?_ ?_
    · rw [upd_ne hmy, upd_ne tbm.symm, upd_ne hmy, upd_ne lnm.symm, upd_ne hmy, upd_same]
    · rw [upd_ne lny, upd_ne tbl.symm, upd_ne lny, upd_same]
    · rw [upd_ne tby, upd_same]
theorem ok_makes (T : Txt K mg c) : GMt P w K mg base CX0 1 c.Piece "makes" ["self"] (spMakes c) := by
  obtain ⟨f, fd, F, hm, hb⟩ := T.d_makes
  refine ⟨f, fd, hm, hb, F.ok sc_Piece_makes (fun vs H Q E h => ?_) (fun cdv A outer s H vs Q E hr h => ?_)⟩
  · obtain ⟨y, dx, hm, fs, ms, rfl, _⟩ := h
    rfl
  · obtain ⟨y, dx, hm, fs, ms, rfl, hy, hl, hh, q⟩ := h
    have nd := sc_Piece_makes.nd
    refine ⟨_, (pss_one (ps_ret (pe_callTy call_list_of (by rfl) T.b_list boot_list (pa_cons (pe_fld (pv 0) rfl) pa_nil)))), ?_⟩
    exact ⟨_, rfl, y, _, dx, _, _, rfl, hy, T.k_Piece, T.a_held_makes, hl, hm, _, rfl, .inl (SqL.of hh), fun p hp => q _ p (Same.upd_new hp) hp upd_same⟩
theorem ok_fields (T : Txt K mg c) : GMt P w K mg base CX0 1 c.Piece "fields" ["self"] (spFields c) := by
  obtain ⟨f, fd, F, hm, hb⟩ := T.d_fields
  refine ⟨f, fd, hm, hb, F.ok sc_Piece_fields (fun vs H Q E h => ?_) (fun cdv A outer s H vs Q E hr h => ?_)⟩
  · obtain ⟨y, makes, tab, rfl, _⟩ := h
    rfl
  · obtain ⟨y, makes, tab, rfl, ⟨dx, hm, ln, tb, lkvs, h1, h2, h3, h4, kvs, h5, h6⟩, ⟨t1, t2, t3⟩, q⟩ := h
    have nd := sc_Piece_fields.nd
    refine ⟨_, (pss_one (ps_ret (pe_callB (cr_sortedV rfl) (by rfl) T.b_sorted boot_sorted (pa_cons (pe_keysV (pe_fld (pv 0) rfl)) pa_nil)))), ?_⟩
    refine ⟨_, rfl, y, _, dx, _, _, rfl, h1, T.k_Piece, T.a_table, fsP_tb _ _ _, tb, kvs, rfl, h5, fun v hv => ⟨v, tb, kvs, tab.map fun f => S f.1, rfl, upd_same, upd_old h5 hv, h6.keys, by rw [List.length_map]; exact t1, fun ys p p1 p2 p3 => ?_⟩⟩
    have e : ys = (tab.map (·.1)).map S := sorted_same (by rw [List.map_map]; exact p1) p2 (List.pairwise_map.mpr t2)
    have hv' := (free_ne p3).2
    refine q _ p (Same.new (Same.upd_new hv) p3) hv' ?_
    rw [upd_same, e, List.map_map, List.map_map, List.map_map]
    rfl
theorem ok_words (T : Txt K mg c) : GMt P w K mg base CX0 1 c.Piece "words" ["self", "field"] (spPWords c) := by
  obtain ⟨f, fd, F, hm, hb⟩ := T.d_words
  refine ⟨f, fd, hm, hb, F.ok sc_Piece_words (fun vs H Q E h => ?_) (fun cdv A outer s H vs Q E hr h => ?_)⟩
  · obtain ⟨y, makes, tab, nm, rfl, _⟩ := h
    rfl
  · obtain ⟨y, makes, tab, nm, rfl, ⟨dx, hm, ln, tb, lkvs, h1, h2, h3, h4, kvs, h5, h6⟩, ⟨t1, t2, t3⟩, q⟩ := h
    have nd := sc_Piece_words.nd
    have hu := hu_of hr
    refine ⟨_, (pss_one (ps_ret (pe_callB (cr_sortedV rfl) (by rfl) T.b_sorted boot_sorted (pa_cons (pe_keysV (pe_dget2 hu (pe_fld (pv 0) rfl) (pv 1) pe_dnewK ⟨rfl, rfl, rfl, rfl⟩)) pa_nil)))), ?_⟩
    refine ⟨_, rfl, y, _, dx, _, _, rfl, h1, T.k_Piece, T.a_table, fsP_tb _ _ _, tb, rfl, .inl ⟨_, .inl h5⟩, _, rfl, fun z hz => ⟨_, DGet.k (k := Sum.inr (S nm)) (upd_old h5 hz), ?_⟩⟩
    have go : ∀ (d : Addr) (wk : List (Key × V)) (ws : Words), upd H z (.dK []) d = some (.dK wk) → KA (PostsAt H) wk ws → wordsIn tab nm = ws → ws.length < 64 → ws.Pairwise (fun a b => a.1 < b.1) →
        ∃ d' kvs', V.ref d = .ref d' ∧ upd H z (.dK []) d' = some (.dK kvs') ∧ ∀ v, upd H z (.dK []) v = none → ∃ v' d kvs ks, [V.ref v] = [.ref v'] ∧ upd (upd H z (.dK [])) v (keysO v d') v' = some (keysO v' d) ∧ upd (upd H z (.dK [])) v (keysO v d') d = some (.dK kvs) ∧
          kvs.map (·.1) = ks.map Sum.inr ∧ ks.length < 64 ∧ ∀ ys p, ys.Perm ks → sortedS ys = true → upd (upd H z (.dK [])) v (keysO v d') p = none → Q (.ref p) (upd (upd (upd H z (.dK [])) v (keysO v d')) p (.lst (ys.map V.str))) := by
      intro d wk ws hd hk hw l1 l2
      refine ⟨d, wk, rfl, hd, fun v hv => ⟨v, d, wk, ws.map fun w => S w.1, rfl, upd_same, upd_old hd hv, hk.keys, by rw [List.length_map]; exact l1, fun ys p p1 p2 p3 => ?_⟩⟩
      have e : ys = (ws.map (·.1)).map S := sorted_same (by rw [List.map_map]; exact p1) p2 (List.pairwise_map.mpr l2)
      have hv' := (free_ne (free_ne p3).2).2
      refine q _ p (Same.new (Same.new (Same.upd_new hz) hv) p3) hv' ?_
      rw [upd_same, e, List.map_map, List.map_map, List.map_map, hw]
      rfl
    rcases h6.get (f := nm) with ⟨g1, g2⟩ | ⟨ws, dw, g1, g2, wk, g3, g4⟩
    · rw [g2]
      refine go z [] [] upd_same .nil ?_ (by decide) .nil
      unfold wordsIn
      rw [g1]
      rfl
    · rw [g2]
      have hmem : ∃ p ∈ tab, p.2 = ws := by
        unfold findA at g1
        cases e : tab.find? fun p => decide (p.1 = nm) with
        | none => rw [e] at g1; cases g1
        | some p =>
          rw [e] at g1
          exact ⟨p, List.mem_of_find?_eq_some e, Option.some.inj g1⟩
      obtain ⟨p, hp, rfl⟩ := hmem
      refine go dw wk p.2 (upd_old g3 hz) g4 ?_ (t3 p hp).1 (t3 p hp).2
      unfold wordsIn
      rw [g1]
      rfl
end
end FC
/-! W10: copied_postings, Piece.postings, Piece.length. -/
namespace FC
open PySem PySem.Spec PyProof.Rows L2
/-! ### rules whose written part is told -/
def rListOf (K : PySem.W.Frag) : List V → Hp → VK → Prop := fun xs H Q => ∃ p ys, xs = [V.ref p] ∧ (SqL K H p ys ∨ SqT K H p ys) ∧ ∀ l, H l = none → Q (.ref l) (upd H l (.lst ys))
theorem call_listK {X : Cx} {K : PySem.W.Frag} (h : X.K = K := by rfl) : CallR X (.type "list") (rListOf K) := by
  subst h
  exact call_list_of
def rLenOf (K : PySem.W.Frag) : List V → Hp → VK → Prop := fun xs H Q => ∃ p ys, xs = [V.ref p] ∧ (SqL K H p ys ∨ SqT K H p ys) ∧ Q (.int ys.length) H
theorem call_lenK {X : Cx} {K : PySem.W.Frag} (h : X.K = K := by rfl) : CallR X (.builtin "len") (rLenOf K) := by
  subst h
  exact call_len_seq
theorem ix_tupK {X : Cx} {K : PySem.W.Frag} (h : X.K = K := by rfl) : IxR X (rIxT K) := by
  subst h
  exact ix_tup
section
variable {P : Program} {w : World} {K : PySem.W.Frag} {mg : Str → Option Value} {base : Heap} {c : Cl}
theorem ok_copied_postings (T : Txt K mg c) : GFn P w K mg base CX0 1 "copied_postings" ["postings"] spCopied := by
  obtain ⟨f, fd, F, hm, hb⟩ := T.d_copied_postings
  refine ⟨f, fd, hm, F.kp, hb, F.ok sc_copied_postings (fun vs H Q E h => ?_) (fun cdv A outer s H vs Q E hr h => ?_)⟩
  · obtain ⟨l, ps, rfl, _⟩ := h
    rfl
  · obtain ⟨l, ps, rfl, ⟨ts, hl, it⟩, hsz, q⟩ := h
    have nd := sc_copied_postings.nd
    refine ⟨_, (pss_one (ps_ret (pe_lc (own := [("make", 1), ("places", 2)]) (g := gTup K 2 (gCons (gName 1) (gCons (gName 2) gNil))) (te := tTup (tCons (tVar 1) (tCons (tCB (rListOf K) (tCons (tVar 2) tNil)) tNil))) rfl nd (pi_list (pv 0)) (blkOk_by (N := ["postings", "make", "places"]) (sc := defScope s_copied_postings) (by decide +kernel)) (fun _ _ _ _ _ => (pg_tup rfl (pgs_cons (pg_name (i := 1) nd rfl (.inl rfl)) (pgs_cons (pg_name (i := 2) nd rfl (.inl rfl)) pgs_nil)))) (fun _ _ _ _ _ => pts_nil) (fun _ _ _ _ _ => (pe_tup (pa_cons (pv 1) (pa_cons (pe_callTy call_listK (by rfl) T.b_list boot_list (pa_cons (pv 2) pa_nil)) pa_nil))))))), ?_⟩
    have hln : ts.length = ps.length := Paired.length it
    refine ⟨_, rfl, l, rfl, ⟨_, SqL.of hl⟩, fun D hD => lc_list (xs := ts.map fun t => V.ref t.1) (fun i H' => ∃ ts', H' D = some (.lst (ts'.map fun t => V.ref t.1)) ∧ ItemsAt (nw (upd H D (.lst [])) H') ts' (ps.take i) ∧ Kp [D] (upd H D (.lst [])) H')
      ⟨[], upd_same, .nil, Kp.refl⟩ (fun i H' _ ⟨_, _, _, k⟩ => SqL.of (k _ _ (upd_old hl hD) (by simpa using ne_of_none hl hD))) (fun i v H1 hv ⟨ts', h1, i1, k1⟩ => ?_) fun H1 ⟨ts', h1, i1, k1⟩ => ?_⟩
    · -- one posting
      rw [List.getElem?_map] at hv
      cases et : ts[i]? with
      | none => rw [et] at hv; cases hv
      | some t =>
        rw [et] at hv
        cases Option.some.inj hv
        obtain ⟨p, hp, a1, a2⟩ := it.at et
        have b1 : H1 t.1 = some (.tup [.int p.1, .ref t.2]) := k1 _ _ (upd_old a1 hD) (by simpa using ne_of_none a1 hD)
        have b2 : H1 t.2 = some (.lst (p.2.map V.int)) := k1 _ _ (upd_old a2 hD) (by simpa using ne_of_none a2 hD)
        have hit : ts'.length = (ps.take i).length := Paired.length i1
        refine ⟨t.1, [.int p.1, .ref t.2], rfl, SqT.of b1, rfl, .int p.1, [.ref t.2], rfl, .ref t.2, [], rfl, rfl, rfl, ?_⟩
        refine ⟨_, rfl, _, rfl, t.2, _, rfl, .inl (SqL.of b2), fun q hq => ⟨by show 2 ≤ sizeLine; decide, fun t' ht' => ?_⟩⟩
        obtain ⟨ntq, ht1⟩ := free_ne ht'
        have nqD : q ≠ D := (ne_of_none h1 hq).symm
        have ntD : t' ≠ D := (ne_of_none h1 ht1).symm
        refine ⟨_, upd_old (upd_old h1 hq) ht', ?_, ts' ++ [(t', q)], ?_, ?_, ((k1.new hq).new ht').at (by simp)⟩
        · rw [List.length_map, hit]
          exact sl_lt (by have := List.length_take_le' i ps; omega)
        · rw [upd_same, List.map_append]
          rfl
        · have kn : Same (nw (upd H D (.lst [])) H1) (nw (upd H D (.lst [])) (upd (upd (upd H1 q (.lst (p.2.map V.int))) t' (.tup [.int p.1, .ref q])) D (.lst ((ts'.map fun t => V.ref t.1) ++ [V.ref t'])))) :=
            nw_kp (xs := [D]) (((Kp.refl.new hq).new ht').at (by simp)) fun b hb' => by
              have : b = D := by simpa using hb'
              subst this
              exact ⟨_, upd_same⟩
          rw [List.take_add_one, hp]
          refine paired_snoc (i1.same kn) ⟨nw_get ?_ ?_, nw_get ?_ ?_⟩
          · rw [upd_ne ntD, upd_same]
          · exact k1.free ht1 (by simpa using ntD)
          · show upd _ D _ q = _
            rw [upd_ne nqD, upd_ne ntq.symm, upd_same]
          · exact k1.free hq (by simpa using nqD)
    · rw [List.length_map, hln, List.take_length] at i1
      refine q H1 D ?_ ⟨ts', nw_get h1 hD, i1.same (nw_mono fun b hb' => (free_ne hb').2)⟩
      exact fun b o e => k1 b o (upd_old e hD) (by simpa using ne_of_none e hD)
theorem ok_postings (T : Txt K mg c) : GMt P w K mg base CX0 2 c.Piece "postings" ["self", "field", "word"] (spPPosts c) := by
  obtain ⟨f, fd, F, hm, hb⟩ := T.d_postings
  have g_copied_postings : GFn P w K mg base CX0 1 "copied_postings" ["postings"] spCopied := ok_copied_postings T
  refine ⟨f, fd, hm, hb, F.ok sc_Piece_postings (fun vs H Q E h => ?_) (fun cdv A outer s H vs Q E hr h => ?_)⟩
  · obtain ⟨y, makes, tab, nm, wd, rfl, _⟩ := h
    rfl
  · obtain ⟨y, makes, tab, nm, wd, rfl, ⟨dx, hm, ln, tb, lkvs, h1, h2, h3, h4, kvs, h5, h6⟩, hsz, q⟩ := h
    have nd := sc_Piece_postings.nd
    have hu := hu_of hr
    refine ⟨_, (pss_one (ps_ret (pe_g g_copied_postings hr (by rfl) pass0 (pa_cons (pe_dget2 hu (pe_dget2 hu (pe_fld (pv 0) rfl) (pv 1) pe_dnewK ⟨rfl, rfl, rfl, rfl⟩) (pv 2) (pe_lst pa_nil) ⟨rfl, rfl, rfl, rfl⟩) pa_nil)))), ?_⟩
    refine ⟨_, rfl, y, _, dx, _, _, rfl, h1, T.k_Piece, T.a_table, fsP_tb _ _ _, tb, rfl, .inl ⟨_, .inl h5⟩, _, rfl, fun z hz => ⟨_, DGet.k (k := Sum.inr (S nm)) (upd_old h5 hz), ?_⟩⟩
    have go : ∀ (d : Addr) (wk : List (Key × V)) (ws : Words), upd H z (.dK []) d = some (.dK wk) → KA (PostsAt H) wk ws → wordsIn tab nm = ws →
        ∃ d', V.ref d = .ref d' ∧ IsD (upd H z (.dK [])) d' ∧ tVar 2 [some (.ref y), some (.str (S nm)), some (.str (S wd))] (upd H z (.dK [])) fun yk H2 => 0 ≤ sizeLine ∧ ∀ e, H2 e = none → ∃ o, DGet (upd H2 e (.lst [])) d' yk o ∧
          spCopied [o.getD (.ref e)] (upd H2 e (.lst [])) Q E0 := by
      intro d wk ws hd hk hw
      refine ⟨d, rfl, .inl ⟨_, .inl hd⟩, _, rfl, Nat.zero_le _, fun e he => ⟨_, DGet.k (k := Sum.inr (S wd)) (upd_old hd he), ?_⟩⟩
      have sm : Same H (upd (upd H z (.dK [])) e (.lst [])) := Same.new (Same.upd_new hz) he
      have fin : ∀ (l : Addr) (ps : Posts), PostsAt (upd (upd H z (.dK [])) e (.lst [])) l ps → postsIn (wordsIn tab nm) wd = ps → spCopied [V.ref l] (upd (upd H z (.dK [])) e (.lst [])) Q E0 := fun l ps hp e' =>
        ⟨l, ps, rfl, hp, by rw [← e']; exact hsz, fun H' l' s' p' => q H' l' (sm.trans s') (by rw [e']; exact p'.same (nw_sub sm))⟩
      rcases hk.get (f := wd) with ⟨g1, g2⟩ | ⟨ps, l, g1, g2, g3⟩
      · rw [g2]
        refine fin e [] ⟨[], upd_same, .nil⟩ ?_
        unfold postsIn
        rw [hw, g1]
        rfl
      · rw [g2]
        refine fin l ps (g3.same sm) ?_
        unfold postsIn
        rw [hw, g1]
        rfl
    rcases h6.get (f := nm) with ⟨g1, g2⟩ | ⟨ws, dw, g1, g2, wk, g3, g4⟩
    · rw [g2]
      refine go z [] [] upd_same .nil ?_
      unfold wordsIn
      rw [g1]
      rfl
    · rw [g2]
      refine go dw wk ws (upd_old g3 hz) g4 ?_
      unfold wordsIn
      rw [g1]
      rfl
theorem ok_length (T : Txt K mg c) : GMt P w K mg base CX0 1 c.Piece "length" ["self", "make", "field"] (spPLen c) := by
  obtain ⟨f, fd, F, hm, hb⟩ := T.d_length
  refine ⟨f, fd, hm, hb, F.ok sc_Piece_length (fun vs H Q E h => ?_) (fun cdv A outer s H vs Q E hr h => ?_)⟩
  · obtain ⟨y, makes, tab, m, nm, rfl, _⟩ := h
    rfl
  · obtain ⟨y, makes, tab, m, nm, rfl, ⟨dx, hm, ln, tb, lkvs, h1, h2, h3, h4, h5⟩, q⟩ := h
    have nd := sc_Piece_length.nd
    have hu := hu_of hr
    refine ⟨_, (pss_one (ps_ret (pe_dget2 hu (pe_fld (pv 0) rfl) (pe_tup (pa_cons (pv 1) (pa_cons (pv 2) pa_nil))) pe_int ⟨rfl, rfl, rfl, rfl⟩))), ?_⟩
    refine ⟨_, rfl, y, _, dx, _, _, rfl, h1, T.k_Piece, T.a_lengths, fsP_ln _ _ _, ln, rfl, .inr ⟨_, .inl h3⟩, _, rfl, _, rfl, by show 2 ≤ sizeLine; decide, fun t ht => ⟨_, DGet.t (k := [Sum.inl m, Sum.inr (S nm)]) (upd_old h3 ht) upd_same, ?_⟩⟩
    rw [h4 m nm]
    exact q _ (Same.upd_new ht)
end
end FC
/-! W11: dicts by ints, what is held; equality of lists of ints. -/
namespace FC
open PySem PySem.Spec PyProof.Rows L2
/-! ### lists of ints, compared -/
theorem eqvAll_ints : ∀ a b : List Int, PyData.eqvAll (a.map PyData.int) (b.map PyData.int) = decide (a = b)
  | [], [] => by simp [PyData.eqvAll]
  | [], _ :: _ => by simp [PyData.eqvAll]
  | _ :: _, [] => by simp [PyData.eqvAll]
  | x :: a, y :: b => by
    show (PyData.eqv (.int x) (.int y) && PyData.eqvAll (a.map PyData.int) (b.map PyData.int)) = _
    rw [eqvAll_ints a b]
    by_cases h : x = y <;> by_cases h2 : a = b <;> simp [PyData.eqv, h, h2]
theorem eqv_ints (a b : List Int) : PyData.eqv (.list (a.map PyData.int)) (.list (b.map PyData.int)) = decide (a = b) := by
  show PyData.eqvAll _ _ = _
  exact eqvAll_ints a b
theorem canLayAll_ints : ∀ a : List Int, PyData.canLayAll0 (a.map PyData.int) = true
  | [] => by simp [PyData.canLayAll0]
  | x :: a => by
    show (PyData.canLay0 (.int x) && PyData.canLayAll0 (a.map PyData.int)) = true
    rw [canLayAll_ints a]
    simp [PyData.canLay0]
theorem depthAll_ints : ∀ a : List Int, PyData.depthAll (a.map PyData.int) = 0
  | [] => by simp [PyData.depthAll]
  | x :: a => by
    show max (PyData.depth (.int x)) (PyData.depthAll (a.map PyData.int)) = 0
    rw [depthAll_ints a]
    simp [PyData.depth]
theorem shaped_intL (a : List Int) : SeqAt.shaped (.list (a.map PyData.int)) = true := by
  unfold SeqAt.shaped
  rw [Bool.and_eq_true_iff]
  refine ⟨?_, decide_eq_true ?_⟩
  · show PyData.canLayAll0 (a.map PyData.int) = true
    exact canLayAll_ints a
  · show PyData.depthAll (a.map PyData.int) + 1 ≤ 64
    rw [depthAll_ints]
    decide
theorem dpAll_ints {K : PySem.W.Frag} {H : Hp} : ∀ a : List Int, DpAll K H (a.map V.int) (a.map PyData.int)
  | [] => .nil
  | x :: a => .cons (.int x) (dpAll_ints a)
theorem dp_ints {K : PySem.W.Frag} {H : Hp} {l : Addr} {a : List Int} (h : SqL K H l (a.map V.int)) : Dp K H (.ref l) (.list (a.map PyData.int)) := .lst h (dpAll_ints a)
/-! ### iota -/
theorem iota_len (n : Nat) : (iota n).length = n := by
  unfold iota
  simp
theorem iota_sorted (n : Nat) : (iota n).Pairwise (· ≤ ·) := by
  unfold iota
  rw [List.pairwise_map]
  exact List.Pairwise.imp (fun h => Int.ofNat_le.mpr (Nat.le_of_lt h)) List.pairwise_lt_range
theorem sorted_iota {g ns : List Int} {n : Nat} (hp : ns.Perm g) (hs : ns.Pairwise (· ≤ ·)) : ns = iota n ↔ g.Perm (iota n) := by
  constructor
  · rintro rfl
    exact hp.symm
  · intro h
    exact List.Perm.eq_of_pairwise (le := fun a b => a ≤ b) (fun a b _ _ h1 h2 => Int.le_antisymm h1 h2) hs (iota_sorted n) (hp.trans h)
/-! ### dicts by ints -/
def hkv (ms : List Int) (ls : List Addr) : List (Key × V) := (ms.zip ls).map fun p => ((Sum.inl p.1 : Key), V.ref p.2)
def lkv (ms ns : List Int) : List (Key × V) := (ms.zip ns).map fun p => ((Sum.inl p.1 : Key), V.int p.2)
theorem zip_none {α : Type} {f : Int × α → Key × V} (hf : ∀ p, (f p).1 = Sum.inl p.1) {m : Int} : ∀ {ms : List Int} {ls : List α}, m ∉ ms → valV ((ms.zip ls).map f) (Sum.inl m : Key) = none
  | [], _, _ => by simp [valV]
  | _ :: _, [], _ => by simp [valV]
  | x :: ms, l :: ls, h => by
    rw [List.zip_cons_cons, List.map_cons, valV_neg, zip_none hf fun z => h (List.mem_cons_of_mem _ z)]
    rw [hf]
    intro z
    have z' : x = m := Sum.inl.inj z
    exact h (by rw [z']; exact List.mem_cons_self)
theorem zip_some {α : Type} {f : Int × α → Key × V} (hf : ∀ p, (f p).1 = Sum.inl p.1) {m : Int} {a : α} : ∀ {ms : List Int} {ls : List α} {i : Nat}, ms.Nodup → ms[i]? = some m → ls[i]? = some a → valV ((ms.zip ls).map f) (Sum.inl m : Key) = some (f (m, a)).2
  | [], _, i, _, h, _ => by simp at h
  | _ :: _, [], i, _, _, h => by simp at h
  | x :: ms, l :: ls, 0, _, h1, h2 => by
    cases Option.some.inj h1
    cases Option.some.inj h2
    rw [List.zip_cons_cons, List.map_cons, valV_pos (by rw [hf])]
  | x :: ms, l :: ls, i + 1, hn, h1, h2 => by
    have hn' := List.nodup_cons.mp hn
    have hm : m ∈ ms := List.mem_of_getElem? (by simpa using h1)
    rw [List.zip_cons_cons, List.map_cons, valV_neg, zip_some hf (i := i) hn'.2 (by simpa using h1) (by simpa using h2)]
    rw [hf]
    intro z
    have z' : x = m := Sum.inl.inj z
    exact hn'.1 (by rw [z']; exact hm)
theorem hkv_none {m : Int} {ms : List Int} {ls : List Addr} (h : m ∉ ms) : valV (hkv ms ls) (Sum.inl m : Key) = none := zip_none (fun _ => rfl) h
theorem hkv_some {m : Int} {a : Addr} {ms : List Int} {ls : List Addr} {i : Nat} (hn : ms.Nodup) (h1 : ms[i]? = some m) (h2 : ls[i]? = some a) : valV (hkv ms ls) (Sum.inl m : Key) = some (V.ref a) := zip_some (fun _ => rfl) hn h1 h2
theorem mergeK_acc : ∀ (more acc : List (Key × V)), ((acc ++ more).map (·.1)).Nodup → mergeK acc more = acc ++ more
  | [], acc, _ => by
    rw [List.append_nil]
    rfl
  | p :: more, acc, h => by
    have h1 : p.1 ∉ acc.map (·.1) := by
      rw [List.map_append, List.map_cons] at h
      have := (List.nodup_append.mp h).2.2
      exact fun z => this _ z _ List.mem_cons_self rfl
    have h2 : valV acc p.1 = none := by
      cases e : valV acc p.1 with
      | none => rfl
      | some v => exact absurd (valV_in e) h1
    show mergeK (putK acc p.1 p.2) more = _
    rw [putK_new _ h2, mergeK_acc more _ (by rw [List.append_assoc]; exact h), List.append_assoc]
    rfl
theorem mergeK_nil {more : List (Key × V)} (h : (more.map (·.1)).Nodup) : mergeK [] more = more := mergeK_acc more [] h
theorem zip_fst_sub {α : Type} : ∀ (ms : List Int) (ls : List α), ((ms.zip ls).map Prod.fst).Sublist ms
  | [], _ => by simp
  | _ :: _, [] => by simp
  | x :: ms, l :: ls => by
    rw [List.zip_cons_cons, List.map_cons]
    exact (zip_fst_sub ms ls).cons₂ x
theorem hkv_nodup {ms : List Int} {ls : List Addr} (hn : ms.Nodup) : ((hkv ms ls).map (·.1)).Nodup := by
  unfold hkv
  rw [List.map_map]
  have e : ((fun x : Key × V => x.1) ∘ fun p : Int × Addr => ((Sum.inl p.1 : Key), V.ref p.2)) = (fun m : Int => (Sum.inl m : Key)) ∘ Prod.fst := rfl
  rw [e, ← List.map_map]
  have h2 := (zip_fst_sub ms ls).nodup hn
  exact List.Pairwise.map _ (fun a b hab z => hab (Sum.inl.inj z)) h2
theorem DGet_frz {H : Hp} {a : Addr} {o : Obj} {kvs : List (Key × V)} {k : Key} (e : H a = some (.frz o (.dK kvs))) : DGet H a (kV k) (valV kvs k) := .inl ⟨kvs, k, .inr ⟨o, e⟩, rfl, rfl⟩
/-! ### what is gathered -/
theorem gathP_snoc (ps : Posts) (j : Nat) (p : Int × List Int) (h : ps[j]? = some p) (m : Int) : gathP (ps.take (j + 1)) m = gathP (ps.take j) m ++ if p.1 = m then p.2 else [] := by
  unfold gathP
  rw [List.take_add_one, h, List.flatMap_append]
  simp
theorem gath_snoc (ws : Words) (i : Nat) (wp : List Nat × Posts) (h : ws[i]? = some wp) (m : Int) : gath (ws.take (i + 1)) m = gath (ws.take i) m ++ gathP wp.2 m := by
  unfold gath
  rw [List.take_add_one, h, List.flatMap_append]
  simp
theorem gath_pre (ws : Words) (i : Nat) (m : Int) : (gath (ws.take i) m).length ≤ (gath ws m).length := by
  conv => rhs; rw [← List.take_append_drop i ws]
  unfold gath
  rw [List.flatMap_append, List.length_append]
  omega
theorem gathP_pre (ps : Posts) (j : Nat) (m : Int) : (gathP (ps.take j) m).length ≤ (gathP ps m).length := by
  conv => rhs; rw [← List.take_append_drop j ps]
  unfold gathP
  rw [List.flatMap_append, List.length_append]
  omega
/-- what is held for each make -/
def HeldAt (H : Hp) (hd : Addr) (ms : List Int) (ls : List Addr) (g : Int → List Int) : Prop :=
  H hd = some (.dK (hkv ms ls)) ∧ ls.length = ms.length ∧ ls.Nodup ∧ ∀ (i : Nat) (m : Int) (l : Addr), ms[i]? = some m → ls[i]? = some l → H l = some (.lst ((g m).map V.int))
theorem HeldAt.kp {H H' : Hp} {hd : Addr} {ms : List Int} {ls xs : List Addr} {g : Int → List Int} (h : HeldAt H hd ms ls g) (k : Kp xs H H') (n : ∀ b ∈ xs, b ≠ hd ∧ ∀ vs, H b ≠ some (.lst vs)) : HeldAt H' hd ms ls g := by
  obtain ⟨h1, h2, h3, h4⟩ := h
  refine ⟨k _ _ h1 fun z => (n _ z).1 rfl, h2, h3, fun i m l e1 e2 => k _ _ (h4 i m l e1 e2) fun z => (n _ z).2 _ (h4 i m l e1 e2)⟩
/-- one make's list grows -/
theorem HeldAt.grow {H : Hp} {hd : Addr} {ms : List Int} {ls : List Addr} {g : Int → List Int} (hn : ms.Nodup) (h : HeldAt H hd ms ls g) {i : Nat} {m : Int} {l : Addr} {xs : List Int} (e1 : ms[i]? = some m) (e2 : ls[i]? = some l) {g' : Int → List Int}
    (hg : ∀ m', g' m' = g m' ++ if m = m' then xs else []) : HeldAt (upd H l (.lst ((g m).map V.int ++ xs.map V.int))) hd ms ls g' := by
  obtain ⟨h1, h2, h3, h4⟩ := h
  have hl := h4 i m l e1 e2
  refine ⟨by rw [upd_ne (ne_of h1 hl (by intro z; cases z))]; exact h1, h2, h3, fun j m' l' f1 f2 => ?_⟩
  by_cases ej : i = j
  · subst ej
    rw [e1] at f1
    rw [e2] at f2
    cases f1
    cases f2
    rw [upd_same, hg m, if_pos rfl, List.map_append]
  · have nl : l' ≠ l := fun z => by
      subst z
      obtain ⟨a1, a2⟩ := List.getElem?_eq_some_iff.mp e2
      obtain ⟨b1, b2⟩ := List.getElem?_eq_some_iff.mp f2
      exact ej ((List.getElem_inj h3).mp (a2.trans b2.symm))
    have nm : ¬ m = m' := fun z => by
      subst z
      obtain ⟨a1, a2⟩ := List.getElem?_eq_some_iff.mp e1
      obtain ⟨b1, b2⟩ := List.getElem?_eq_some_iff.mp f1
      exact ej ((List.getElem_inj hn).mp (a2.trans b2.symm))
    rw [upd_ne nl, hg m', if_neg nm, List.append_nil]
    exact h4 j m' l' f1 f2
theorem PostsAt.kp {H H' : Hp} {l : Addr} {ps : Posts} {xs : List Addr} (h : PostsAt H l ps) (k : Kp xs H H') (n : ∀ b ∈ xs, (∀ vs, H b ≠ some (.lst vs)) ∧ ∀ vs, H b ≠ some (.tup vs)) : PostsAt H' l ps := by
  obtain ⟨ts, e, i⟩ := h
  refine ⟨ts, k _ _ e fun z => (n _ z).1 _ e, Paired.mapP i fun t p z => ⟨k _ _ z.1 fun y => (n _ y).2 _ z.1, k _ _ z.2 fun y => (n _ y).1 _ z.2⟩⟩
theorem Paired.atR {α β : Type} {R : α → β → Prop} : ∀ {as : List α} {bs : List β} {i : Nat} {a : α}, Paired R as bs → as[i]? = some a → ∃ b, bs[i]? = some b ∧ R a b
  | _, _, _, _, .nil, e => by simp at e
  | _, _, 0, _, .cons h _, e => by
    cases Option.some.inj e
    exact ⟨_, rfl, h⟩
  | _, _, i + 1, _, .cons _ h, e => by
    obtain ⟨b, e1, e2⟩ := Paired.atR (i := i) h (by simpa using e)
    exact ⟨b, by simpa using e1, e2⟩
end FC
/-! W12: sure_filled. -/
namespace FC
open PySem PySem.Spec PyProof.Rows L2
def spFilled (c : Cl) : Sp := fun vs H Q E => ∃ (x dl dw dx : Addr) (fs : List (Str × V)) (ms ns : List Int) (ws : Words), vs = [.ref x, .ref dl, .ref dw] ∧ H x = some (.ins c.ByteReader dx fs) ∧ NoF fs "sure" ∧ H dl = some (.dK (lkv ms ns)) ∧ ms.Nodup ∧ ns.length = ms.length ∧ ms.length ≤ 360 ∧
  WordsAt H dw ws ∧ (ws.map (·.1)).Nodup ∧ (∀ m, (gath ws m).length ≤ 360) ∧ (Filled ms ns ws → ∀ H', Same H H' → Q .non H') ∧ (¬ Filled ms ns ws → ∀ H', Kp [dl, dw] H H' → E (.ref c.NoBytes) none H')
theorem KvsAt.at {H : Hp} {kvs : List (Key × V)} {ws : Words} {i : Nat} {k : Key} {v : V} (h : KvsAt H kvs ws) (e : kvs[i]? = some (k, v)) : ∃ w, ws[i]? = some w ∧ k = (Sum.inr (S w.1) : Key) ∧ ∃ l, v = V.ref l ∧ PostsAt H l w.2 := by
  obtain ⟨w, e1, e2, e3⟩ := Paired.atR h e
  exact ⟨w, e1, e2, e3⟩
theorem KvsAt.val {H : Hp} : ∀ {kvs : List (Key × V)} {ws : Words} {i : Nat} {k : Key} {v : V}, KvsAt H kvs ws → (ws.map (·.1)).Nodup → kvs[i]? = some (k, v) → valV kvs k = some v
  | _, _, _, _, _, .nil, _, e => by simp at e
  | _, _, 0, _, _, .cons h _, _, e => by
    cases Option.some.inj e
    exact valV_pos rfl
  | _, _, i + 1, k, v, .cons (a := kv) (b := p) h t, hn, e => by
    have e' := by simpa using e
    obtain ⟨w, e1, e2, _⟩ := KvsAt.at (i := i) t e'
    rw [List.map_cons] at hn
    have hn' := List.nodup_cons.mp hn
    rw [valV_neg, KvsAt.val (i := i) t hn'.2 e']
    intro z
    rw [h.1, e2] at z
    have z' := key_inj z
    exact hn'.1 (by rw [z']; exact List.mem_map_of_mem (List.mem_of_getElem? e1))
section
variable {P : Program} {w : World} {K : PySem.W.Frag} {mg : Str → Option Value} {base : Heap} {c : Cl}
theorem ok_sure_filled (T : Txt K mg c) : GMt P w K mg base (L2.CX P w) 2 c.ByteReader "sure_filled" ["self", "lengths", "words"] (spFilled c) := by
  obtain ⟨f, fd, F, hm, hb⟩ := T.d_sure_filled
  have g_sure : GMt P w K mg base (L2.CX P w) 1 c.ByteReader "sure" ["self", "good"] (spSure c) := ok_sure T
  refine ⟨f, fd, hm, hb, F.okX sc_ByteReader_sure_filled (fun vs H Q E h => ?_) (fun cdv A outer s H vs Q E hr h => ?_)⟩
  · obtain ⟨x, dl, dw, dx, fs, ms, ns, ws, rfl, _⟩ := h
    rfl
  · obtain ⟨x, dl, dw, dx, fs, ms, ns, ws, rfl, hx, hns, hdl, hmn, hnl, hml, ⟨kvs, hdw, hkv'⟩, hwn, hgl, q1, q2⟩ := h
    have nd := sc_ByteReader_sure_filled.nd
    have hu := hu_of hr
    refine ⟨_, (pss_cons (ps_set (i := 3) nd rfl (.inl rfl) (pe_callTy (call_dictP rfl) (by rfl) T.b_dict boot_dict (pa_cons (pe_lock (pe_lc (own := [("make", 5)]) rfl nd (pi_keysM (pv 1)) (blkOk_by (N := ["self", "lengths", "words", "held", "word", "make", "places", "many"]) (sc := defScope s_ByteReader_sure_filled) (by decide +kernel)) (fun _ _ _ _ _ => (pg_name (i := 5) nd rfl (.inl rfl))) (fun _ _ _ _ _ => pts_nil) (fun _ _ _ _ _ => (pe_tup (pa_cons (pv 5) (pa_cons (pe_lst pa_nil) pa_nil)))))) pa_nil)))
      (pss_cons (ps_lock (ps_for (passes_of rfl) rfl (pi_keysM (pv 2)) (pg_name (i := 4) nd rfl (.inl rfl))
        (pss_one (ps_for (passes_of rfl) rfl (pi_list (pe_dget hu (pv 2) (pv 4) (fun _ _ => rfl))) (pg_tup rfl (pgs_cons (pg_name (i := 5) nd rfl (.inl rfl)) (pgs_cons (pg_name (i := 6) nd rfl (.inl rfl)) pgs_nil)))
          (pss_cons (ps_expr (pe_gm (pv 0) T.k_ByteReader g_sure hr (passes_call (takes_of rfl rfl rfl rfl) (fun _ _ _ _ h => h)) (pa_cons (pe_cmp (pc_din hu (pv 5) (pv 3))) pa_nil)))
          (pss_one (ps_expr (pe_bm PySem.F.plainAttrs_list PySem.F.slot_list_extend PySem.F.type_list_extend mt_extend (pe_dget hu (pv 3) (pv 5) (fun _ _ => rfl)) (pa_cons (pv 6) pa_nil)))))))))
      (pss_one (ps_lock (ps_for (passes_of rfl) rfl (pi_items (pv 1)) (pg_tup rfl (pgs_cons (pg_name (i := 5) nd rfl (.inl rfl)) (pgs_cons (pg_name (i := 7) nd rfl (.inl rfl)) pgs_nil)))
        (pss_one (ps_expr (pe_gm (pv 0) T.k_ByteReader g_sure hr (passes_call (takes_of rfl rfl rfl rfl) (fun _ _ _ _ h => h)) (pa_cons (pe_and (pe_cmpR op_eq (pv 7) (pe_callB call_len_seq (by rfl) T.b_len boot_len (pa_cons (pe_dget hu (pv 3) (pv 5) (fun _ _ => rfl)) pa_nil)) (nomark _)) (pe_one (pe_cmpR (op_eqD hr.units) (pe_callB cr_sortedI (by rfl) T.b_sorted boot_sorted (pa_cons (pe_dget hu (pv 3) (pv 5) (fun _ _ => rfl)) pa_nil)) (pe_callTy (cr_listRng rfl) (by rfl) T.b_list boot_list (pa_cons (pe_callTy cr_rng1 (by rfl) T.b_range boot_range (pa_cons (pe_callB call_len_seq (by rfl) T.b_len boot_len (pa_cons (pe_dget hu (pv 3) (pv 5) (fun _ _ => rfl)) pa_nil)) pa_nil)) pa_nil)) (nomark _)))) pa_nil))))))))), ?_⟩
    have hzl : (lkv ms ns).length = ms.length := by
      unfold lkv
      rw [List.length_map, List.length_zip, hnl, Nat.min_self]
    have hlk : ∀ {i : Nat} {k : Key} {v : V}, (lkv ms ns)[i]? = some (k, v) → ∃ m n, ms[i]? = some m ∧ ns[i]? = some n ∧ k = Sum.inl m ∧ v = .int n := by
      intro i k v e
      unfold lkv at e
      rw [List.getElem?_map] at e
      cases e1 : (ms.zip ns)[i]? with
      | none => rw [e1] at e; cases e
      | some p =>
        rw [e1] at e
        cases Option.some.inj e
        obtain ⟨a1, a2⟩ := List.getElem?_zip_eq_some.mp e1
        exact ⟨p.1, p.2, a1, a2, rfl, rfl⟩
    -- the next step
    refine ⟨dl, _, hdl, trivial, fun od => ?_⟩
    refine ⟨_, rfl, dl, od, _, rfl, upd_same, fun D hD => ?_⟩
    obtain ⟨nDl, hD0⟩ := free_ne hD
    refine lc_it walk_keys (fun i H' => ∃ qs : List (Addr × Addr), qs.length = i ∧ H' D = some (.lst (qs.map fun q => V.ref q.1)) ∧ (∀ (j : Nat) (q : Addr × Addr), qs[j]? = some q → ∃ m, ms[j]? = some m ∧ H' q.1 = some (.tup [.int m, .ref q.2]) ∧ H' q.2 = some (.lst []) ∧ H q.2 = none ∧ q.1 ≠ D ∧ q.2 ≠ D) ∧ (qs.map (·.2)).Nodup ∧ Kp [D] (upd (upd H dl (.frz od (.dK (lkv ms ns)))) D (.lst [])) H')
      ⟨[], rfl, upd_same, (fun _ _ z => by simp at z), .nil, Kp.refl⟩ (fun i H' _ ⟨_, _, _, _, _, k⟩ => k _ _ (upd_old upd_same hD) (by simpa using nDl.symm)) ?_ ?_
    · rintro i v H1 H1' hi ⟨qs, l1, l2, l3, l4, k1⟩ ⟨rfl, k, v', e1, rfl⟩
      obtain ⟨m, n, e2, e3, rfl, rfl⟩ := hlk e1
      refine ⟨rfl, ?_⟩
      -- the next step
      refine ⟨_, rfl, Nat.zero_le _, fun e he => ⟨by show 2 ≤ sizeLine; decide, fun t ht => ?_⟩⟩
      obtain ⟨nte, ht1⟩ := free_ne ht
      have neD : e ≠ D := (ne_of_none l2 he).symm
      have ntD : t ≠ D := (ne_of_none l2 ht1).symm
      refine ⟨_, upd_old (upd_old l2 he) ht, ?_, qs ++ [(t, e)], by simp [l1], ?_, ?_, ?_, ((k1.new he).new ht).at (by simp)⟩
      · rw [List.length_map, l1]
        exact sl_lt (by omega)
      · rw [upd_same, List.map_append]
        rfl
      · intro j q hq
        by_cases hj : j < qs.length
        · rw [List.getElem?_append_left hj] at hq
          obtain ⟨m', a1, a2, a3, a4, a5, a6⟩ := l3 j q hq
          exact ⟨m', a1, by rw [upd_ne a5]; exact upd_old (upd_old a2 he) ht, by rw [upd_ne a6]; exact upd_old (upd_old a3 he) ht, a4, a5, a6⟩
        · rw [List.getElem?_append_right (by omega)] at hq
          have hj' : j = i := by
            have := (List.getElem?_eq_some_iff.mp hq).1
            simp at this
            omega
          subst hj'
          rw [l1, Nat.sub_self] at hq
          cases Option.some.inj hq
          refine ⟨m, e2, by rw [upd_ne ntD, upd_same]; rfl, by rw [upd_ne neD, upd_ne nte.symm, upd_same], ?_, ntD, neD⟩
          have := k1.free he (by simpa using neD)
          exact (free_ne (free_ne this).2).2
      · rw [List.map_append]
        refine List.nodup_append.mpr ⟨l4, by simp, fun a ha b hb z => ?_⟩
        have hb' : b = e := by simpa using hb
        subst hb'
        obtain ⟨q, hq, rfl⟩ := List.mem_map.mp ha
        obtain ⟨j, hj⟩ := List.getElem?_of_mem hq
        obtain ⟨m', a1, a2, a3, _⟩ := l3 j q hj
        rw [z] at a3
        rw [he] at a3
        cases a3
    rintro H1 ⟨qs, l1, l2, l3, l4, k1⟩
    rw [hzl] at l1
    refine ⟨k1 _ _ (upd_old upd_same hD) (by simpa using nDl.symm), ?_⟩
    have s1 : Same H (upd H1 dl (.dK (lkv ms ns))) := fun b o hb' => by
      by_cases e : b = dl
      · rw [e, upd_same]
        rw [e, hdl] at hb'
        exact hb'
      · rw [upd_ne e]
        have nb : b ≠ D := ne_of_none hb' hD0
        refine k1 b o ?_ (by simpa using nb)
        rw [upd_ne nb, upd_ne e]
        exact hb'
    have old : ∀ {b : Addr} {o : HO}, H1 b = some o → b ≠ dl → upd H1 dl (.dK (lkv ms ns)) b = some o := fun e n => by rw [upd_ne n]; exact e
    refine ⟨D, qs.map (·.1), hkv ms (qs.map (·.2)), rfl, SqL.of (by rw [List.map_map]; exact old l2 nDl), ?_, fun hd hhd => ?_⟩
    · -- the pairs
      have gen : ∀ (ms' : List Int) (qs' : List (Addr × Addr)), ms'.length = qs'.length → (∀ (j : Nat) (q : Addr × Addr), qs'[j]? = some q → ∃ m, ms'[j]? = some m ∧ upd H1 dl (.dK (lkv ms ns)) q.1 = some (.tup [.int m, .ref q.2])) → Paired (fun (p : Addr) (kv : Key × V) => SqT K (upd H1 dl (.dK (lkv ms ns))) p [kV kv.1, kv.2]) (qs'.map (·.1)) (hkv ms' (qs'.map (·.2))) := by
        intro ms' qs'
        induction qs' generalizing ms' with
        | nil =>
          intro hl _
          have : ms' = [] := List.eq_nil_of_length_eq_zero hl
          subst this
          exact .nil
        | cons q qs' ih =>
          intro hl hq
          cases ms' with
          | nil => simp at hl
          | cons m ms' =>
            obtain ⟨m0, b1, b2⟩ := hq 0 q rfl
            cases Option.some.inj b1
            exact .cons (SqT.of b2) (ih ms' (by simpa using hl) fun j q' hj => by
              obtain ⟨m1, c1, c2⟩ := hq (j + 1) q' (by simpa using hj)
              exact ⟨m1, by simpa using c1, c2⟩)
      refine gen ms qs l1.symm fun j q hq => ?_
      obtain ⟨m', a1, a2, a3, a4, a5, a6⟩ := l3 j q hq
      refine ⟨m', a1, old a2 fun z => ?_⟩
      have := k1 _ _ (upd_old upd_same hD) (by simpa using nDl.symm : dl ∉ [D])
      rw [z, this] at a2
      cases a2
    rw [mergeK_nil (hkv_nodup hmn)]
    have s2 : Same H (upd (upd H1 dl (.dK (lkv ms ns))) hd (.dK (hkv ms (qs.map (·.2))))) := Same.new s1 hhd
    have held0 : HeldAt (upd (upd H1 dl (.dK (lkv ms ns))) hd (.dK (hkv ms (qs.map (·.2))))) hd ms (qs.map (·.2)) (fun _ => []) := by
      refine ⟨upd_same, by rw [List.length_map, l1], l4, fun i m l e1 e2 => ?_⟩
      rw [List.getElem?_map] at e2
      cases e3 : qs[i]? with
      | none => rw [e3] at e2; cases e2
      | some q =>
        rw [e3] at e2
        cases Option.some.inj e2
        obtain ⟨m', a1, a2, a3, a4, a5, a6⟩ := l3 i q e3
        refine upd_old (old a3 fun z => ?_) hhd
        have z' : q.2 = dl := z
        rw [z', hdl] at a4
        cases a4
    have hdn : H hd = none := s1.free hhd
    have lsn : ∀ l ∈ qs.map (·.2), H l = none := fun l hl => by
      obtain ⟨q, hq, rfl⟩ := List.mem_map.mp hl
      obtain ⟨j, hj⟩ := List.getElem?_of_mem hq
      obtain ⟨m', a1, a2, a3, a4, _⟩ := l3 j q hj
      exact a4
    generalize qs.map (·.2) = ls at held0 s2 lsn
    generalize upd (upd H1 dl (.dK (lkv ms ns))) hd (.dK (hkv ms ls)) = H2 at held0 s2
    clear l1 l2 l3 l4 k1 hhd old s1
    have xdw : x ≠ dw := ne_of hx hdw (by intro z; cases z)
    have xdl : x ≠ dl := ne_of hx hdl (by intro z; cases z)
    have ddw : dw ≠ hd := ne_of_none hdw hdn
    have ddl : dl ≠ hd := ne_of_none hdl hdn
    have ldw : ∀ l ∈ ls, l ≠ dw := fun l hl => (ne_of_none hdw (lsn l hl)).symm
    have ldl : ∀ l ∈ ls, l ≠ dl := fun l hl => (ne_of_none hdl (lsn l hl)).symm
    have hkl : kvs.length = ws.length := Paired.length hkv'
    -- the next step
    refine ⟨dw, _, s2 _ _ hdw, trivial, fun od2 => ?_⟩
    refine ⟨_, rfl, dw, od2, kvs, rfl, upd_same, for_it walk_keys (fun i σ H' => ∃ y4 y5 y6 y7, σ = [some (.ref x), some (.ref dl), some (.ref dw), some (.ref hd), y4, y5, y6, y7] ∧ HeldAt H' hd ms ls (fun m => gath (ws.take i) m) ∧ H' dw = some (.frz od2 (.dK kvs)) ∧ Kp [dw] H H' ∧ ∀ wp ∈ ws.take i, ∀ p ∈ wp.2, p.1 ∈ ms)
      ⟨none, none, none, none, rfl, ?_, upd_same, (Kp.same s2).at (by simp), fun _ z => by simp at z⟩ (fun i σ H' _ ⟨_, _, _, _, _, _, z, _⟩ => z) ?_ ?_⟩
    · refine held0.kp (xs := [dw]) (Kp.refl.at (by simp)) fun b hb' => ?_
      have : b = dw := by simpa using hb'
      subst this
      exact ⟨ddw, fun vs z => by rw [s2 _ _ hdw] at z; cases z⟩
    · rintro i v σ H3 H3' hi ⟨y4, y5, y6, y7, rfl, held3, h3w, k3, in3⟩ ⟨rfl, k, v', e1, rfl⟩
      obtain ⟨wp, e2, rfl, l, rfl, hp⟩ := hkv'.at e1
      have hval := hkv'.val hwn e1
      have hp3 : PostsAt H3' l wp.2 := hp.kp k3 fun b hb' => by
        have : b = dw := by simpa using hb'
        subst this
        exact ⟨fun vs z => (by rw [hdw] at z; cases z), fun vs z => (by rw [hdw] at z; cases z)⟩
      obtain ⟨ts, t1, t2⟩ := id hp
      have t1' : H3' l = some (.lst (ts.map fun t => V.ref t.1)) := k3 _ _ t1 (by
        have : l ≠ dw := ne_of t1 hdw (by intro z; cases z)
        simpa using this)
      have htl : ts.length = wp.2.length := Paired.length t2
      -- the next step
      have g := DGet_frz (k := Sum.inr (S wp.1)) h3w
      rw [hval] at g
      refine ⟨_, rfl, _, rfl, dw, _, rfl, g, l, rfl, ⟨_, SqL.of t1'⟩, for_list (xs := ts.map fun t => V.ref t.1) (fun j σ H' => ∃ y5 y6 y7, σ = [some (.ref x), some (.ref dl), some (.ref dw), some (.ref hd), some (.str (S wp.1)), y5, y6, y7] ∧ HeldAt H' hd ms ls (fun m => gath (ws.take i) m ++ gathP (wp.2.take j) m) ∧ H' dw = some (.frz od2 (.dK kvs)) ∧ Kp [dw] H H' ∧ ∀ p ∈ wp.2.take j, p.1 ∈ ms)
        ⟨y5, y6, y7, rfl, ?_, h3w, k3, fun _ z => by simp at z⟩ ?_ ?_ ?_⟩
      · obtain ⟨a1, a2, a3, a4⟩ := held3
        refine ⟨a1, a2, a3, fun j m l' f1 f2 => ?_⟩
        rw [a4 j m l' f1 f2]
        show _ = some (HO.lst ((gath (ws.take i) m ++ []).map V.int))
        rw [List.append_nil]
      · rintro j σ H4 _ ⟨_, _, _, _, _, _, k4, _⟩
        exact SqL.of (k4 _ _ t1 (by
          have : l ≠ dw := ne_of t1 hdw (by intro z; cases z)
          simpa using this))
      · rintro j v σ H4 hv ⟨y5, y6, y7, rfl, held4, h4w, k4, in4⟩
        rw [List.getElem?_map] at hv
        cases et : ts[j]? with
        | none => rw [et] at hv; cases hv
        | some t =>
          rw [et] at hv
          cases Option.some.inj hv
          obtain ⟨p, hp, a1, a2⟩ := ItemsAt.at t2 et
          have n1 : t.1 ≠ dw := ne_of a1 hdw (by intro z; cases z)
          have n2 : t.2 ≠ dw := ne_of a2 hdw (by intro z; cases z)
          have b1 := k4 _ _ a1 (by simpa using n1)
          have b2 := k4 _ _ a2 (by simpa using n2)
          have hx4 := k4 _ _ hx (by simpa using xdw)
          refine ⟨t.1, [.int p.1, .ref t.2], rfl, SqT.of b1, rfl, .int p.1, [.ref t.2], rfl, .ref t.2, [], rfl, rfl, ?_⟩
          -- the next step
          refine ⟨_, rfl, x, dx, fs, rfl, hx4, hns, _, rfl, _, rfl, hd, _, rfl, DGet.k (k := Sum.inl p.1) held4.1, x, _, rfl, fun e3 => ?_, fun e3 => ?_⟩
          · -- the next step
            have hmem : p.1 ∈ ms := by
              by_cases z : p.1 ∈ ms
              · exact z
              · rw [hkv_none z] at e3
                cases e3
            obtain ⟨a, ha⟩ := List.getElem?_of_mem hmem
            have la : a < ls.length := by
              rw [held4.2.1]
              exact (List.getElem?_eq_some_iff.mp ha).1
            have hla : ls[a]? = some ls[a] := List.getElem?_eq_getElem la
            have hlist := held4.2.2.2 a p.1 _ ha hla
            have g := DGet.k (k := Sum.inl p.1) held4.1
            rw [hkv_some hmn ha hla] at g
            have hsnoc : ∀ m', gath (ws.take i) m' ++ gathP (wp.2.take (j + 1)) m' = (gath (ws.take i) m' ++ gathP (wp.2.take j) m') ++ if p.1 = m' then p.2 else [] := fun m' => by
              rw [gathP_snoc _ _ _ hp, List.append_assoc]
            refine ⟨_, rfl, _, rfl, hd, V.ref ls[a], rfl, g, .inl ⟨rfl, _, SqL.of hlist⟩, _, rfl, ls[a], t.2, _, _, rfl, rfl, hlist, b2, ?_, some (.int p.1), some (.ref t.2), y7, rfl, held4.grow hmn ha hla hsnoc, ?_, ?_, ?_⟩
            · rw [List.length_map, List.length_map]
              show (gath (ws.take i) p.1 ++ gathP (wp.2.take j) p.1).length + p.2.length ≤ sizeLine
              have h1 := hsnoc p.1
              rw [if_pos rfl] at h1
              have h2 := congrArg List.length h1
              rw [List.length_append, List.length_append] at h2
              have h3 := gathP_pre wp.2 (j + 1) p.1
              have h4 := gath_snoc ws i wp e2 p.1
              have h5 := congrArg List.length h4
              rw [List.length_append] at h5
              have h6 := gath_pre ws (i + 1) p.1
              have h7 := hgl p.1
              exact sl_line (by omega)
            · rw [upd_ne (ldw _ (List.getElem_mem la)).symm]
              exact h4w
            · exact k4.mut (lsn _ (List.getElem_mem la))
            · intro p' hp'
              rw [List.take_add_one, hp] at hp'
              rcases List.mem_append.mp hp' with z | z
              · exact in4 p' z
              · have : p' = p := by simpa using z
                rw [this]
                exact hmem
          · refine q2 (fun hf => ?_) H4 (k4.mono fun b hb' => by simp at hb' ⊢; exact .inr hb')
            have hmem := hf.1 wp (List.mem_of_getElem? e2) p (List.mem_of_getElem? hp)
            obtain ⟨a, ha⟩ := List.getElem?_of_mem hmem
            have la : a < ls.length := by
              rw [held4.2.1]
              exact (List.getElem?_eq_some_iff.mp ha).1
            rw [hkv_some hmn ha (List.getElem?_eq_getElem la)] at e3
            cases e3
      · rintro σ H4 ⟨y5, y6, y7, rfl, held4, h4w, k4, in4⟩
        rw [List.length_map, htl] at held4 in4
        refine ⟨_, y5, y6, y7, rfl, ?_, h4w, k4, ?_⟩
        · obtain ⟨a1, a2, a3, a4⟩ := held4
          refine ⟨a1, a2, a3, fun j m l' f1 f2 => ?_⟩
          rw [a4 j m l' f1 f2, List.take_length]
          show _ = some (HO.lst ((gath (ws.take (i + 1)) m).map V.int))
          rw [gath_snoc ws i wp e2]
        · intro wq hwq
          rw [List.take_add_one, e2] at hwq
          rcases List.mem_append.mp hwq with z | z
          · exact in3 wq z
          · have : wq = wp := by simpa using z
            subst this
            rw [List.take_length] at in4
            exact in4
    · -- the next step
      rintro σ H3 ⟨y4, y5, y6, y7, rfl, held3, h3w, k3, in3⟩
      rw [hkl, List.take_length] at held3 in3
      refine ⟨h3w, ?_⟩
      have s3 : Same H (upd H3 dw (.dK kvs)) := fun b o hb' => by
        by_cases e : b = dw
        · subst e
          rw [upd_same, ← hdw]
          exact hb'
        · rw [upd_ne e]
          exact k3 b o hb' (by simpa using e)
      have held4 : HeldAt (upd H3 dw (.dK kvs)) hd ms ls (gath ws) := held3.kp (xs := [dw]) (Kp.refl.at (by simp)) fun b hb' => by
        have : b = dw := by simpa using hb'
        subst this
        exact ⟨ddw, fun vs z => by rw [h3w] at z; cases z⟩
      generalize upd H3 dw (.dK kvs) = H4 at s3 held4
      refine ⟨dl, _, s3 _ _ hdl, trivial, fun od3 => ?_⟩
      refine ⟨_, rfl, dl, od3, _, rfl, upd_same, for_it walk_items (fun i σ H' => ∃ y4 y5 y6 y7, σ = [some (.ref x), some (.ref dl), some (.ref dw), some (.ref hd), y4, y5, y6, y7] ∧ HeldAt H' hd ms ls (gath ws) ∧ H' dl = some (.frz od3 (.dK (lkv ms ns))) ∧ Kp [dl] H H' ∧
          ∀ (j : Nat) (m n : Int), j < i → ms[j]? = some m → ns[j]? = some n → n = ((gath ws m).length : Int) ∧ (gath ws m).Perm (iota (gath ws m).length))
        ⟨y4, y5, y6, y7, rfl, ?_, upd_same, (Kp.same s3).at (by simp), fun j _ _ z => absurd z (Nat.not_lt_zero j)⟩ (fun i σ H' _ ⟨_, _, _, _, _, _, z, _⟩ => z) ?_ ?_⟩
      · refine held4.kp (xs := [dl]) (Kp.refl.at (by simp)) fun b hb' => ?_
        have : b = dl := by simpa using hb'
        subst this
        exact ⟨ddl, fun vs z => by rw [s3 _ _ hdl] at z; cases z⟩
      · rintro i v σ H5 H5' hi ⟨y4, y5, y6, y7, rfl, held5, h5l, k5, ok5⟩ ⟨t, u1, u2, rfl, ht, rfl, e1, e2⟩
        dsimp only at e1 e2
        cases e3 : (lkv ms ns)[i]? with
        | none => rw [e3] at e1; cases e1
        | some kv =>
          obtain ⟨k, v'⟩ := kv
          obtain ⟨m, n, m1, m2, rfl, rfl⟩ := hlk e3
          rw [e3] at e1 e2
          cases Option.some.inj e1
          cases Option.some.inj e2
          have la : i < ls.length := by
            rw [held5.2.1]
            exact (List.getElem?_eq_some_iff.mp m1).1
          have hla : ls[i]? = some ls[i] := List.getElem?_eq_getElem la
          have k6 : Kp [dl] H (upd H5 t (.tup [.int m, .int n])) := k5.new ht
          have held6 : HeldAt (upd H5 t (.tup [.int m, .int n])) hd ms ls (gath ws) := held5.kp (xs := []) (Kp.refl.new ht) fun b z => nomatch z
          have hx6 := k6 _ _ hx (by simpa using xdl)
          have hlist := held6.2.2.2 i m _ m1 hla
          have g : ∀ {H' : Hp}, HeldAt H' hd ms ls (gath ws) → DGet H' hd (kV (Sum.inl m)) (some (V.ref ls[i])) := fun h' => by
            have g := DGet.k (k := Sum.inl m) h'.1
            rw [hkv_some hmn m1 hla] at g
            exact g
          have bad : ¬ (n = ((gath ws m).length : Int) ∧ (gath ws m).Perm (iota (gath ws m).length)) → ¬ Filled ms ns ws := fun nz hf => nz (hf.2 (m, n) (by
            refine List.mem_of_getElem? (i := i) ?_
            rw [List.getElem?_zip_eq_some]
            exact ⟨m1, m2⟩))
          have next : ∀ {H' : Hp}, n = ((gath ws m).length : Int) ∧ (gath ws m).Perm (iota (gath ws m).length) → Kp [dl] H H' → HeldAt H' hd ms ls (gath ws) → H' dl = some (.frz od3 (.dK (lkv ms ns))) →
              ∃ y4' y5' y6' y7', [some (V.ref x), some (.ref dl), some (.ref dw), some (.ref hd), y4, some (.int m), y6, some (.int n)] = [some (.ref x), some (.ref dl), some (.ref dw), some (.ref hd), y4', y5', y6', y7'] ∧ HeldAt H' hd ms ls (gath ws) ∧ H' dl = some (.frz od3 (.dK (lkv ms ns))) ∧ Kp [dl] H H' ∧
              ∀ (j : Nat) (m n : Int), j < i + 1 → ms[j]? = some m → ns[j]? = some n → n = ((gath ws m).length : Int) ∧ (gath ws m).Perm (iota (gath ws m).length) := fun good k' held' h' => by
            refine ⟨y4, _, y6, _, rfl, held', h', k', fun j m' n' hj f1 f2 => ?_⟩
            by_cases ej : j = i
            · subst ej
              rw [m1] at f1
              rw [m2] at f2
              cases f1
              cases f2
              exact good
            · exact ok5 j m' n' (by omega) f1 f2
          refine ⟨t, [.int m, .int n], rfl, SqT.of upd_same, rfl, .int m, [.int n], rfl, .int n, [], rfl, rfl, ?_⟩
          -- the next step
          refine ⟨_, rfl, x, dx, fs, rfl, hx6, hns, _, rfl, _, rfl, _, rfl, hd, _, rfl, g held6, ls[i], _, rfl, .inl (SqL.of hlist), rfl, _, rfl, ite2 (fun e4 => ?_) (fun e4 => ?_)⟩
          · have e4' : n = ((gath ws m).length : Int) := by
              have := V.int.inj (of_decide_eq_true e4)
              rwa [List.length_map] at this
            -- the next step
            refine ⟨_, rfl, _, rfl, hd, _, rfl, g held6, ls[i], gath ws m, rfl, SqL.of hlist, fun sr p1 hp1 hs1 f1 => ?_⟩
            have held7 : HeldAt (upd (upd H5 t (.tup [.int m, .int n])) p1 (.lst (sr.map V.int))) hd ms ls (gath ws) := held6.kp (xs := []) (Kp.refl.new f1) fun b z => nomatch z
            refine ⟨_, rfl, _, rfl, hd, _, rfl, g held7, ls[i], _, rfl, .inl (SqL.of (held7.2.2.2 i m _ m1 hla)), _, rfl, fun p2 f2 => ⟨p2, (gath ws m).length, rfl, by rw [upd_same, List.length_map], Nat.le_trans (hgl m) (by decide), fun p3 f3 => ?_⟩⟩
            have kf : Kp [dl] H (upd (upd (upd (upd H5 t (.tup [.int m, .int n])) p1 (.lst (sr.map V.int))) p2 (.rng 0 (((gath ws m).map V.int).length : Int))) p3 (.lst ((iota (gath ws m).length).map V.int))) := ((k6.new f1).new f2).new f3
            have heldf : HeldAt (upd (upd (upd (upd H5 t (.tup [.int m, .int n])) p1 (.lst (sr.map V.int))) p2 (.rng 0 (((gath ws m).map V.int).length : Int))) p3 (.lst ((iota (gath ws m).length).map V.int))) hd ms ls (gath ws) := held6.kp (xs := []) (((Kp.refl.new f1).new f2).new f3) fun b z => nomatch z
            refine ⟨_, _, dp_ints (SqL.of (upd_old (upd_old upd_same f2) f3)), dp_ints (SqL.of upd_same), shaped_intL _, shaped_intL _, x, _, rfl, fun e5 => ?_, fun e5 => ?_⟩
            · rw [eqv_ints] at e5
              exact next ⟨e4', (sorted_iota hp1 hs1).mp (of_decide_eq_true e5)⟩ kf heldf (upd_old (upd_old (upd_old (upd_old h5l ht) f1) f2) f3)
            · rw [eqv_ints] at e5
              refine q2 (bad fun z => of_decide_eq_false e5 ((sorted_iota hp1 hs1).mpr z.2)) _ (kf.mono fun b hb' => by simp at hb' ⊢; exact .inl hb')
          · refine ⟨x, _, rfl, (fun z => nomatch z), fun _ => q2 (bad fun z => e4 (decide_eq_true ?_)) _ (k6.mono fun b hb' => by simp at hb' ⊢; exact .inl hb')⟩
            rw [List.length_map, z.1]
      · rintro σ H5 ⟨y4, y5, y6, y7, rfl, held5, h5l, k5, ok5⟩
        rw [hzl] at ok5
        refine ⟨h5l, q1 ⟨in3, fun mn hmn' => ?_⟩ _ fun b o hb' => ?_⟩
        · obtain ⟨j, hj⟩ := List.getElem?_of_mem hmn'
          obtain ⟨a1, a2⟩ := List.getElem?_zip_eq_some.mp hj
          exact ok5 j mn.1 mn.2 (List.getElem?_eq_some_iff.mp a1).1 a1 a2
        · by_cases e : b = dl
          · subst e
            rw [upd_same, ← hdl]
            exact hb'
          · rw [upd_ne e]
            exact k5 b o hb' (by simpa using e)
end
end FC
/-! W13: next_field. -/
namespace FC
open PySem PySem.Spec PyProof.Rows L2
/-! ### sizes -/
theorem placesB_len : ∀ (last : Int) (xs : List Int), xs.length ≤ (placesB last xs).length
  | _, [] => Nat.le_refl _
  | last, x :: xs => by
    have h1 := placesB_len x xs
    have h2 := numB_pos (x - last).toNat
    show xs.length + 1 ≤ (numB (x - last).toNat ++ placesB x xs).length
    rw [List.length_append]
    omega
theorem gathP_len (m : Int) : ∀ (last : Int) (ps : Posts), (gathP ps m).length ≤ (postsKB last ps).length
  | _, [] => Nat.le_refl _
  | last, (k, xs) :: ps => by
    have h1 := gathP_len m k ps
    have h2 := placesB_len 0 xs
    show ((if k = m then xs else []) ++ gathP ps m).length ≤ (numB (k - last).toNat ++ (lenI xs ++ (placesB 0 xs ++ postsKB k ps))).length
    simp only [List.length_append]
    split
    · omega
    · rw [List.length_nil]; omega
theorem gath_len (m : Int) : ∀ ws : Words, (gath ws m).length ≤ (wordsKB ws).length
  | [] => Nat.le_refl _
  | (w, ps) :: ws => by
    have h1 := gath_len m ws
    have h2 := gathP_len m 0 ps
    show (gathP ps m ++ gath ws m).length ≤ ((textB w ++ (lenI ps ++ postsKB 0 ps)) ++ wordsKB ws).length
    simp only [List.length_append]
    omega
theorem wordsR_gath {l r : List Int} {ws : Words} (h : wordsR l = some (ws, r)) (m : Int) : (gath ws m).length ≤ l.length := by
  obtain ⟨e, _⟩ := wordsR_ok h
  have h1 := gath_len m ws
  rw [e]
  unfold wordsB
  simp only [List.length_append]
  omega
theorem lensR_bad {k : Nat} {l : List Int} (h : numR l = none) : lensR (k + 1) l = none := by
  unfold lensR
  rw [h]
theorem lensR_step {k : Nat} {f l r : List Int} {n : Int} (h : numR l = some (n, r)) (g : Option (List Int × List Int)) (e : g = (lensR (k + 1) l).map fun p => (f ++ p.1, p.2)) : g = (lensR k r).map fun p => ((f ++ [n]) ++ p.1, p.2) := by
  rw [e]
  conv => lhs; unfold lensR
  rw [h]
  dsimp only
  cases lensR k r with
  | none => rfl
  | some p => simp
theorem lkv_snoc (ms ns : List Int) (i : Nat) (m n : Int) (hm : ms[i]? = some m) (hn : ns.length = i) : lkv (ms.take (i + 1)) (ns ++ [n]) = lkv (ms.take i) ns ++ [(Sum.inl m, V.int n)] := by
  have hi := (List.getElem?_eq_some_iff.mp hm).1
  unfold lkv
  rw [List.take_add_one, hm]
  show ((ms.take i ++ [m]).zip (ns ++ [n])).map _ = _
  rw [List.zip_append (by rw [List.length_take, hn]; omega), List.map_append]
  rfl
theorem take_new {ms : List Int} (h : ms.Nodup) {i : Nat} {m : Int} (hm : ms[i]? = some m) : m ∉ ms.take i := by
  intro z
  obtain ⟨j, hj⟩ := List.getElem?_of_mem z
  have hj' : j < i := by
    have := (List.getElem?_eq_some_iff.mp hj).1
    rw [List.length_take] at this
    omega
  rw [List.getElem?_take_of_lt hj'] at hj
  obtain ⟨a1, a2⟩ := List.getElem?_eq_some_iff.mp hj
  obtain ⟨b1, b2⟩ := List.getElem?_eq_some_iff.mp hm
  have := (List.getElem_inj h).mp (a2.trans b2.symm)
  omega
theorem lkv_new {ms ns : List Int} (h : ms.Nodup) {i : Nat} {m : Int} (hm : ms[i]? = some m) : valV (lkv (ms.take i) ns) (Sum.inl m : Key) = none := zip_none (fun _ => rfl) (take_new h hm)
/-- the lengths of a field's makes, where there are words -/
def putLens (s : Str) (mns : List (Int × Int)) (l : List (List Key × V)) : List (List Key × V) := mns.foldl (fun l p => if 0 < p.2 then putK l ([Sum.inl p.1, Sum.inr s] : List Key) (V.int p.2) else l) l
theorem putLens_snoc (s : Str) (mns : List (Int × Int)) (p : Int × Int) (l : List (List Key × V)) : putLens s (mns ++ [p]) l = if 0 < p.2 then putK (putLens s mns l) ([Sum.inl p.1, Sum.inr s] : List Key) (V.int p.2) else putLens s mns l := by
  unfold putLens
  rw [List.foldl_append]
  rfl
theorem putK_len1 {κ : Type} [DecidableEq κ] (c : List (κ × V)) (k : κ) (x : V) : (putK c k x).length ≤ c.length + 1 := by
  unfold putK
  split
  · rw [List.length_map]; omega
  · rw [List.length_append]; exact Nat.le_refl _
theorem putLens_len (s : Str) : ∀ (mns : List (Int × Int)) (l : List (List Key × V)), (putLens s mns l).length ≤ l.length + mns.length
  | [], _ => Nat.le_refl _
  | p :: mns, l => by
    show (putLens s mns (if 0 < p.2 then putK l ([Sum.inl p.1, Sum.inr s] : List Key) (V.int p.2) else l)).length ≤ _
    refine Nat.le_trans (putLens_len s mns _) ?_
    rw [List.length_cons]
    split
    · have := putK_len1 l ([Sum.inl p.1, Sum.inr s] : List Key) (V.int p.2)
      omega
    · omega
def spField (K : PySem.W.Frag) (c : Cl) : Sp := fun vs H Q E => ∃ (x a d y dxp hm ln tb : Addr) (row re ms : List Int) (last : List Nat) (lk : List (List Key × V)) (kvs : List (Key × V)), vs = [.ref x, .ref y, .str (S last)] ∧ Rdr K c H x a d row re ∧
  H y = some (.ins c.Piece dxp (fsP hm ln tb)) ∧ H hm = some (.lst (ms.map V.int)) ∧ H ln = some (.dT lk) ∧ H tb = some (.dK kvs) ∧ x ≠ y ∧ d ≠ tb ∧ ms.Nodup ∧ ms.length ≤ 360 ∧ kvs.length ≤ 1000 ∧ lk.length ≤ 1000000 ∧
  (∀ f r, fieldR ms last re = some (f, r) → ∀ dw H', Kp [x, ln, tb] H H' → Rdr K c H' x a d row r → H' tb = some (.dK (putK kvs (Sum.inr (S f.1)) (.ref dw))) → WordsAt (nw H H') dw f.2.2 → H' ln = some (.dT (putLens (S f.1) (ms.zip f.2.1) lk)) → Q (.str (S f.1)) H') ∧
  (fieldR ms last re = none → ∀ H', Kp [x, ln, tb] H H' → E (.ref c.NoBytes) none H')
section
variable {P : Program} {w : World} {K : PySem.W.Frag} {mg : Str → Option Value} {base : Heap} {c : Cl}
theorem ok_next_field (T : Txt K mg c) : GMt P w K mg base (L2.CX P w) 7 c.ByteReader "next_field" ["self", "piece", "last"] (spField K c) := by
  obtain ⟨f, fd, F, hm, hb⟩ := T.d_next_field
  have g_sure : GMt P w K mg base (L2.CX P w) 1 c.ByteReader "sure" ["self", "good"] (spSure c) := ok_sure T
  have g_next_number : GMt P w K mg base (L2.CX P w) 3 c.ByteReader "next_number" ["self"] (spNumber K c) := ok_next_number T
  have g_next_text : GMt P w K mg base (L2.CX P w) 4 c.ByteReader "next_text" ["self"] (spText K c) := ok_next_text T
  have g_next_words : GMt P w K mg base (L2.CX P w) 6 c.ByteReader "next_words" ["self"] (spWords K c) := ok_next_words T
  have g_sure_filled : GMt P w K mg base (L2.CX P w) 2 c.ByteReader "sure_filled" ["self", "lengths", "words"] (spFilled c) := ok_sure_filled T
  have g_is_name : GFn P w K mg base CX0 1 "is_name" ["text"] spIsName := ok_is_name T
  have g_makes : GMt P w K mg base CX0 1 c.Piece "makes" ["self"] (spMakes c) := ok_makes T
  refine ⟨f, fd, hm, hb, F.okX sc_ByteReader_next_field (fun vs H Q E h => ?_) (fun cdv A outer s H vs Q E hr h => ?_)⟩
  · obtain ⟨x, a, d, y, dxp, hm, ln, tb, row, re, ms, last, lk, kvs, rfl, _⟩ := h
    rfl
  · obtain ⟨x, a, d, y, dxp, hm, ln, tb, row, re, ms, last, lk, kvs, rfl, R, hy, hhm, hln, htb, nxy, ndtb, hmn, hml, hkl, hll, q1, q2⟩ := h
    have nd := sc_ByteReader_next_field.nd
    have hu := hu_of hr
    refine ⟨_, (pss_cons (ps_set (i := 3) nd rfl (.inl rfl) (pe_gm0 (pv 0) T.k_ByteReader g_next_text hr (passes_call (takes_of rfl rfl rfl rfl) (fun _ _ _ _ h => h))))
      (pss_cons (ps_expr (pe_gm (pv 0) T.k_ByteReader g_sure hr (passes_call (takes_of rfl rfl rfl rfl) (fun _ _ _ _ h => h)) (pa_cons (pe_and (pe_g g_is_name hr (by rfl) pass0 (pa_cons (pv 3) pa_nil)) (pe_one (pe_cmpR op_gt_str (pv 3) (pv 2) (nomark _)))) pa_nil)))
      (pss_cons (ps_set (i := 4) nd rfl (.inl rfl) pe_dnewK)
      (pss_cons (ps_for (passes_of rfl) rfl (pi_list (pe_gm0 (pv 1) T.k_Piece g_makes hr pass0)) (pg_name (i := 5) nd rfl (.inl rfl))
        (pss_one (ps_dput hu (pv 4) (pv 5) (pe_gm0 (pv 0) T.k_ByteReader g_next_number hr (passes_call (takes_of rfl rfl rfl rfl) (fun _ _ _ _ h => h))) rfl)))
      (pss_cons (ps_set (i := 6) nd rfl (.inl rfl) (pe_gm0 (pv 0) T.k_ByteReader g_next_words hr (passes_call (takes_of rfl rfl rfl rfl) (fun _ _ _ _ h => h))))
      (pss_cons (ps_expr (pe_gm (pv 0) T.k_ByteReader g_sure_filled hr (passes_call (takes_of rfl rfl rfl rfl) (fun _ _ _ _ h => h)) (pa_cons (pv 4) (pa_cons (pv 6) pa_nil))))
      (pss_cons (ps_dput hu (pe_fld (pv 1) rfl) (pv 3) (pv 6) rfl)
      (pss_cons (ps_lock (ps_for (passes_of rfl) rfl (pi_items (pv 4)) (pg_tup rfl (pgs_cons (pg_name (i := 5) nd rfl (.inl rfl)) (pgs_cons (pg_name (i := 7) nd rfl (.inl rfl)) pgs_nil)))
        (pss_one (ps_if (pt_cmpR op_gt (pv 7) pe_int (nomark _))
          (pss_one (ps_dput hu (pe_fld (pv 1) rfl) (pe_tup (pa_cons (pv 5) (pa_cons (pv 3) pa_nil))) (pv 7) rfl))
          pss_nil))))
      (pss_one (ps_ret (pv 3))))))))))), ?_⟩
    have hlen := R.len
    have hsuf := R.suf.length_le
    obtain ⟨dx, fs, hx, n1, n2, n3, n4, n5, _⟩ := R.noF
    have mx : ∀ {H' : Hp}, Kp [x] H H' → Kp [x, ln, tb] H H' := fun k => k.mono fun b hb' => by simp at hb' ⊢; exact .inl hb'
    -- the next step
    refine ⟨_, rfl, x, dx, fs, rfl, hx, n5, x, a, d, row, re, rfl, R, fun nm r1 e1 v H1 k1 R1 hv => ?_, fun e1 H1 k1 => q2 (by unfold fieldR; rw [e1]) H1 (mx k1)⟩
    subst hv
    have l1 := textR_len e1
    obtain ⟨dx, fs, hx1, n1, n2, n3, n4, n5, _⟩ := R1.noF
    -- the next step
    refine ⟨_, rfl, x, dx, fs, rfl, hx1, n2, _, rfl, S nm, rfl, ?_, fun H2 s2 => ⟨nameB nm, rfl, ?_⟩⟩
    · show nm.toArray.size ≤ 1000
      rw [List.size_toArray]
      omega
    have k2 : Kp [x] H H2 := k1.trans (Kp.same s2)
    have R2 : Rdr K c H2 x a d row r1 := R1.same s2
    have bad : ¬ (nameB nm = true ∧ last < nm) → E (.ref c.NoBytes) none H2 := fun n => q2 (by unfold fieldR; rw [e1]; exact if_neg n) H2 (mx k2)
    cases hnb : nameB nm with
    | false => exact ⟨x, _, rfl, (fun z => nomatch z), fun _ => bad fun z => by rw [hnb] at z; exact nomatch z.1⟩
    | true =>
      refine ⟨_, rfl, _, rfl, _, _, rfl, rfl, x, _, rfl, fun e2 => ?_, fun e2 => bad fun z => of_decide_eq_false e2 z.2⟩
      have hlast : last < nm := of_decide_eq_true e2
      have ef : fieldR ms last re = (match lensR ms.length r1 with
          | none => none
          | some (ns, r1) =>
            match wordsR r1 with
            | none => none
            | some (ws, r2) => @ite _ (Filled ms ns ws) (Classical.propDecidable _) (some ((nm, ns, ws), r2)) none) := by
        unfold fieldR
        rw [e1]
        exact if_pos ⟨hnb, hlast⟩
      -- the next step
      intro dl hdl
      have hdl0 : H dl = none := k2.free hdl fun z => by
        have : dl = x := by simpa using z
        exact (R2.nel hdl).1 this.symm
      have nxd := (R.nel hdl0).1
      have k3 : Kp [x] H (upd H2 dl (.dK [])) := k2.new hdl
      have R3 : Rdr K c (upd H2 dl (.dK [])) x a d row r1 := R2.new hdl
      have nyx : y ≠ x := nxy.symm
      have nhx : hm ≠ x := by
        obtain ⟨dx, h1⟩ := R.ins
        exact ne_of hhm h1 (by intro z; cases z)
      have nlx : ln ≠ x := by
        obtain ⟨dx, h1⟩ := R.ins
        exact ne_of hln h1 (by intro z; cases z)
      have ntx : tb ≠ x := by
        obtain ⟨dx, h1⟩ := R.ins
        exact ne_of htb h1 (by intro z; cases z)
      -- the next step
      refine ⟨_, rfl, y, dxp, _, rfl, k3 _ _ hy (by simpa using nyx), rfl, y, dxp, hm, _, ms, rfl, k3 _ _ hy (by simpa using nyx), fsP_hm _ _ _, k3 _ _ hhm (by simpa using nhx), fun H4 p s4 hp0 hp => ?_⟩
      have k4 : Kp [x] H H4 := k3.trans (Kp.same s4)
      have R4 : Rdr K c H4 x a d row r1 := R3.same s4
      have hp00 : H p = none := k3.free hp0 fun z => by
        have : p = x := by simpa using z
        exact (R3.nel hp0).1 this.symm
      have npx : p ≠ x := by
        obtain ⟨dx, h1⟩ := R4.ins
        exact ne_of hp h1 (by intro z; cases z)
      have npd : p ≠ dl := by
        intro z
        rw [z, upd_same] at hp0
        cases hp0
      have dl4 : H4 dl = some (.dK []) := s4 _ _ upd_same
      refine ⟨p, rfl, ⟨_, SqL.of hp⟩, for_list (xs := ms.map V.int) (fun i σ H' => ∃ (nsf r : List Int) (y5 : Option V), σ = [some (.ref x), some (.ref y), some (.str (S last)), some (.str (S nm)), some (.ref dl), y5, none, none] ∧ nsf.length = i ∧ H' dl = some (.dK (lkv (ms.take i) nsf)) ∧ Kp [x] H H' ∧ H' p = some (.lst (ms.map V.int)) ∧ Rdr K c H' x a d row r ∧
          lensR ms.length r1 = (lensR (ms.length - i) r).map fun q => (nsf ++ q.1, q.2)) ⟨[], r1, none, rfl, rfl, dl4, k4, hp, R4, ?_⟩ (fun i σ H' _ ⟨_, _, _, _, _, _, _, z, _⟩ => SqL.of z) ?_ ?_⟩
      · show _ = (lensR ms.length r1).map fun q => (q.1, q.2)
        cases lensR ms.length r1 <;> rfl
      · rintro i v σ H5 hv ⟨nsf, r, y5, rfl, hnsf, hdl5, k5, hp5, R5, en⟩
        rw [List.getElem?_map] at hv
        cases em : ms[i]? with
        | none => rw [em] at hv; cases hv
        | some m =>
          rw [em] at hv
          cases Option.some.inj hv
          have hi := (List.getElem?_eq_some_iff.mp em).1
          obtain ⟨k, hk⟩ : ∃ k, ms.length - i = k + 1 := ⟨ms.length - i - 1, by omega⟩
          rw [hk] at en
          obtain ⟨dx, fs, hx5, n1, n2, n3, _⟩ := R5.noF
          -- the next step
          refine ⟨_, rfl, x, dx, fs, rfl, hx5, n3, x, a, d, row, r, rfl, R5, fun n r' e3 v H6 k6 R6 hv => ?_, fun e3 H6 k6 => q2 (by rw [ef, en, lensR_bad e3]; rfl) H6 (mx (k5.trans k6))⟩
          subst hv
          have dl6 := k6 _ _ hdl5 (by simpa using nxd.symm)
          refine ⟨_, rfl, _, rfl, dl, _, rfl, DPut.k (k := Sum.inl m) dl6 ?_, nsf ++ [n], r', _, rfl, by rw [List.length_append, hnsf]; rfl, ?_, (k5.trans k6).mut hdl0, ?_, R6.put R hdl0, ?_⟩
          · unfold lkv
            rw [List.length_map, List.length_zip]
            exact sl_lt (by omega)
          · rw [upd_same, putK_new _ (lkv_new hmn em), lkv_snoc ms nsf i m n em hnsf]
          · rw [upd_ne npd]
            exact k6 _ _ hp5 (by simpa using npx)
          · rw [show ms.length - (i + 1) = k by omega]
            exact lensR_step e3 _ en
      · rintro σ H5 ⟨ns, r2, y5, rfl, hns, hdl5, k5, hp5, R5, en⟩
        rw [List.length_map] at hns hdl5 en
        rw [List.take_length] at hdl5
        have en' : lensR ms.length r1 = some (ns, r2) := by
          rw [en, Nat.sub_self]
          show some (ns ++ [], r2) = _
          rw [List.append_nil]
        rw [en'] at ef
        dsimp only at ef
        obtain ⟨dx, fs, hx5, n1, n2, n3, n4, n5, n6, n7, n8, n9, _⟩ := R5.noF
        -- the next step
        refine ⟨_, rfl, x, dx, fs, rfl, hx5, n7, x, a, d, row, r2, rfl, R5, fun ws r3 e3 v H6 k6 R6 hv => ?_, fun e3 H6 k6 => q2 (by rw [ef, e3]) H6 (mx (k5.trans k6))⟩
        obtain ⟨dw, rfl, hw⟩ := hv
        rw [e3] at ef
        dsimp only at ef
        obtain ⟨w1, w2, w3, w4⟩ := wordsR_ok e3
        have k6' : Kp [x] H H6 := k5.trans k6
        have dl6 := k6 _ _ hdl5 (by simpa using nxd.symm)
        obtain ⟨dx, hx6⟩ := R6.ins
        have hwn : (ws.map (·.1)).Nodup := by
          refine List.Pairwise.map _ (fun a b hab z => ?_) w4
          have z' : a.1 = b.1 := z
          rw [z'] at hab
          exact nlt_irrefl _ hab
        -- the next step
        have kd : ∀ {H' : Hp}, Kp [dl, dw] H6 H' → Kp [x, ln, tb] H H' := fun k b o hb' nb => by
          have nb' : b ≠ x := fun z => nb (by simp [z])
          have hb6 := k6' b o hb' (by simpa using nb')
          refine k b o hb6 fun z => ?_
          simp at z
          rcases z with z | z
          · rw [z, hdl0] at hb'
            cases hb'
          · obtain ⟨kv, hk1, hk2⟩ := hw
            obtain ⟨g1, g2⟩ := nw_of hk1
            have := k5 b o hb' (by simpa using nb')
            rw [z, g1] at this
            cases this
        refine ⟨_, rfl, x, dx, _, rfl, hx6, rfl, _, rfl, _, rfl, x, dl, dw, dx, _, ms, ns, ws, rfl, hx6, rfl, dl6, hmn, hns, hml, hw.same nw_same, hwn, fun m => Nat.le_trans (wordsR_gath e3 m) (Nat.le_trans (R5.suf.length_le) hlen), fun hf H7 s7 => ?_, fun hf H7 k7 => q2 (by rw [ef]; exact if_neg hf) H7 (kd k7)⟩
        rw [if_pos hf] at ef
        -- the next step
        have k7 : Kp [x] H H7 := k6'.trans (Kp.same s7)
        have y7 := k7 _ _ hy (by simpa using nyx)
        have t7 := k7 _ _ htb (by simpa using ntx)
        have ln7 := k7 _ _ hln (by simpa using nlx)
        have dl7 := s7 _ _ dl6
        have nyt : y ≠ tb := ne_of hy htb (by intro z; cases z)
        have nlt : ln ≠ tb := ne_of hln htb (by intro z; cases z)
        have nld : ln ≠ dl := ne_of_none hln hdl0
        have ntd : tb ≠ dl := ne_of_none htb hdl0
        have nyl : y ≠ ln := ne_of hy hln (by intro z; cases z)
        have nyd : y ≠ dl := ne_of_none hy hdl0
        refine ⟨_, rfl, _, rfl, y, _, dxp, _, _, rfl, y7, T.k_Piece, T.a_table, fsP_tb _ _ _, _, rfl, tb, _, rfl, DPut.k (k := Sum.inr (S nm)) t7 (sl_lt (by omega)), ?_⟩
        -- the next step
        have hzl : (lkv ms ns).length = ms.length := by
          unfold lkv
          rw [List.length_map, List.length_zip, hns, Nat.min_self]
        refine ⟨dl, .dK (lkv ms ns), by rw [upd_ne ntd.symm]; exact dl7, trivial, fun od => ?_⟩
        refine ⟨_, rfl, dl, od, _, rfl, upd_same, for_it walk_items (fun i σ H' => ∃ y5 y7, σ = [some (.ref x), some (.ref y), some (.str (S last)), some (.str (S nm)), some (.ref dl), y5, some (.ref dw), y7] ∧ H' dl = some (.frz od (.dK (lkv ms ns))) ∧ H' ln = some (.dT (putLens (S nm) ((ms.zip ns).take i) lk)) ∧
            Kp [dl, ln] (upd H7 tb (.dK (putK kvs (Sum.inr (S nm)) (.ref dw)))) H') ⟨y5, none, rfl, upd_same, ?_, Kp.refl.at (by simp)⟩ (fun i σ H' _ ⟨_, _, _, z, _⟩ => z) ?_ ?_⟩
        · rw [upd_ne nld, upd_ne nlt]
          exact ln7
        · rintro i v σ H8 H8' hi ⟨y5, y7', rfl, h8d, h8l, k8⟩ ⟨t, u1, u2, rfl, ht, rfl, f1, f2⟩
          dsimp only at f1 f2
          have hzi : (lkv ms ns)[i]? = (ms.zip ns)[i]?.map fun p => ((Sum.inl p.1 : Key), V.int p.2) := by
            unfold lkv
            rw [List.getElem?_map]
          cases ez : (ms.zip ns)[i]? with
          | none =>
            rw [hzi, ez] at f1
            cases f1
          | some mn =>
            rw [hzi, ez] at f1 f2
            cases Option.some.inj f1
            cases Option.some.inj f2
            have h9l : upd H8 t (.tup [.int mn.1, .int mn.2]) ln = some (.dT (putLens (S nm) ((ms.zip ns).take i) lk)) := upd_old h8l ht
            have h9y : upd H8 t (.tup [.int mn.1, .int mn.2]) y = some (.ins c.Piece dxp (fsP hm ln tb)) := upd_old (k8 _ _ (by rw [upd_ne nyt]; exact y7) (by simp [nyd, nyl])) ht
            refine ⟨t, [.int mn.1, .int mn.2], rfl, SqT.of upd_same, rfl, .int mn.1, [.int mn.2], rfl, .int mn.2, [], rfl, rfl, ?_⟩
            have tk : putLens (S nm) ((ms.zip ns).take (i + 1)) lk = if 0 < mn.2 then putK (putLens (S nm) ((ms.zip ns).take i) lk) ([Sum.inl mn.1, Sum.inr (S nm)] : List Key) (V.int mn.2) else putLens (S nm) ((ms.zip ns).take i) lk := by
              rw [List.take_add_one, ez]
              exact putLens_snoc _ _ _ _
            refine ⟨_, rfl, _, _, rfl, rfl, _, rfl, ite2 (fun e4 => ?_) (fun e4 => ?_)⟩
            · have e4' : 0 < mn.2 := of_decide_eq_true e4
              rw [if_pos e4'] at tk
              refine ⟨_, rfl, _, rfl, y, _, dxp, _, _, rfl, h9y, T.k_Piece, T.a_lengths, fsP_ln _ _ _, _, rfl, _, rfl, by show 2 ≤ sizeLine; decide, fun t2 ht2 => ⟨ln, _, rfl, DPut.t (k := [Sum.inl mn.1, Sum.inr (S nm)]) (upd_old h9l ht2) upd_same ?_, _, _, rfl, ?_, ?_, ?_⟩⟩
              · have h1 := putLens_len (S nm) ((ms.zip ns).take i) lk
                have h2 := List.length_take_le' i (ms.zip ns)
                rw [List.length_zip, hns, Nat.min_self] at h2
                exact Nat.lt_of_le_of_lt (by omega : _ ≤ 2000000) (by decide)
              · rw [upd_ne nld.symm]
                exact upd_old (upd_old h8d ht) ht2
              · rw [upd_same, tk]
              · exact ((k8.new ht).new ht2).at (by simp)
            · have e4' : ¬ 0 < mn.2 := of_decide_eq_false (Bool.eq_false_iff.mpr e4)
              rw [if_neg e4'] at tk
              exact ⟨_, _, rfl, upd_old h8d ht, by rw [tk]; exact h9l, k8.new ht⟩
        · rintro σ H8 ⟨y5, y7', rfl, h8d, h8l, k8⟩
          rw [hzl, List.take_of_length_le (by rw [List.length_zip, hns, Nat.min_self]; exact Nat.le_refl _)] at h8l
          refine ⟨h8d, _, rfl, ?_⟩
          -- the next step
          have kF : Kp [dl, ln, tb] H7 (upd H8 dl (.dK (lkv ms ns))) := fun b o hb' nb => by
            simp at nb
            rw [upd_ne nb.1]
            refine k8 b o ?_ (by simp [nb.1, nb.2.1])
            rw [upd_ne nb.2.2]
            exact hb'
          have k5d : ∃ o, H5 dl = some o := ⟨_, hdl5⟩
          have k5l : ∃ o, H5 ln = some o := ⟨_, k5 _ _ hln (by simpa using nlx)⟩
          have k5t : ∃ o, H5 tb = some o := ⟨_, k5 _ _ htb (by simpa using ntx)⟩
          have R9 : Rdr K c (upd H8 dl (.dK (lkv ms ns))) x a d row r3 := by
            obtain ⟨g1, g2, g3⟩ := R.nel hdl0
            obtain ⟨dxx, gx⟩ := R.ins
            obtain ⟨sk, gs1, gs2⟩ := R.sig
            have ga := R.lst
            refine (R6.same s7).keep kF ?_ ?_ ?_
            · simp [g1, nlx.symm, ntx.symm]
            · have h1 : a ≠ ln := ne_of ga hln (by intro z; cases z)
              have h2 : a ≠ tb := ne_of ga htb (by intro z; cases z)
              simp [g2, h1, h2]
            · have h1 : d ≠ ln := ne_of gs1 hln (by intro z; cases z)
              simp [g3, h1, ndtb]
          refine q1 (nm, ns, ws) r3 ef dw _ ?_ R9 ?_ ?_ ?_
          · intro b o hb' nb
            simp at nb
            refine kF b o (k7 b o hb' (by simpa using nb.1)) ?_
            have : b ≠ dl := ne_of_none hb' hdl0
            simp [this, nb.2.1, nb.2.2]
          · rw [upd_ne ntd]
            exact k8 _ _ upd_same (by simp [ntd, nlt.symm])
          · refine hw.same (((nw_up s7).trans (nw_kp kF fun b hb' => ?_)).trans (nw_mono fun b hb' => ?_))
            · simp at hb'
              rcases hb' with z | z | z
              · rw [z]; exact k5d
              · rw [z]; exact k5l
              · rw [z]; exact k5t
            · refine k5.free hb' fun z => ?_
              have : b = x := by simpa using z
              exact (R5.nel hb').1 this.symm
          · rw [upd_ne nld]
            exact h8l
end
end FC
/-! W14: next_piece. -/
namespace FC
open PySem PySem.Spec PyProof.Rows L2
/-! ### the lengths of what was read -/
abbrev tabOf (fs : List Field) : Tab := fs.map fun f => (f.1, f.2.2)
theorem putLens_oth (s : Str) (k : List Key) : ∀ (mns : List (Int × Int)) (l : List (List Key × V)), (∀ p ∈ mns, ([Sum.inl p.1, Sum.inr s] : List Key) ≠ k) → valV (putLens s mns l) k = valV l k
  | [], _, _ => rfl
  | p :: mns, l, h => by
    show valV (putLens s mns (if 0 < p.2 then putK l ([Sum.inl p.1, Sum.inr s] : List Key) (V.int p.2) else l)) k = _
    rw [putLens_oth s k mns _ fun q hq => h q (List.mem_cons_of_mem _ hq)]
    split
    · rw [valV_put, if_neg (fun z => h p List.mem_cons_self z.symm)]
    · rfl
theorem putLens_at (s : Str) (m n : Int) : ∀ (mns : List (Int × Int)) (l : List (List Key × V)), (mns.map (·.1)).Nodup → (m, n) ∈ mns → valV (putLens s mns l) ([Sum.inl m, Sum.inr s] : List Key) = if 0 < n then some (V.int n) else valV l ([Sum.inl m, Sum.inr s] : List Key)
  | [], _, _, h => nomatch h
  | p :: mns, l, nd, h => by
    have nd' := List.nodup_cons.mp nd
    show valV (putLens s mns (if 0 < p.2 then putK l ([Sum.inl p.1, Sum.inr s] : List Key) (V.int p.2) else l)) _ = _
    rcases List.mem_cons.mp h with h | h
    · subst h
      rw [putLens_oth]
      · dsimp only
        by_cases h0 : 0 < n
        · rw [if_pos h0, if_pos h0, valV_put, if_pos rfl]
        · rw [if_neg h0, if_neg h0]
      · intro q hq z
        have z' : q.1 = m := by simpa using z
        exact nd'.1 (List.mem_map.mpr ⟨q, hq, z'⟩)
    · rw [putLens_at s m n mns _ nd'.2 h]
      have hne : p.1 ≠ m := fun z => nd'.1 (List.mem_map.mpr ⟨(m, n), h, z.symm⟩)
      split
      · rfl
      · split
        · rw [valV_put, if_neg]
          intro z
          have z' : m = p.1 := by simpa using z
          exact hne z'.symm
        · rfl
theorem findA_snoc {α : Type} (ps : List (List Nat × α)) (nm f : List Nat) (a : α) (h : findA ps nm = none) : findA (ps ++ [(nm, a)]) f = if nm = f then some a else findA ps f := by
  induction ps with
  | nil =>
    rw [List.nil_append, findA_cons]
  | cons p ps ih =>
    rw [findA_cons] at h
    rw [List.cons_append, findA_cons, findA_cons]
    by_cases e : p.1 = nm
    · rw [if_pos e] at h
      cases h
    · rw [if_neg e] at h
      rw [ih h]
      by_cases e2 : p.1 = f
      · rw [if_pos e2, if_pos e2, if_neg (fun z => e (by rw [e2, z]))]
      · rw [if_neg e2, if_neg e2]
theorem findA_none {α : Type} {nm : List Nat} : ∀ {ps : List (List Nat × α)}, (∀ p ∈ ps, p.1 ≠ nm) → findA ps nm = none
  | [], _ => rfl
  | p :: ps, h => by
    rw [findA_cons, if_neg (h p List.mem_cons_self)]
    exact findA_none fun q hq => h q (List.mem_cons_of_mem _ hq)
theorem gath_out {ms : List Int} {ws : Words} (h : ∀ wp ∈ ws, ∀ p ∈ wp.2, p.1 ∈ ms) {m : Int} (n : m ∉ ms) : gath ws m = [] := by
  unfold gath gathP
  rw [List.flatMap_eq_nil_iff]
  intro wp hw
  rw [List.flatMap_eq_nil_iff]
  intro p hp
  rw [if_neg]
  intro z
  exact n (z ▸ h wp hw p hp)
theorem lensOk_step {lk : List (List Key × V)} {tab : Tab} {ms ns : List Int} {nm : List Nat} {ws : Words} (h : LensOk lk tab) (hnew : findA tab nm = none) (hf : Filled ms ns ws) (hn : ms.Nodup) (hl : ns.length = ms.length) :
    LensOk (putLens (S nm) (ms.zip ns) lk) (tab ++ [(nm, ws)]) := by
  intro m f
  unfold lenOf wordsIn
  rw [findA_snoc tab nm f ws hnew]
  by_cases e : nm = f
  · subst e
    rw [if_pos rfl]
    have h0 := h m nm
    unfold lenOf wordsIn at h0
    rw [hnew] at h0
    have hnz : ((ms.zip ns).map (·.1)).Nodup := (zip_fst_sub ms ns).nodup hn
    show _ = V.int ((gath ws m).length : Int)
    by_cases hm : m ∈ ms
    · obtain ⟨i, hi⟩ := List.getElem?_of_mem hm
      have hi' := (List.getElem?_eq_some_iff.mp hi).1
      have hni : ns[i]? = some ns[i] := List.getElem?_eq_getElem (by omega)
      have hz : (m, ns[i]) ∈ ms.zip ns := by
        refine List.mem_of_getElem? (i := i) ?_
        rw [List.getElem?_zip_eq_some]
        exact ⟨hi, hni⟩
      rw [putLens_at _ m _ _ _ hnz hz]
      have := (hf.2 _ hz).1
      dsimp only at this
      split
      · rw [this]
        rfl
      · rename_i h1
        rw [h0]
        show V.int (0 : Int) = _
        congr 1
        omega
    · rw [putLens_oth]
      · rw [h0, gath_out hf.1 hm]
        rfl
      · intro p hp z
        have z' : p.1 = m := by simpa using z
        exact hm (z' ▸ (List.of_mem_zip hp).1)
  · rw [if_neg e, putLens_oth]
    · exact h m f
    · intro p hp z
      have z' : S nm = S f := by
        have := (List.cons.inj (List.cons.inj z).2).1
        exact Sum.inr.inj this
      exact e (S_inj z')
/-! ### the mirror of next_piece -/
noncomputable def pieceP (l : List Int) : Option ((List Int × List Field) × List Int) :=
  match numR l with
  | none => none
  | some (m, r) =>
    match risR m.toNat none r with
    | none => none
    | some (makes, r1) =>
      match numR r1 with
      | none => none
      | some (k, r2) => (fieldsK makes k.toNat [] r2).map fun p => ((makes, p.1), p.2)
theorem pieceR_eq (l : List Int) : pieceR l = match pieceP l with
    | none => none
    | some (p, r) => if r = [] then some p else none := by
  unfold pieceR pieceP
  cases numR l with
  | none => rfl
  | some p =>
    obtain ⟨m, r⟩ := p
    dsimp only
    cases risR m.toNat none r with
    | none => rfl
    | some p =>
      obtain ⟨makes, r1⟩ := p
      dsimp only
      cases numR r1 with
      | none => rfl
      | some p =>
        obtain ⟨k, r2⟩ := p
        dsimp only
        cases fieldsK makes k.toNat [] r2 with
        | none => rfl
        | some p => rfl
theorem fieldsK_bad {makes : List Int} {k : Nat} {last : List Nat} {l : List Int} (h : fieldR makes last l = none) : fieldsK makes (k + 1) last l = none := by
  unfold fieldsK
  rw [h]
theorem fieldsK_step {α : Type} {makes : List Int} {k : Nat} {last : List Nat} {l r : List Int} {f : Field} {fs : List Field} (h : fieldR makes last l = some (f, r)) (g : Option (α × List Int)) (j : List Field → α) (e : g = (fieldsK makes (k + 1) last l).map fun p => (j (fs ++ p.1), p.2)) :
    g = (fieldsK makes k f.1 r).map fun p => (j ((fs ++ [f]) ++ p.1), p.2) := by
  rw [e]
  conv => lhs; unfold fieldsK
  rw [h]
  dsimp only
  cases fieldsK makes k f.1 r with
  | none => rfl
  | some p => simp
def lastF (fs : List Field) : List Nat := (fs.getLast?.map (·.1)).getD []
theorem lastF_snoc (fs : List Field) (f : Field) : lastF (fs ++ [f]) = f.1 := by
  unfold lastF
  rw [List.getLast?_concat]
  rfl
theorem fieldB_pos (f : Field) : 0 < (fieldB f).length := by
  have := numB_pos f.1.length
  unfold fieldB textB lenI
  simp only [List.length_append]
  omega
def vPiece (c : Cl) : List Int × List Field → Hp → Hp → V → Prop := fun p _ H' v => ∃ y, v = .ref y ∧ PceAt c H' y p.1 (tabOf p.2)
def spPiece (K : PySem.W.Frag) (c : Cl) : Sp := fun vs H Q E => ∃ (x a d : Addr) (row re : List Int), vs = [.ref x] ∧ Rdr K c H x a d row re ∧ RdP K c H x a d row (pieceP re) (vPiece c) Q E
section
variable {P : Program} {w : World} {K : PySem.W.Frag} {mg : Str → Option Value} {base : Heap} {c : Cl}
theorem ok_next_piece (T : Txt K mg c) : GMt P w K mg base (L2.CX P w) 8 c.ByteReader "next_piece" ["self"] (spPiece K c) := by
  obtain ⟨f, fd, F, hm, hb⟩ := T.d_next_piece
  have g_next_number : GMt P w K mg base (L2.CX P w) 3 c.ByteReader "next_number" ["self"] (spNumber K c) := ok_next_number T
  have g_next_rising : GMt P w K mg base (L2.CX P w) 4 c.ByteReader "next_rising" ["self", "many"] (spRising K c) := ok_next_rising T
  have g_next_field : GMt P w K mg base (L2.CX P w) 7 c.ByteReader "next_field" ["self", "piece", "last"] (spField K c) := ok_next_field T
  have g_Piece_init : GIn P w K mg base CX0 2 c.Piece ["self", "makes"] (spPInit c) := ok_Piece_init T
  refine ⟨f, fd, hm, hb, F.okX sc_ByteReader_next_piece (fun vs H Q E h => ?_) (fun cdv A outer s H vs Q E hr h => ?_)⟩
  · obtain ⟨x, a, d, row, re, rfl, _⟩ := h
    rfl
  · obtain ⟨x, a, d, row, re, rfl, R, q1, q2⟩ := h
    have nd := sc_ByteReader_next_piece.nd
    refine ⟨_, (pss_cons (ps_set (i := 1) nd rfl (.inl rfl) (pe_gmake g_Piece_init hr (by rfl) T.c_Piece pass0 (pa_cons (pe_lst pa_nil) pa_nil)))
      (pss_cons (ps_fld (pv 1) (pe_gm (pv 0) T.k_ByteReader g_next_rising hr (passes_call (takes_of rfl rfl rfl rfl) (fun _ _ _ _ h => h)) (pa_cons (pe_gm0 (pv 0) T.k_ByteReader g_next_number hr (passes_call (takes_of rfl rfl rfl rfl) (fun _ _ _ _ h => h))) pa_nil)) rfl)
      (pss_cons (ps_set (i := 2) nd rfl (.inl rfl) (pe_gm0 (pv 0) T.k_ByteReader g_next_number hr (passes_call (takes_of rfl rfl rfl rfl) (fun _ _ _ _ h => h))))
      (pss_cons (ps_set (i := 3) nd rfl (.inl rfl) pe_str)
      (pss_cons (ps_while (passes_of rfl) (pt_cmpR op_lt (pe_callB call_lenD (by rfl) T.b_len boot_len (pa_cons (pe_fld (pv 1) rfl) pa_nil)) (pv 2) (nomark _))
        (pss_one (ps_set (i := 3) nd rfl (.inl rfl) (pe_gm (pv 0) T.k_ByteReader g_next_field hr (passes_call (takes_of rfl rfl rfl rfl) (fun _ _ _ _ h => h)) (pa_cons (pv 1) (pa_cons (pv 3) pa_nil))))))
      (pss_one (ps_ret (pv 1)))))))), ?_⟩
    have hlen := R.len
    have hsuf := R.suf.length_le
    -- the next step
    refine ⟨sl_line (Nat.zero_le _), fun e he => ?_⟩
    intro y dy hy hdy nyd
    have hy0 : H y = none := (free_ne hy).2
    have hdy0 : H dy = none := (free_ne hdy).2
    obtain ⟨nxy, nay, ndy⟩ := R.nel hy0
    have hye : e ≠ y := (free_ne hy).1.symm
    have hde : e ≠ dy := (free_ne hdy).1.symm
    have sA : Same H (upd (upd (upd H e (.lst [])) dy (.own y)) y (.ins c.Piece dy [])) := Same.mut (Same.mut (Same.upd_new he) hdy0) hy0
    refine ⟨y, e, dy, rfl, upd_same, ?_, fun hm0 ln tb H1 k1 f1 f2 f3 g1 g2 g3 g4 => ⟨rfl, ?_⟩⟩
    · rw [upd_ne hye, upd_ne hde, upd_same]
    have s1 : Same H H1 := fun b o hb' => k1 b o (sA b o hb') (by simpa using ne_of_none hb' hy0)
    have R1 : Rdr K c H1 x a d row re := R.same s1
    have ln0 : H ln = none := sA.free f2
    have tb0 : H tb = none := sA.free f3
    have nxl := R.nel ln0
    have nxt := R.nel tb0
    obtain ⟨dx, fs, hx, n1, n2, n3, n4, _⟩ := R1.noF
    -- the next step
    refine ⟨_, rfl, x, dx, fs, rfl, hx, n4, _, rfl, x, dx, fs, rfl, hx, n3, x, a, d, row, re, rfl, R1, fun m r0 e0 v H2 k2 R2 hv => ?_, fun e0 H2 k2 => q2 (by unfold pieceP; rw [e0]) H2 ((Kp.same s1).trans k2)⟩
    subst hv
    refine ⟨x, a, d, row, r0, m, rfl, R2, fun ms r1 e1 v H3 k3 R3 hv => ?_, fun e1 H3 k3 => q2 (by unfold pieceP; rw [e0]; dsimp only; rw [e1]) H3 (((Kp.same s1).trans k2).trans k3)⟩
    obtain ⟨q, rfl, hq0, hq⟩ := hv
    have k13 : Kp [x] H1 H3 := k2.trans k3
    have y3 := k13 _ _ g1 (by simpa using nxy.symm)
    have hqy : q ≠ y := ne_of hq y3 (by intro z; cases z)
    have hly : ln ≠ y := ne_of g3 g1 (by intro z; cases z)
    have hty : tb ≠ y := ne_of g4 g1 (by intro z; cases z)
    have hlt : ln ≠ tb := ne_of g3 g4 (by intro z; cases z)
    refine ⟨_, rfl, y, c.Piece, dy, _, rfl, y3, T.k_Piece, T.a_held_makes, (by show 3 < 1000; decide), ?_⟩
    obtain ⟨p1, p2, p3, p4⟩ := risR_ok e1
    have hmn : ms.Nodup := p4.imp fun h z => by rw [z] at h; exact absurd h (Int.lt_irrefl _)
    have hml : ms.length ≤ 360 := by
      have h1 := placesB_len 0 ms
      have h2 := R2.suf.length_le
      have h3 := congrArg List.length p2
      rw [List.length_append] at h3
      have h4 : placesB ((none : Option Int).getD 0) ms = placesB 0 ms := rfl
      rw [h4] at h3
      omega
    have R4 : Rdr K c (upd H3 y (.ins c.Piece dy (fsP q ln tb))) x a d row r1 := R3.keep (xs := [y]) (Kp.refl.at (by simp)) (by simpa using nxy) (by simpa using nay) (by simpa using ndy)
    have k4 : Kp [x] H (upd H3 y (.ins c.Piece dy (fsP q ln tb))) := ((Kp.same s1).trans k13).mut hy0
    obtain ⟨dx, fs, hx, n1, n2, n3, n4, _⟩ := R4.noF
    -- the next step
    refine ⟨_, rfl, x, dx, fs, rfl, hx, n3, x, a, d, row, r1, rfl, R4, fun many r2 e2 v G k5 R5 hv => ?_, fun e2 H2 k5 => q2 (by unfold pieceP; rw [e0]; dsimp only; rw [e1]; dsimp only; rw [e2]) H2 (k4.trans k5)⟩
    subst hv
    have kG : Kp [x] H G := k4.trans k5
    have yG := k5 _ _ upd_same (by simpa using nxy.symm)
    have qx : q ≠ x := by
      obtain ⟨dx, h1⟩ := R2.ins
      exact (ne_of_none h1 hq0).symm
    have qG := k5 q _ (by rw [upd_ne hqy]; exact hq) (by simpa using qx)
    have lnG := k5 ln _ (by rw [upd_ne hly]; exact k13 _ _ g3 (by simpa using nxl.1.symm)) (by simpa using nxl.1.symm)
    have tbG := k5 tb _ (by rw [upd_ne hty]; exact k13 _ _ g4 (by simpa using nxt.1.symm)) (by simpa using nxt.1.symm)
    have inG : ∀ b, b ∈ [x, ln, tb] → ∃ o, G b = some o := fun b hb' => by
      simp at hb'
      rcases hb' with z | z | z
      · obtain ⟨dx, h1⟩ := R5.ins
        exact ⟨_, z ▸ h1⟩
      · exact ⟨_, z ▸ lnG⟩
      · exact ⟨_, z ▸ tbG⟩
    have ep : pieceP re = (fieldsK ms many.toNat [] r2).map fun p => ((ms, p.1), p.2) := by
      unfold pieceP
      rw [e0]
      dsimp only
      rw [e1]
      dsimp only
      rw [e2]
    have ndt : d ≠ tb := nxt.2.2
    have up : ∀ {H' : Hp}, Kp [x, ln, tb] G H' → Kp [x] H H' := fun k b o hb' nb => by
      refine k b o (kG b o hb' nb) ?_
      have h1 := ne_of_none hb' ln0
      have h2 := ne_of_none hb' tb0
      simp at nb ⊢
      exact ⟨nb, h1, h2⟩
    have l2 := R5.suf.length_le
    refine ⟨fun m σ H' => ∃ (f : List Field) (kvs : List (Key × V)) (lk : List (List Key × V)) (r : List Int), σ = [some (.ref x), some (.ref y), some (.int many), some (.str (S (lastF f)))] ∧ m = r.length ∧ Kp [x, ln, tb] G H' ∧ H' tb = some (.dK kvs) ∧ H' ln = some (.dT lk) ∧
        KA (WordsAt (nw G H')) kvs (tabOf f) ∧ LensOk lk (tabOf f) ∧ Rdr K c H' x a d row r ∧ f.length + r.length ≤ 360 ∧ f.length ≤ many.toNat ∧ lk.length ≤ f.length * 360 ∧ (∀ v, lastF f < v → ∀ p ∈ f, p.1 < v) ∧
        pieceP re = (fieldsK ms (many.toNat - f.length) (lastF f) r).map fun p => ((ms, f ++ p.1), p.2),
        ⟨r2.length, [], [], [], r2, rfl, rfl, Kp.refl, tbG, lnG, .nil, (fun m f => rfl), R5, (by simp only [List.length_nil]; omega), Nat.zero_le _, Nat.zero_le _, (fun _ _ _ z => nomatch z), ep⟩, ?_⟩
    rintro mm σ H6 ⟨f, kvs, lk, r, rfl, rfl, k6, t6, l6, ka, lo, R6, hsz, hfl, hlk, hri, en⟩
    have htl : kvs.length = f.length := by
      have := Paired.length ka
      rwa [List.length_map] at this
    have nyx : y ∉ [x, ln, tb] := by simp [nxy.symm, hly.symm, hty.symm]
    have nqx : q ∉ [x, ln, tb] := by
      have h1 : q ≠ ln := ne_of qG lnG (by intro z; cases z)
      have h2 : q ≠ tb := ne_of qG tbG (by intro z; cases z)
      simp [qx, h1, h2]
    have y6 := k6 _ _ yG nyx
    have q6 := k6 _ _ qG nqx
    refine ⟨_, rfl, y, _, dy, _, _, rfl, y6, T.k_Piece, T.a_table, fsP_tb _ _ _, tb, _, rfl, t6, _, rfl, _, _, rfl, rfl, _, rfl, ite2 (fun e3 => ?_) (fun e3 => ?_)⟩
    · have e3' : (f.length : Int) < many := by
        have := of_decide_eq_true e3
        rwa [htl] at this
      obtain ⟨k, hk⟩ : ∃ k, many.toNat - f.length = k + 1 := ⟨many.toNat - f.length - 1, by omega⟩
      rw [hk] at en
      refine ⟨fun σ' H' => ∃ (g : Field) (r' : List Int) (dw : Addr), fieldR ms (lastF f) r = some (g, r') ∧ σ' = [some (.ref x), some (.ref y), some (.int many), some (.str (S g.1))] ∧ Kp [x, ln, tb] H6 H' ∧ Rdr K c H' x a d row r' ∧ H' tb = some (.dK (putK kvs (Sum.inr (S g.1)) (.ref dw))) ∧
          WordsAt (nw H6 H') dw g.2.2 ∧ H' ln = some (.dT (putLens (S g.1) (ms.zip g.2.1) lk)), ?_, ?_⟩
      · rintro σ' H7 ⟨g, r', dw, eg, rfl, k7, R7, t7, w7, l7⟩
        obtain ⟨o1, o2, o3⟩ := fieldR_ok eg
        have hr' : r'.length < r.length := by
          have h1 := fieldB_pos g
          have h2 := congrArg List.length o1
          rw [List.length_append] at h2
          omega
        have hnw : findA (tabOf f) g.1 = none := by
          refine findA_none fun p hp z => ?_
          obtain ⟨p', hp', rfl⟩ := List.mem_map.mp hp
          have := hri _ o2 p' hp'
          rw [show p'.1 = g.1 from z] at this
          exact nlt_irrefl _ this
        have hvn : valV kvs (Sum.inr (S g.1) : Key) = none := by
          rcases ka.get (f := g.1) with ⟨_, z⟩ | ⟨_, _, z, _⟩
          · exact z
          · rw [hnw] at z
            cases z
        rw [putK_new _ hvn] at t7
        refine ⟨r'.length, hr', f ++ [g], _, _, r', ?_, rfl, k6.trans k7, t7, l7, ?_, ?_, R7, ?_, ?_, ?_, ?_, ?_⟩
        · rw [lastF_snoc]
        · unfold tabOf
          rw [List.map_append]
          refine paired_snoc (ka.mono fun l ws z => z.same (nw_kp k7 inG)) ⟨rfl, dw, rfl, w7.same (nw_kpd k6 fun b hb' => ?_)⟩
          simp at hb'
          rcases hb' with z | z | z
          · obtain ⟨dx, h1⟩ := R6.ins
            exact ⟨_, z ▸ h1⟩
          · exact ⟨_, z ▸ l6⟩
          · exact ⟨_, z ▸ t6⟩
        · unfold tabOf
          rw [List.map_append]
          exact lensOk_step lo hnw o3.2.2.2.2.2.2 hmn o3.2.2.1
        · rw [List.length_append]
          show f.length + 1 + r'.length ≤ 360
          omega
        · rw [List.length_append]
          show f.length + 1 ≤ _
          omega
        · rw [List.length_append]
          have h1 := putLens_len (S g.1) (ms.zip g.2.1) lk
          rw [List.length_zip] at h1
          show _ ≤ (f.length + 1) * 360
          omega
        · intro v hv p hp
          rw [lastF_snoc] at hv
          rcases List.mem_append.mp hp with hp | hp
          · exact nlt_trans (hri _ o2 p hp) hv
          · have : p = g := by simpa using hp
            rw [this]
            exact hv
        · rw [show many.toNat - (f ++ [g]).length = k by rw [List.length_append]; show _ - (f.length + 1) = k; omega, lastF_snoc]
          exact fieldsK_step (j := fun z => (ms, z)) eg _ en
      · obtain ⟨dx, fs, hx, n1, n2, n3, n4, n5, n6, n7, n8, _⟩ := R6.noF
        refine ⟨_, rfl, x, dx, fs, rfl, hx, n8, _, rfl, _, rfl, x, a, d, y, dy, q, ln, tb, row, r, ms, lastF f, lk, kvs, rfl, R6, y6, q6, l6, t6, nxy, ndt, hmn, hml, by omega, by omega, fun g r' eg dw H7 k7 R7 t7 w7 l7 => ⟨g, r', dw, eg, rfl, k7, R7, t7, w7, l7⟩, fun eg H7 k7 => q2 ?_ H7 (up (k6.trans k7))⟩
        rw [en, fieldsK_bad eg]
        rfl
    · have e3' : ¬ (f.length : Int) < many := by
        have := of_decide_eq_false (Bool.eq_false_iff.mpr e3)
        rwa [htl] at this
      rw [show many.toNat - f.length = 0 by omega] at en
      refine ⟨_, rfl, q1 (ms, f) r ?_ _ _ (up k6) R6 ⟨y, rfl, dy, q, ln, tb, lk, y6, q6, l6, lo, kvs, t6, ka.mono fun l ws z => z.same nw_same⟩⟩
      rw [en]
      show some ((ms, f ++ []), r) = _
      rw [List.append_nil]
end
end FC
/-! W15: ByteReader.__init__, ended, read_piece. -/
namespace FC
open PySem PySem.Spec PyProof.Rows L2
abbrev sgT : Str := " !\"#$&'()*+,-./0123456789:;<=>?@ABCDEFGHIJKLMNOPQRSTUVWXYZ[\\]^_`abcdefghijklmnopqrstuvwxyz{|}~"
def sgs : List Nat := sgT.cps.toList
theorem sgs_ok : ∀ n ∈ sgs, 32 ≤ n ∧ n ≤ 126 ∧ n ≠ 37 := by decide +kernel
theorem sgs_all : ∀ n : Fin 127, 32 ≤ n.val → n.val ≠ 37 → n.val ∈ sgs := by decide +kernel
theorem sgs_nodup : sgs.Nodup := by decide +kernel
theorem sgs_len : sgs.length = 94 := by decide +kernel
def sgKvs (l : List Nat) : List (Key × V) := l.map fun (n : Nat) => ((Sum.inl (Int.ofNat n) : Key), V.str ⟨#[n]⟩)
theorem sgKvs_val (b : Int) : ∀ l : List Nat, valV (sgKvs l) (Sum.inl b : Key) = if 0 ≤ b ∧ b.toNat ∈ l then some (V.str ⟨#[b.toNat]⟩) else none
  | [] => by simp [sgKvs, valV]
  | n :: l => by
    show valV (((Sum.inl (Int.ofNat n) : Key), V.str ⟨#[n]⟩) :: sgKvs l) _ = _
    by_cases h : (n : Int) = b
    · rw [valV_pos (by rw [← h]; rfl), if_pos ⟨by omega, by rw [← h]; simp⟩]
      rw [← h]
      rfl
    · rw [valV_neg (fun z => h (Sum.inl.inj z)), sgKvs_val b l]
      by_cases h2 : 0 ≤ b ∧ b.toNat ∈ l
      · rw [if_pos h2, if_pos ⟨h2.1, List.mem_cons_of_mem _ h2.2⟩]
      · rw [if_neg h2, if_neg]
        rintro ⟨h3, h4⟩
        rcases List.mem_cons.mp h4 with z | z
        · exact h (by omega)
        · exact h2 ⟨h3, z⟩
theorem sgKvs_signs : SignsD (sgKvs sgs) := by
  intro b
  rw [sgKvs_val]
  have : (0 ≤ b ∧ b.toNat ∈ sgs) ↔ okB b := by
    unfold okB
    constructor
    · rintro ⟨h1, h2⟩
      have := sgs_ok _ h2
      omega
    · intro h
      exact ⟨by omega, sgs_all ⟨b.toNat, by omega⟩ (by show 32 ≤ b.toNat; omega) (by show b.toNat ≠ 37; omega)⟩
  by_cases h : okB b
  · rw [if_pos (this.mpr h), if_pos h]
  · rw [if_neg (fun z => h (this.mp z)), if_neg h]
theorem sgKvs_nodup : ((sgKvs sgs).map (·.1)).Nodup := by
  unfold sgKvs
  rw [List.map_map]
  refine List.Pairwise.map _ (fun a b hab z => hab ?_) sgs_nodup
  have z' : (Sum.inl (Int.ofNat a) : Key) = Sum.inl (Int.ofNat b) := z
  have : (a : Int) = (b : Int) := Sum.inl.inj z'
  omega
def spRInit (c : Cl) : Sp := fun vs H Q _ => ∃ x a dx : Addr, vs = [.ref x, .ref a] ∧ H x = some (.ins c.ByteReader dx []) ∧
  ∀ (d : Addr) H', Kp [x] H H' → H d = none → H' x = some (.ins c.ByteReader dx (fsR a 0 d)) → H' d = some (.dK (sgKvs sgs)) → Q .non H'
def spEnded (K : PySem.W.Frag) (c : Cl) : Sp := fun vs H Q E => ∃ (x a d : Addr) (row re : List Int) (told : Addr), vs = [.ref x, .ref told] ∧ Rdr K c H x a d row re ∧ (re = [] → Q (.ref told) H) ∧ (re ≠ [] → E (.ref c.NoBytes) none H)
def spRead (c : Cl) : Sp := fun vs H Q E => ∃ (a : Addr) (row : List Int), vs = [.ref a] ∧ H a = some (.lst (row.map V.int)) ∧ row.length ≤ 360 ∧
  (∀ ms fs, pieceR row = some (ms, fs) → ∀ y H', Same H H' → PceAt c H' y ms (tabOf fs) → Q (.ref y) H') ∧ (pieceR row = none → ∀ H', Same H H' → E (.ref c.NoBytes) none H')
section
variable {P : Program} {w : World} {K : PySem.W.Frag} {mg : Str → Option Value} {base : Heap} {c : Cl}
theorem ok_ByteReader_init (T : Txt K mg c) : GIn P w K mg base CX0 1 c.ByteReader ["self", "row"] (spRInit c) := by
  obtain ⟨f, fd, F, M, hb⟩ := T.d_ByteReader_init
  refine ⟨f, fd, M, hb, F.ok sc_ByteReader__init_ (fun vs H Q E h => ?_) (fun cdv A outer s H vs Q E hr h => ?_)⟩
  · obtain ⟨x, a, dx, rfl, _⟩ := h
    rfl
  · obtain ⟨x, a, dx, rfl, hx, q⟩ := h
    have nd := sc_ByteReader__init_.nd
    refine ⟨_, (pss_cons (ps_fld (pv 0) (pv 1) rfl)
      (pss_cons (ps_fld (pv 0) pe_int rfl)
      (pss_one (ps_fld (pv 0) (pe_callTy (call_dictP rfl) (by rfl) T.b_dict boot_dict (pa_cons (pe_lc (own := [("sign", 2)]) rfl nd (pi_str (pe_gstr (by rfl) T.g_SIGNS)) (blkOk_by (N := ["self", "row", "sign"]) (sc := defScope s_ByteReader__init_) (by decide +kernel)) (fun _ _ _ _ _ => (pg_name (i := 2) nd rfl (.inl rfl))) (fun _ _ _ _ _ => pts_nil) (fun _ _ _ _ _ => (pe_tup (pa_cons (pe_callB call_ord (by rfl) T.b_ord boot_ord (pa_cons (pv 2) pa_nil)) (pa_cons (pv 2) pa_nil))))) pa_nil)) rfl)))), ?_⟩
    refine ⟨_, rfl, _, rfl, x, c.ByteReader, dx, _, rfl, hx, T.k_ByteReader, T.a_row, (by show 0 < 1000; decide), ?_⟩
    refine ⟨_, rfl, x, c.ByteReader, dx, _, rfl, upd_same, T.k_ByteReader, T.a_at, (by show 1 < 1000; decide), ?_⟩
    refine ⟨_, rfl, fun D hD => ?_⟩
    have hDx : D ≠ x := fun z => by rw [z, upd_same] at hD; cases hD
    have hD0 : H D = none := by
      have := (free_ne hD).2
      exact (free_ne this).2
    refine lc_it walk_str (fun i H' => ∃ ts : List Addr, ts.length = i ∧ H' D = some (.lst (ts.map V.ref)) ∧ Paired (fun (t : Addr) (n : Nat) => H' t = some (.tup [.int (n : Int), .str ⟨#[n]⟩]) ∧ t ≠ D) ts (sgs.take i) ∧ Kp [D] (upd (upd (upd H x (.ins c.ByteReader dx (putF "row" (.ref a) []))) x (.ins c.ByteReader dx (putF "at" (.int 0) (putF "row" (.ref a) [])))) D (.lst [])) H') ⟨[], rfl, upd_same, .nil, Kp.refl⟩ (fun _ _ _ _ => trivial) ?_ ?_
    · rintro i v H1 H1' hi ⟨ts, l1, l2, l3, k1⟩ ⟨rfl, n, hn, rfl⟩
      have hn' : sgs[i]? = some n := by
        unfold sgs
        rw [Array.getElem?_toList]
        exact hn
      refine ⟨rfl, ?_⟩
      refine ⟨_, rfl, _, rfl, rfl, _, rfl, by show 2 ≤ sizeLine; decide, fun t ht => ?_⟩
      have ntD : t ≠ D := (ne_of_none l2 ht).symm
      refine ⟨_, upd_old l2 ht, ?_, ts ++ [t], by simp [l1], ?_, ?_, (k1.new ht).at (by simp)⟩
      · rw [List.length_map, l1]
        have h94 : i < 94 := by
          have := (List.getElem?_eq_some_iff.mp hn').1
          rwa [sgs_len] at this
        exact sl_lt (by omega)
      · rw [upd_same, List.map_append]
        rfl
      · rw [List.take_add_one, hn']
        refine paired_snoc (Paired.mapP l3 fun t' n' z => ⟨by rw [upd_ne z.2]; exact upd_old z.1 ht, z.2⟩) ⟨?_, ntD⟩
        rw [upd_ne ntD, upd_same]
        rfl
    · rintro H1 ⟨ts, l1, l2, l3, k1⟩
      have hl : sgs.take sgT.cps.size = sgs := by
        refine List.take_of_length_le ?_
        unfold sgs
        rw [Array.length_toList]
        exact Nat.le_refl _
      rw [hl] at l3
      have gen : ∀ (ts' : List Addr) (l : List Nat), Paired (fun (t : Addr) (n : Nat) => H1 t = some (.tup [.int (n : Int), .str ⟨#[n]⟩]) ∧ t ≠ D) ts' l → Paired (fun (p : Addr) (kv : Key × V) => SqT K H1 p [kV kv.1, kv.2]) ts' (sgKvs l) := by
        intro ts' l h
        induction h with
        | nil => exact .nil
        | cons h _ ih => exact .cons (SqT.of h.1) ih
      refine ⟨D, ts, sgKvs sgs, rfl, SqL.of l2, gen _ _ l3, fun d hd => ?_⟩
      rw [mergeK_nil sgKvs_nodup]
      have x1 : H1 x = some (.ins c.ByteReader dx (putF "at" (.int 0) (putF "row" (.ref a) []))) := k1 _ _ (by rw [upd_ne hDx.symm, upd_same]) (by simpa using hDx.symm)
      have ndx : d ≠ x := (ne_of_none x1 hd).symm
      have ndD : d ≠ D := (ne_of_none l2 hd).symm
      have kA : Kp [x] H H1 := fun b o hb' nb => by
        have nb' : b ≠ x := by simpa using nb
        have nbD := ne_of_none hb' hD0
        refine k1 b o ?_ (by simpa using nbD)
        rw [upd_ne nbD, upd_ne nb', upd_ne nb']
        exact hb'
      have hd0 : H d = none := kA.free hd (by simpa using ndx)
      refine ⟨_, rfl, x, c.ByteReader, dx, _, rfl, upd_old x1 hd, T.k_ByteReader, T.a_signs, (by show 2 < 1000; decide), ?_⟩
      refine q d _ ((kA.new hd).at (by simp)) hd0 upd_same ?_
      rw [upd_ne ndx, upd_same]
theorem ok_ended (T : Txt K mg c) : GMt P w K mg base (L2.CX P w) 2 c.ByteReader "ended" ["self", "told"] (spEnded K c) := by
  obtain ⟨f, fd, F, hm, hb⟩ := T.d_ended
  have g_sure : GMt P w K mg base (L2.CX P w) 1 c.ByteReader "sure" ["self", "good"] (spSure c) := ok_sure T
  refine ⟨f, fd, hm, hb, F.okX sc_ByteReader_ended (fun vs H Q E h => ?_) (fun cdv A outer s H vs Q E hr h => ?_)⟩
  · obtain ⟨x, a, d, row, re, told, rfl, _⟩ := h
    rfl
  · obtain ⟨x, a, d, row, re, told, rfl, ⟨⟨dx, hx⟩, hA, ⟨kvs, hd, hs⟩, suf, hl⟩, q1, q2⟩ := h
    have nd := sc_ByteReader_ended.nd
    refine ⟨_, (pss_cons (ps_expr (pe_gm (pv 0) T.k_ByteReader g_sure hr (passes_call (takes_of rfl rfl rfl rfl) (fun _ _ _ _ h => h)) (pa_cons (pe_cmpR op_eq (pe_fld (pv 0) rfl) (pe_callB call_len_seq (by rfl) T.b_len boot_len (pa_cons (pe_fld (pv 0) rfl) pa_nil)) (nomark _)) pa_nil)))
      (pss_one (ps_ret (pv 1)))), ?_⟩
    refine ⟨_, rfl, x, dx, _, rfl, hx, rfl, _, rfl, x, _, dx, _, _, rfl, hx, T.k_ByteReader, T.a_at, fsR_at _ _ _, _, rfl, x, _, dx, _, _, rfl, hx, T.k_ByteReader, T.a_row, fsR_row _ _ _, a, _, rfl, .inl (SqL.of hA), rfl, ?_⟩
    have hle := suf.length_le
    refine ⟨x, _, rfl, fun e => ?_, fun e => ?_⟩
    · have e' := V.int.inj (of_decide_eq_true e)
      rw [List.length_map] at e'
      unfold posR at e'
      exact ⟨_, rfl, q1 (List.length_eq_zero_iff.mp (by omega))⟩
    · have e' : ¬ posR row re = ((row.map V.int).length : Int) := fun z => of_decide_eq_false e (by rw [z])
      rw [List.length_map] at e'
      unfold posR at e'
      refine q2 fun z => e' ?_
      rw [z]
      simp
theorem ok_read_piece (T : Txt K mg c) : GFn P w K mg base (L2.CX P w) 9 "read_piece" ["row"] (spRead c) := by
  obtain ⟨f, fd, F, hm, hb⟩ := T.d_read_piece
  have g_ByteReader_init : GIn P w K mg base CX0 1 c.ByteReader ["self", "row"] (spRInit c) := ok_ByteReader_init T
  have g_ended : GMt P w K mg base (L2.CX P w) 2 c.ByteReader "ended" ["self", "told"] (spEnded K c) := ok_ended T
  have g_next_piece : GMt P w K mg base (L2.CX P w) 8 c.ByteReader "next_piece" ["self"] (spPiece K c) := ok_next_piece T
  refine ⟨f, fd, hm, F.kp, hb, F.okX sc_read_piece (fun vs H Q E h => ?_) (fun cdv A outer s H vs Q E hr h => ?_)⟩
  · obtain ⟨a, row, rfl, _⟩ := h
    rfl
  · obtain ⟨a, row, rfl, ha, hl, q1, q2⟩ := h
    have nd := sc_read_piece.nd
    refine ⟨_, (pss_cons (ps_set (i := 1) nd rfl (.inl rfl) (pe_gmake g_ByteReader_init hr (by rfl) T.c_ByteReader pass0 (pa_cons (pv 0) pa_nil)))
      (pss_one (ps_ret (pe_gm (pv 1) T.k_ByteReader g_ended hr (passes_call (takes_of rfl rfl rfl rfl) (fun _ _ _ _ h => h)) (pa_cons (pe_gm0 (pv 1) T.k_ByteReader g_next_piece hr (passes_call (takes_of rfl rfl rfl rfl) (fun _ _ _ _ h => h))) pa_nil))))), ?_⟩
    refine ⟨_, rfl, fun x dx hx0 hdx0 ndx => ⟨x, a, dx, rfl, upd_same, fun d H1 k1 hd0 hx1 hd1 => ⟨rfl, ?_⟩⟩⟩
    have s1 : Same H H1 := fun b o hb' => k1 b o (by rw [upd_ne (ne_of_none hb' hx0), upd_ne (ne_of_none hb' hdx0)]; exact hb') (by simpa using ne_of_none hb' hx0)
    have pos0 : posR row row = 0 := by unfold posR; rw [Nat.sub_self]; rfl
    have R1 : Rdr K c H1 x a d row row := ⟨⟨dx, by rw [pos0]; exact hx1⟩, s1 _ _ ha, ⟨_, hd1, sgKvs_signs⟩, List.suffix_refl _, hl⟩
    have sm : ∀ {H' : Hp}, Kp [x] H1 H' → Same H H' := fun k b o hb' => k b o (s1 b o hb') (by simpa using ne_of_none hb' hx0)
    obtain ⟨dx', fs, hx, n1, n2, n3, n4, n5, n6, n7, n8, n9, n10, n11⟩ := R1.noF
    refine ⟨_, rfl, x, dx', fs, rfl, hx, n11, _, rfl, x, dx', fs, rfl, hx, n10, x, a, d, row, row, rfl, R1, fun p r ep v H2 k2 R2 hv => ?_, fun ep H2 k2 => q2 (by rw [pieceR_eq, ep]) H2 (sm k2)⟩
    obtain ⟨y, rfl, hy⟩ := hv
    refine ⟨x, a, d, row, r, y, rfl, R2, fun er => q1 p.1 p.2 (by rw [pieceR_eq, ep]; exact if_pos er) y H2 (sm k2) hy, fun er => q2 (by rw [pieceR_eq, ep]; exact if_neg er) H2 (sm k2)⟩
end
end FC
/-! W16: number_bytes, text_bytes, places_bytes; the law's number_bytes, text_bytes. -/
namespace FC
open PySem PySem.Spec PyProof.Rows L2
theorem numB_lt {n : Nat} (h : n < 128) : numB n = [(n : Int)] := by
  unfold numB
  rw [if_pos h]
theorem numB_ge {n : Nat} (h : 128 ≤ n) : numB n = ((n % 128 + 128 : Nat) : Int) :: numB (n / 128) := by
  conv => lhs; unfold numB
  rw [if_neg (by omega)]
theorem placesB_app : ∀ (l : Int) (xs ys : List Int), placesB l (xs ++ ys) = placesB l xs ++ placesB (xs.getLast?.getD l) ys
  | _, [], _ => rfl
  | l, x :: xs, ys => by
    show numI (x - l) ++ placesB x (xs ++ ys) = (numI (x - l) ++ placesB x xs) ++ _
    rw [placesB_app x xs ys, List.getLast?_cons, List.append_assoc]
    rfl
theorem placesB_snoc (l : Int) (xs : List Int) (i : Nat) (x : Int) (h : xs[i]? = some x) : placesB l (xs.take (i + 1)) = placesB l (xs.take i) ++ numI (x - (xs.take i).getLast?.getD l) := by
  rw [List.take_add_one, h]
  show placesB l (xs.take i ++ [x]) = _
  rw [placesB_app]
  show _ ++ (numI _ ++ []) = _
  rw [List.append_nil]
theorem placesB_pre (l : Int) (xs : List Int) (i : Nat) : (placesB l (xs.take i)).length ≤ (placesB l xs).length := by
  conv => rhs; rw [← List.take_append_drop i xs, placesB_app]
  rw [List.length_append]
  omega
def Rises (xs : List Int) : Prop := (∀ x ∈ xs, 0 ≤ x) ∧ xs.Pairwise (· < ·)
theorem Rises.ge {xs : List Int} (h : Rises xs) {i : Nat} {x : Int} (e : xs[i]? = some x) : (xs.take i).getLast?.getD 0 ≤ x := by
  cases q : (xs.take i).getLast? with
  | none => exact h.1 x (List.mem_of_getElem? e)
  | some z =>
    have hz : z ∈ xs.take i := List.mem_of_getLast? q
    have hx : x ∈ xs.drop i := by
      refine List.mem_of_getElem? (i := 0) ?_
      rw [List.getElem?_drop]
      exact e
    have h2 := h.2
    rw [← List.take_append_drop i xs] at h2
    exact Int.le_of_lt ((List.pairwise_append.mp h2).2.2 z hz x hx)
theorem last_snoc {α : Type} (xs : List α) (i : Nat) (x : α) (h : xs[i]? = some x) : (xs.take (i + 1)).getLast? = some x := by
  rw [List.take_add_one, h]
  exact List.getLast?_concat
def spNumB : Sp := fun vs H Q _ => ∃ n : Int, vs = [.int n] ∧ 0 ≤ n ∧ (numI n).length ≤ 1000 ∧ ∀ H' p, Same H H' → H p = none → H' p = some (.lst ((numI n).map V.int)) → Q (.ref p) H'
def spTextB : Sp := fun vs H Q _ => ∃ w : List Nat, vs = [.str (S w)] ∧ (∀ ch ∈ w, okB (ch : Int)) ∧ (textB w).length ≤ 1000 ∧ ∀ H' p, Same H H' → H p = none → H' p = some (.lst ((textB w).map V.int)) → Q (.ref p) H'
def spPlacesB : Sp := fun vs H Q _ => ∃ (l : Addr) (xs : List Int), vs = [.ref l] ∧ H l = some (.lst (xs.map V.int)) ∧ Rises xs ∧ (placesB 0 xs).length ≤ 1000 ∧ ∀ H' p, Same H H' → H p = none → H' p = some (.lst ((placesB 0 xs).map V.int)) → Q (.ref p) H'
section
variable {P : Program} {w : World} {K : PySem.W.Frag} {mg : Str → Option Value} {base : Heap} {c : Cl}
theorem ok_number_bytes (T : Txt K mg c) : GFn P w K mg base CX0 1 "number_bytes" ["number"] spNumB := by
  obtain ⟨f, fd, F, hm, hb⟩ := T.d_number_bytes
  refine ⟨f, fd, hm, F.kp, hb, F.ok sc_number_bytes (fun vs H Q E h => ?_) (fun cdv A outer s H vs Q E hr h => ?_)⟩
  · obtain ⟨n, rfl, _⟩ := h
    rfl
  · obtain ⟨n, rfl, hn, hl, q⟩ := h
    have nd := sc_number_bytes.nd
    refine ⟨_, (pss_cons (ps_set (i := 1) nd rfl (.inl rfl) (pe_lst pa_nil))
      (pss_cons (ps_while PassesOwn.never (pt_cmpR op_ge (pv 0) pe_int (nomark _))
        (pss_cons (ps_expr (pe_bm PySem.F.plainAttrs_list PySem.F.slot_list_append PySem.F.type_list_append mt_append (pv 1) (pa_cons (pe_op op_add (pe_op op_mod (pv 0) pe_int) pe_int) pa_nil)))
        (pss_one (ps_set (i := 0) nd rfl (.inl rfl) (pe_op op_fdiv (pv 0) pe_int)))))
      (pss_one (ps_ret (pe_op op_cat (pv 1) (pe_lst (pa_cons (pv 0) pa_nil))))))), ?_⟩
    refine ⟨sl_line (Nat.zero_le _), fun l hl0 => ?_⟩
    refine ⟨fun m σ H' => ∃ (f : List Int) (k : Int), σ = [some (.int k), some (.ref l)] ∧ m = k.toNat ∧ 0 ≤ k ∧ numI n = f ++ numI k ∧ Same H H' ∧ H' l = some (.lst (f.map V.int)), ⟨n.toNat, [], n, rfl, rfl, hn, rfl, Same.upd_new hl0, upd_same⟩, ?_⟩
    rintro m σ H2 ⟨f, k, rfl, rfl, h0, en, s2, h2⟩
    have hf : f.length ≤ 1000 := by
      rw [en, List.length_append] at hl
      omega
    refine ⟨_, rfl, _, _, rfl, rfl, _, rfl, ite2 (fun e1 => ?_) (fun e1 => ?_)⟩
    · have e1' : 128 ≤ k := of_decide_eq_true e1
      have ek : numI k = (k % 128 + 128) :: numI (k / 128) := by
        unfold numI
        rw [numB_ge (by omega)]
        have h1 : ((k.toNat % 128 + 128 : Nat) : Int) = k % 128 + 128 := by omega
        have h2 : (k / 128).toNat = k.toNat / 128 := by omega
        rw [h1, h2]
      refine ⟨fun σ' H' => σ' = [some (.int (k / 128)), some (.ref l)] ∧ Same H H' ∧ H' l = some (.lst ((f ++ [k % 128 + 128]).map V.int)), ?_, ?_⟩
      · rintro σ' H' ⟨rfl, s3, h3⟩
        exact ⟨(k / 128).toNat, by omega, f ++ [k % 128 + 128], k / 128, rfl, rfl, by omega, by rw [en, ek, List.append_assoc]; rfl, s3, h3⟩
      · refine ⟨_, rfl, .inl ⟨rfl, _, SqL.of h2⟩, _, rfl, _, _, rfl, rfl, (by show (0 : Int) < 128; decide), _, _, rfl, rfl, l, _, _, rfl, rfl, h2, ?_, ?_⟩
        · rw [List.length_map]
          exact sl_lt (by omega)
        · refine ⟨_, rfl, _, _, rfl, rfl, ⟨(by decide : (0 : Int) < 128), (by decide : (128 : Int) < 1073741824)⟩, rfl, Same.mut s2 hl0, ?_⟩
          rw [upd_same, List.map_append]
          rfl
    · have e1' : ¬ 128 ≤ k := of_decide_eq_false (Bool.eq_false_iff.mpr e1)
      have ek : numI k = [k] := by
        unfold numI
        rw [numB_lt (by omega), Int.toNat_of_nonneg h0]
      refine ⟨_, rfl, _, rfl, sl_line (by show 1 ≤ 100000; decide), fun p hp => ⟨l, p, _, _, rfl, rfl, upd_old h2 hp, upd_same, ?_, fun r hr' => ?_⟩⟩
      · rw [List.length_map]
        exact sl_line (by show f.length + 1 ≤ _; omega)
      · have hr2 := (free_ne hr').2
        refine q _ r (Same.new (Same.new s2 hp) hr') (s2.free hr2) ?_
        rw [upd_same, en, ek, List.map_append]
        rfl
theorem ok__law_number_bytes (T : Txt K mg c) : GFn P w K mg base CX0 1 "_law_number_bytes" ["_law_number"] spNumB := by
  obtain ⟨f, fd, F, hm, hb⟩ := T.d__law_number_bytes
  refine ⟨f, fd, hm, F.kp, hb, F.ok sc__law_number_bytes (fun vs H Q E h => ?_) (fun cdv A outer s H vs Q E hr h => ?_)⟩
  · obtain ⟨n, rfl, _⟩ := h
    rfl
  · obtain ⟨n, rfl, hn, hl, q⟩ := h
    have nd := sc__law_number_bytes.nd
    refine ⟨_, (pss_cons (ps_set (i := 1) nd rfl (.inl rfl) (pe_lst pa_nil))
      (pss_cons (ps_while PassesOwn.never (pt_cmpR op_gt (pv 0) pe_int (nomark _))
        (pss_cons (ps_expr (pe_bm PySem.F.plainAttrs_list PySem.F.slot_list_append PySem.F.type_list_append mt_append (pv 1) (pa_cons (pe_op op_add pe_int (pe_op op_mod (pv 0) pe_int)) pa_nil)))
        (pss_one (ps_set (i := 0) nd rfl (.inl rfl) (pe_op op_fdiv (pv 0) pe_int)))))
      (pss_cons (ps_expr (pe_bm PySem.F.plainAttrs_list PySem.F.slot_list_append PySem.F.type_list_append mt_append (pv 1) (pa_cons (pv 0) pa_nil)))
      (pss_one (ps_ret (pv 1)))))), ?_⟩
    refine ⟨sl_line (Nat.zero_le _), fun l hl0 => ?_⟩
    refine ⟨fun m σ H' => ∃ (f : List Int) (k : Int), σ = [some (.int k), some (.ref l)] ∧ m = k.toNat ∧ 0 ≤ k ∧ numI n = f ++ numI k ∧ Same H H' ∧ H' l = some (.lst (f.map V.int)), ⟨n.toNat, [], n, rfl, rfl, hn, rfl, Same.upd_new hl0, upd_same⟩, ?_⟩
    rintro m σ H2 ⟨f, k, rfl, rfl, h0, en, s2, h2⟩
    have hf : f.length ≤ 1000 := by
      rw [en, List.length_append] at hl
      omega
    refine ⟨_, rfl, _, _, rfl, rfl, _, rfl, ite2 (fun e1 => ?_) (fun e1 => ?_)⟩
    · have e1' : 127 < k := of_decide_eq_true e1
      have ek : numI k = (128 + k % 128) :: numI (k / 128) := by
        unfold numI
        rw [numB_ge (by omega)]
        have h1 : ((k.toNat % 128 + 128 : Nat) : Int) = 128 + k % 128 := by omega
        have h2 : (k / 128).toNat = k.toNat / 128 := by omega
        rw [h1, h2]
      refine ⟨fun σ' H' => σ' = [some (.int (k / 128)), some (.ref l)] ∧ Same H H' ∧ H' l = some (.lst ((f ++ [128 + k % 128]).map V.int)), ?_, ?_⟩
      · rintro σ' H' ⟨rfl, s3, h3⟩
        exact ⟨(k / 128).toNat, by omega, f ++ [128 + k % 128], k / 128, rfl, rfl, by omega, by rw [en, ek, List.append_assoc]; rfl, s3, h3⟩
      · refine ⟨_, rfl, .inl ⟨rfl, _, SqL.of h2⟩, _, rfl, _, _, rfl, rfl, (by show (0 : Int) < 128; decide), _, _, rfl, rfl, l, _, _, rfl, rfl, h2, ?_, ?_⟩
        · rw [List.length_map]
          exact sl_lt (by omega)
        · refine ⟨_, rfl, _, _, rfl, rfl, ⟨(by decide : (0 : Int) < 128), (by decide : (128 : Int) < 1073741824)⟩, rfl, Same.mut s2 hl0, ?_⟩
          rw [upd_same, List.map_append]
          rfl
    · have e1' : ¬ 127 < k := of_decide_eq_false (Bool.eq_false_iff.mpr e1)
      have ek : numI k = [k] := by
        unfold numI
        rw [numB_lt (by omega), Int.toNat_of_nonneg h0]
      refine ⟨_, rfl, .inl ⟨rfl, _, SqL.of h2⟩, _, rfl, l, _, _, rfl, rfl, h2, ?_, ?_⟩
      · rw [List.length_map]
        exact sl_lt (by omega)
      · refine ⟨_, rfl, q _ l (Same.mut s2 hl0) hl0 ?_⟩
        rw [upd_same, en, ek, List.map_append]
        rfl
theorem ok_text_bytes (T : Txt K mg c) : GFn P w K mg base CX0 2 "text_bytes" ["text"] spTextB := by
  obtain ⟨f, fd, F, hm, hb⟩ := T.d_text_bytes
  have g_number_bytes : GFn P w K mg base CX0 1 "number_bytes" ["number"] spNumB := ok_number_bytes T
  refine ⟨f, fd, hm, F.kp, hb, F.ok sc_text_bytes (fun vs H Q E h => ?_) (fun cdv A outer s H vs Q E hr h => ?_)⟩
  · obtain ⟨w, rfl, _⟩ := h
    rfl
  · obtain ⟨wd, rfl, ho, hl, q⟩ := h
    have nd := sc_text_bytes.nd
    refine ⟨_, (pss_one (ps_ret (pe_op op_cat (pe_g g_number_bytes hr (by rfl) pass0 (pa_cons (pe_callB call_len_str (by rfl) T.b_len boot_len (pa_cons (pv 0) pa_nil)) pa_nil)) (pe_lc (own := [("sign", 1)]) rfl nd (pi_str (pv 0)) (blkOk_by (N := ["text", "sign"]) (sc := defScope s_text_bytes) (by decide +kernel)) (fun _ _ _ _ _ => (pg_name (i := 1) nd rfl (.inl rfl))) (fun _ _ _ _ _ => pts_nil) (fun _ _ _ _ _ => (pe_callB call_ord (by rfl) T.b_ord boot_ord (pa_cons (pv 1) pa_nil))))))), ?_⟩
    have hz : (S wd).length = wd.length := List.size_toArray
    have hcl : (textB wd).length = (numB wd.length).length + wd.length := by
      unfold textB lenI codes
      rw [List.length_append, List.length_map]
    have hi : numI ((S wd).length : Int) = numB wd.length := by
      unfold numI
      rw [hz]
      rfl
    refine ⟨_, rfl, S wd, rfl, sl_line (by rw [hz]; omega), _, rfl, by omega, by rw [hi]; omega, fun H1 p s1 hp0 hp => ?_⟩
    rw [hi] at hp
    refine ⟨_, rfl, _, rfl, fun D hD => lc_strMap (z := S wd) (fun n => V.int (n : Int)) (by rw [hz]; omega) (fun _ => rfl) (fun n H' Q' hq => ⟨_, rfl, _, rfl, rfl, hq⟩) ?_⟩
    refine ⟨p, D, _, _, rfl, rfl, upd_old hp hD, upd_same, ?_, fun r hr' => ?_⟩
    · rw [List.length_map, List.length_map]
      exact sl_line (by show (numB wd.length).length + wd.length ≤ 100000; omega)
    · have hr2 := (free_ne hr').2
      refine q _ r (Same.new (Same.new s1 hD) hr') (s1.free hr2) ?_
      rw [upd_same]
      show some (HO.lst ((numB wd.length).map V.int ++ wd.map fun (n : Nat) => V.int (Int.ofNat n))) = some (HO.lst ((numB wd.length ++ wd.map Int.ofNat).map V.int))
      rw [List.map_append, List.map_map]
      rfl
end
end FC
/-! W17: the law's signs, text_bytes; places_bytes, postings_bytes, the law's postings_bytes. -/
namespace FC
open PySem PySem.Spec PyProof.Rows L2
def sgC (n : Nat) : Bool := match Builtin.Str.occurrences sgT ⟨#[n]⟩ 0 sgT.length 1 with
  | i :: _ => decide (32 + i + (if 4 < i then 1 else 0) = n)
  | [] => false
theorem sg_chk : sgs.all sgC = true := by decide +kernel
theorem sg_ix {n : Nat} (h : n ∈ sgs) : ∃ i rest, Builtin.Str.occurrences sgT ⟨#[n]⟩ 0 sgT.length 1 = i :: rest ∧ 32 + i + (if 4 < i then 1 else 0) = n := by
  have h1 := List.all_eq_true.mp sg_chk n h
  unfold sgC at h1
  split at h1
  · rename_i i rest e
    exact ⟨i, rest, e, of_decide_eq_true h1⟩
  · cases h1
theorem okB_sg {n : Nat} (h : okB (n : Int)) : n ∈ sgs := by
  unfold okB at h
  exact sgs_all ⟨n, by omega⟩ (by show 32 ≤ n; omega) (by show n ≠ 37; omega)
def spSigns : Sp := fun vs H Q _ => vs = [] ∧ ∀ H', Same H H' → Q (.str sgT) H'
def spPostsB : Sp := fun vs H Q _ => ∃ (l : Addr) (ps : Posts), vs = [.ref l] ∧ PostsAt H l ps ∧ PostsOk ps ∧ (postsB ps).length ≤ 1000 ∧ ∀ H' p, Same H H' → H p = none → H' p = some (.lst ((postsB ps).map V.int)) → Q (.ref p) H'
theorem lastM_take {ps : Posts} {i : Nat} {p : Int × List Int} (h : ps[i]? = some p) : (lastM (ps.take (i + 1))).getD 0 = p.1 := by
  unfold lastM
  rw [last_snoc _ _ _ h]
  rfl
theorem postsKB_app : ∀ (l : Int) (xs ys : Posts), postsKB l (xs ++ ys) = postsKB l xs ++ postsKB ((xs.getLast?.map (·.1)).getD l) ys
  | _, [], _ => rfl
  | l, (m, x) :: xs, ys => by
    show numI (m - l) ++ (lenI x ++ (placesB 0 x ++ postsKB m (xs ++ ys))) = (numI (m - l) ++ (lenI x ++ (placesB 0 x ++ postsKB m xs))) ++ _
    have e : (((m, x) :: xs).getLast?.map (·.1)).getD l = (xs.getLast?.map (·.1)).getD m := by
      rw [List.getLast?_cons]
      cases xs.getLast? <;> rfl
    rw [postsKB_app m xs ys, e]
    simp only [List.append_assoc]
theorem postsKB_snoc (ps : Posts) (i : Nat) (p : Int × List Int) (h : ps[i]? = some p) : postsKB 0 (ps.take (i + 1)) = postsKB 0 (ps.take i) ++ (numI (p.1 - (lastM (ps.take i)).getD 0) ++ (lenI p.2 ++ placesB 0 p.2)) := by
  rw [List.take_add_one, h]
  show postsKB 0 (ps.take i ++ [p]) = _
  rw [postsKB_app]
  show _ ++ (numI _ ++ (lenI _ ++ (placesB 0 _ ++ []))) = _
  rw [List.append_nil]
  rfl
theorem postsKB_pre (ps : Posts) (i : Nat) : (postsKB 0 (ps.take i)).length ≤ (postsKB 0 ps).length := by
  conv => rhs; rw [← List.take_append_drop i ps, postsKB_app]
  rw [List.length_append]
  omega
theorem PostsOk.at {ps : Posts} (h : PostsOk ps) {i : Nat} {p : Int × List Int} (e : ps[i]? = some p) : (lastM (ps.take i)).getD 0 ≤ p.1 ∧ Rises p.2 := by
  have hp := h.1 p (List.mem_of_getElem? e)
  refine ⟨?_, hp.2.2.1, hp.2.2.2⟩
  unfold lastM
  cases q : (ps.take i).getLast? with
  | none => exact hp.1
  | some z =>
    have hz : z ∈ ps.take i := List.mem_of_getLast? q
    have hx : p ∈ ps.drop i := by
      refine List.mem_of_getElem? (i := 0) ?_
      rw [List.getElem?_drop]
      exact e
    have h2 := h.2
    rw [← List.take_append_drop i ps] at h2
    exact Int.le_of_lt ((List.pairwise_append.mp h2).2.2 z hz p hx)
section
variable {P : Program} {w : World} {K : PySem.W.Frag} {mg : Str → Option Value} {base : Heap} {c : Cl}
theorem ok__law_signs (T : Txt K mg c) : GFn P w K mg base CX0 1 "_law_signs" [] spSigns := by
  obtain ⟨f, fd, F, hm, hb⟩ := T.d__law_signs
  refine ⟨f, fd, hm, F.kp, hb, F.ok sc__law_signs (fun vs H Q E h => ?_) (fun cdv A outer s H vs Q E hr h => ?_)⟩
  · obtain ⟨rfl, _⟩ := h
    rfl
  · obtain ⟨rfl, q⟩ := h
    have nd := sc__law_signs.nd
    refine ⟨_, (pss_one (ps_ret pe_str)), ?_⟩
    exact q H (Same.refl _)
theorem ok__law_text_bytes (T : Txt K mg c) : GFn P w K mg base CX0 2 "_law_text_bytes" ["_law_text"] spTextB := by
  obtain ⟨f, fd, F, hm, hb⟩ := T.d__law_text_bytes
  have g__law_number_bytes : GFn P w K mg base CX0 1 "_law_number_bytes" ["_law_number"] spNumB := ok__law_number_bytes T
  have g__law_signs : GFn P w K mg base CX0 1 "_law_signs" [] spSigns := ok__law_signs T
  refine ⟨f, fd, hm, F.kp, hb, F.ok sc__law_text_bytes (fun vs H Q E h => ?_) (fun cdv A outer s H vs Q E hr h => ?_)⟩
  · obtain ⟨w, rfl, _⟩ := h
    rfl
  · obtain ⟨wd, rfl, ho, hl, q⟩ := h
    have nd := sc__law_text_bytes.nd
    refine ⟨_, (pss_cons (ps_set (i := 1) nd rfl (.inl rfl) (pe_g g__law_number_bytes hr (by rfl) pass0 (pa_cons (pe_callB call_len_str (by rfl) T.b_len boot_len (pa_cons (pv 0) pa_nil)) pa_nil)))
      (pss_cons (ps_for PassesOwn.never rfl (pi_str (pv 0)) (pg_name (i := 2) nd rfl (.inl rfl))
        (pss_cons (ps_set (i := 3) nd rfl (.inl rfl) (pe_m1 PySem.F.slot_str_index PySem.F.type_str_index mt_sindex (pe_g0 g__law_signs hr (by rfl) pass0) (pv 2)))
        (pss_one (ps_expr (pe_bm PySem.F.plainAttrs_list PySem.F.slot_list_append PySem.F.type_list_append mt_append (pv 1) (pa_cons (pe_op op_add (pe_op op_add pe_int (pv 3)) (pe_callTy call_int1 (by rfl) T.b_int boot_int (pa_cons (pe_cmpR op_gt (pv 3) pe_int (nomark _)) pa_nil))) pa_nil))))))
      (pss_one (ps_ret (pv 1))))), ?_⟩
    have hz : (S wd).length = wd.length := List.size_toArray
    have hcl : (textB wd).length = (numB wd.length).length + wd.length := by
      unfold textB lenI codes
      rw [List.length_append, List.length_map]
    have hi : numI ((S wd).length : Int) = numB wd.length := by
      unfold numI
      rw [hz]
      rfl
    refine ⟨_, rfl, S wd, rfl, sl_line (by rw [hz]; omega), _, rfl, by omega, by rw [hi]; omega, fun H1 p s1 hp0 hp => ?_⟩
    rw [hi] at hp
    refine ⟨_, rfl, _, rfl, for_it walk_str (fun i σ H' => ∃ y2 y3, σ = [some (.str (S wd)), some (.ref p), y2, y3] ∧ H' p = some (.lst ((numB wd.length ++ codes (wd.take i)).map V.int)) ∧ Same H H') ⟨none, none, rfl, by rw [hp]; show _ = some (HO.lst ((numB wd.length ++ []).map V.int)); rw [List.append_nil], s1⟩ (fun _ _ _ _ _ => trivial) ?_ ?_⟩
    · rintro i v σ H2 H2' hlt ⟨y2, y3, rfl, h2, s2⟩ ⟨rfl, n, hn, rfl⟩
      have hn' : wd[i]? = some n := by simpa using hn
      obtain ⟨j, rest, e1, e2⟩ := sg_ix (okB_sg (ho n (List.mem_of_getElem? hn')))
      refine ⟨rfl, fun H3 s3 => ⟨⟨_, rfl⟩, _, rfl, sgT, ⟨#[n]⟩, j, rest, rfl, rfl, e1, ?_⟩⟩
      have h3 := s3 _ _ h2
      have code : (32 : Int) + (j : Int) + (if decide ((4 : Int) < (j : Int)) then 1 else 0) = (n : Int) := by
        by_cases h4 : 4 < j
        · rw [if_pos h4] at e2
          rw [if_pos (decide_eq_true (by omega))]
          omega
        · rw [if_neg h4] at e2
          rw [if_neg (by simp; omega)]
          omega
      refine ⟨_, rfl, .inl ⟨rfl, _, SqL.of h3⟩, _, rfl, _, _, rfl, rfl, _, rfl, _, _, rfl, rfl, .inr ⟨_, rfl, _, _, rfl, rfl, p, _, _, rfl, rfl, h3, ?_, _, _, rfl, ?_, Same.mut (s2.trans s3) hp0⟩⟩
      · have := List.length_take_le' i wd
        rw [List.length_map, List.length_append, List.length_map]
        exact sl_lt (by omega)
      · rw [upd_same]
        show some (HO.lst (_ ++ [V.int ((32 : Int) + (j : Int) + (if decide ((4 : Int) < (j : Int)) then 1 else 0))])) = _
        rw [code, List.take_add_one, hn']
        unfold codes
        simp only [List.map_append, List.append_assoc]
        rfl
    · rintro σ H2 ⟨y2, y3, rfl, h2, s2⟩
      refine ⟨_, rfl, q H2 p s2 hp0 ?_⟩
      rw [h2]
      show some (HO.lst ((numB wd.length ++ codes (wd.take (S wd).length)).map V.int)) = _
      rw [hz, List.take_length]
      rfl
theorem ok_places_bytes (T : Txt K mg c) : GFn P w K mg base CX0 2 "places_bytes" ["places"] spPlacesB := by
  obtain ⟨f, fd, F, hm, hb⟩ := T.d_places_bytes
  have g_number_bytes : GFn P w K mg base CX0 1 "number_bytes" ["number"] spNumB := ok_number_bytes T
  refine ⟨f, fd, hm, F.kp, hb, F.ok sc_places_bytes (fun vs H Q E h => ?_) (fun cdv A outer s H vs Q E hr h => ?_)⟩
  · obtain ⟨l, xs, rfl, _⟩ := h
    rfl
  · obtain ⟨l0, xs, rfl, hl, hri, hsz, q⟩ := h
    have nd := sc_places_bytes.nd
    refine ⟨_, (pss_cons (ps_set (i := 1) nd rfl (.inl rfl) (pe_lst pa_nil))
      (pss_cons (ps_set (i := 2) nd rfl (.inl rfl) pe_int)
      (pss_cons (ps_for PassesOwn.never rfl (pi_list (pv 0)) (pg_name (i := 3) nd rfl (.inl rfl))
        (pss_cons (ps_expr (pe_bm PySem.F.plainAttrs_list PySem.F.slot_list_extend PySem.F.type_list_extend mt_extend (pv 1) (pa_cons (pe_g g_number_bytes hr (by rfl) pass0 (pa_cons (pe_op op_sub (pv 3) (pv 2)) pa_nil)) pa_nil)))
        (pss_one (ps_set (i := 2) nd rfl (.inl rfl) (pv 3)))))
      (pss_one (ps_ret (pv 1)))))), ?_⟩
    refine ⟨sl_line (Nat.zero_le _), fun l hl0 => ?_⟩
    refine ⟨_, rfl, l0, rfl, ⟨_, SqL.of (upd_old hl hl0)⟩, for_list (xs := xs.map V.int) (fun i σ H' => ∃ y3, σ = [some (.ref l0), some (.ref l), some (.int ((xs.take i).getLast?.getD 0)), y3] ∧ H' l = some (.lst ((placesB 0 (xs.take i)).map V.int)) ∧ Same H H') ⟨none, rfl, upd_same, Same.upd_new hl0⟩ (fun i σ H' _ ⟨_, _, _, s⟩ => SqL.of (s _ _ hl)) ?_ ?_⟩
    · rintro i v σ H2 hv ⟨y3, rfl, h2, s2⟩
      rw [List.getElem?_map] at hv
      cases ex : xs[i]? with
      | none => rw [ex] at hv; cases hv
      | some x =>
        rw [ex] at hv
        cases Option.some.inj hv
        have hge := hri.ge ex
        have hpre := placesB_pre 0 xs (i + 1)
        rw [placesB_snoc 0 xs i x ex, List.length_append] at hpre
        refine ⟨_, rfl, .inl ⟨rfl, _, SqL.of h2⟩, _, rfl, _, rfl, _, _, rfl, rfl, _, rfl, by omega, by omega, fun H3 p s3 hp0 hp => ⟨l, p, _, _, rfl, rfl, s3 _ _ h2, hp, ?_, _, rfl, some (.int x), ?_, ?_, Same.mut (s2.trans s3) hl0⟩⟩
        · rw [List.length_map, List.length_map]
          exact sl_line (by omega)
        · rw [last_snoc xs i x ex]
          rfl
        · rw [upd_same, placesB_snoc 0 xs i x ex, List.map_append]
    · rintro σ H2 ⟨y3, rfl, h2, s2⟩
      rw [List.length_map, List.take_length] at h2
      exact ⟨_, rfl, q H2 l s2 hl0 h2⟩
end
end FC
/-! W18: postings_bytes, the law's postings_bytes. -/
namespace FC
open PySem PySem.Spec PyProof.Rows L2
section
variable {P : Program} {w : World} {K : PySem.W.Frag} {mg : Str → Option Value} {base : Heap} {c : Cl}
theorem ok_postings_bytes (T : Txt K mg c) : GFn P w K mg base CX0 3 "postings_bytes" ["postings"] spPostsB := by
  obtain ⟨f, fd, F, hm, hb⟩ := T.d_postings_bytes
  have g_number_bytes : GFn P w K mg base CX0 1 "number_bytes" ["number"] spNumB := ok_number_bytes T
  have g_places_bytes : GFn P w K mg base CX0 2 "places_bytes" ["places"] spPlacesB := ok_places_bytes T
  refine ⟨f, fd, hm, F.kp, hb, F.ok sc_postings_bytes (fun vs H Q E h => ?_) (fun cdv A outer s H vs Q E hr h => ?_)⟩
  · obtain ⟨l, ps, rfl, _⟩ := h
    rfl
  · obtain ⟨l0, ps, rfl, ⟨ts, hl, it⟩, hok, hsz, q⟩ := h
    have nd := sc_postings_bytes.nd
    refine ⟨_, (pss_cons (ps_set (i := 1) nd rfl (.inl rfl) (pe_g g_number_bytes hr (by rfl) pass0 (pa_cons (pe_callB call_len_seq (by rfl) T.b_len boot_len (pa_cons (pv 0) pa_nil)) pa_nil)))
      (pss_cons (ps_set (i := 2) nd rfl (.inl rfl) pe_int)
      (pss_cons (ps_for PassesOwn.never rfl (pi_list (pv 0)) (pg_tup rfl (pgs_cons (pg_name (i := 3) nd rfl (.inl rfl)) (pgs_cons (pg_name (i := 4) nd rfl (.inl rfl)) pgs_nil)))
        (pss_cons (ps_expr (pe_bm PySem.F.plainAttrs_list PySem.F.slot_list_extend PySem.F.type_list_extend mt_extend (pv 1) (pa_cons (pe_op op_cat (pe_op op_cat (pe_g g_number_bytes hr (by rfl) pass0 (pa_cons (pe_op op_sub (pv 3) (pv 2)) pa_nil)) (pe_g g_number_bytes hr (by rfl) pass0 (pa_cons (pe_callB call_len_seq (by rfl) T.b_len boot_len (pa_cons (pv 4) pa_nil)) pa_nil))) (pe_g g_places_bytes hr (by rfl) pass0 (pa_cons (pv 4) pa_nil))) pa_nil)))
        (pss_one (ps_set (i := 2) nd rfl (.inl rfl) (pv 3)))))
      (pss_one (ps_ret (pv 1)))))), ?_⟩
    have hln : ts.length = ps.length := Paired.length it
    have hsz' : (numB ps.length).length + (postsKB 0 ps).length ≤ 1000 := by
      unfold postsB lenI at hsz
      rwa [List.length_append] at hsz
    have ni : ∀ n : Nat, numI ((n : Nat) : Int) = numB n := fun n => rfl
    refine ⟨_, rfl, l0, _, rfl, .inl (SqL.of hl), _, rfl, by omega, ?_, fun H1 l s1 hl0 h1 => ?_⟩
    · rw [ni, List.length_map, hln]
      omega
    rw [ni, List.length_map, hln] at h1
    refine ⟨_, rfl, l0, rfl, ⟨_, SqL.of (s1 _ _ hl)⟩, for_list (xs := ts.map fun t => V.ref t.1) (fun i σ H' => ∃ y3 y4, σ = [some (.ref l0), some (.ref l), some (.int ((lastM (ps.take i)).getD 0)), y3, y4] ∧ H' l = some (.lst ((lenI ps ++ postsKB 0 (ps.take i)).map V.int)) ∧ Same H H') ⟨none, none, rfl, by rw [h1]; show _ = some (HO.lst ((numB ps.length ++ []).map V.int)); rw [List.append_nil], s1⟩ (fun i σ H' _ ⟨_, _, _, _, s⟩ => SqL.of (s _ _ hl)) ?_ ?_⟩
    · rintro i v σ H2 hv ⟨y3, y4, rfl, h2, s2⟩
      rw [List.getElem?_map] at hv
      cases et : ts[i]? with
      | none => rw [et] at hv; cases hv
      | some t =>
        rw [et] at hv
        cases Option.some.inj hv
        obtain ⟨p, hp, a1, a2⟩ := it.at et
        obtain ⟨hge, hri⟩ := hok.at hp
        have hpre := postsKB_pre ps (i + 1)
        rw [postsKB_snoc ps i p hp] at hpre
        unfold lenI at hpre
        simp only [List.length_append] at hpre
        refine ⟨t.1, [.int p.1, .ref t.2], rfl, SqT.of (s2 _ _ a1), rfl, .int p.1, [.ref t.2], rfl, .ref t.2, [], rfl, rfl, ?_⟩
        refine ⟨_, rfl, .inl ⟨rfl, _, SqL.of h2⟩, _, rfl, _, rfl, _, _, rfl, rfl, _, rfl, by omega, by omega, fun H3 p1 s3 hq1 hp1 => ?_⟩
        refine ⟨_, rfl, t.2, _, rfl, .inl (SqL.of (s3 _ _ (s2 _ _ a2))), _, rfl, by omega, by rw [ni, List.length_map]; omega, fun H4 p2 s4 hq2 hp2 => ?_⟩
        rw [ni, List.length_map] at hp2
        refine ⟨p1, p2, _, _, rfl, rfl, s4 _ _ hp1, hp2, ?_, fun r1 hr1 => ?_⟩
        · rw [List.length_map, List.length_map]
          exact sl_line (by omega)
        have s14 : Same H (upd H4 r1 (.lst ((numI (p.1 - (lastM (ps.take i)).getD 0)).map V.int ++ (numB p.2.length).map V.int))) := Same.new ((s2.trans s3).trans s4) hr1
        refine ⟨_, rfl, t.2, p.2, rfl, s14 _ _ a2, hri, by omega, fun H5 p3 s5 hq3 hp3 => ?_⟩
        refine ⟨r1, p3, _, _, rfl, rfl, s5 _ _ upd_same, hp3, ?_, fun r2 hr2 => ?_⟩
        · rw [List.length_append, List.length_map, List.length_map, List.length_map]
          exact sl_line (by omega)
        refine ⟨l, r2, _, _, rfl, rfl, upd_old (s5 _ _ (upd_old (s4 _ _ (s3 _ _ h2)) hr1)) hr2, upd_same, ?_, _, rfl, some (.int p.1), some (.ref t.2), ?_, ?_, Same.mut (Same.new (s14.trans s5) hr2) hl0⟩
        · have h3 := postsKB_pre ps i
          unfold lenI
          simp only [List.length_append, List.length_map]
          exact sl_line (by omega)
        · rw [lastM_take hp]
          rfl
        · rw [upd_same, postsKB_snoc ps i p hp]
          simp only [List.map_append, List.append_assoc]
    · rintro σ H2 ⟨y3, y4, rfl, h2, s2⟩
      rw [List.length_map, hln, List.take_length] at h2
      exact ⟨_, rfl, q H2 l s2 hl0 h2⟩
theorem ok__law_postings_bytes (T : Txt K mg c) : GFn P w K mg base CX0 2 "_law_postings_bytes" ["_law_postings"] spPostsB := by
  obtain ⟨f, fd, F, hm, hb⟩ := T.d__law_postings_bytes
  have g__law_number_bytes : GFn P w K mg base CX0 1 "_law_number_bytes" ["_law_number"] spNumB := ok__law_number_bytes T
  refine ⟨f, fd, hm, F.kp, hb, F.ok sc__law_postings_bytes (fun vs H Q E h => ?_) (fun cdv A outer s H vs Q E hr h => ?_)⟩
  · obtain ⟨l, ps, rfl, _⟩ := h
    rfl
  · obtain ⟨l0, ps, rfl, ⟨ts, hl, it⟩, hok, hsz, q⟩ := h
    have nd := sc__law_postings_bytes.nd
    refine ⟨_, (pss_cons (ps_set (i := 1) nd rfl (.inl rfl) (pe_g g__law_number_bytes hr (by rfl) pass0 (pa_cons (pe_callB call_len_seq (by rfl) T.b_len boot_len (pa_cons (pv 0) pa_nil)) pa_nil)))
      (pss_cons (ps_set (i := 2) nd rfl (.inl rfl) pe_int)
      (pss_cons (ps_for PassesOwn.never rfl (pi_list (pv 0)) (pg_tup rfl (pgs_cons (pg_name (i := 3) nd rfl (.inl rfl)) (pgs_cons (pg_name (i := 4) nd rfl (.inl rfl)) pgs_nil)))
        (pss_cons (ps_set (i := 1) nd rfl (.inl rfl) (pe_op op_cat (pe_op op_cat (pv 1) (pe_g g__law_number_bytes hr (by rfl) pass0 (pa_cons (pe_op op_sub (pv 3) (pv 2)) pa_nil))) (pe_g g__law_number_bytes hr (by rfl) pass0 (pa_cons (pe_callB call_len_seq (by rfl) T.b_len boot_len (pa_cons (pv 4) pa_nil)) pa_nil))))
        (pss_cons (ps_set (i := 2) nd rfl (.inl rfl) (pv 3))
        (pss_cons (ps_set (i := 5) nd rfl (.inl rfl) pe_int)
        (pss_one (ps_for PassesOwn.never rfl (pi_list (pv 4)) (pg_name (i := 6) nd rfl (.inl rfl))
          (pss_cons (ps_set (i := 1) nd rfl (.inl rfl) (pe_op op_cat (pv 1) (pe_g g__law_number_bytes hr (by rfl) pass0 (pa_cons (pe_op op_sub (pv 6) (pv 5)) pa_nil))))
          (pss_one (ps_set (i := 5) nd rfl (.inl rfl) (pv 6))))))))))
      (pss_one (ps_ret (pv 1)))))), ?_⟩
    have hln : ts.length = ps.length := Paired.length it
    have hsz' : (numB ps.length).length + (postsKB 0 ps).length ≤ 1000 := by
      unfold postsB lenI at hsz
      rwa [List.length_append] at hsz
    have ni : ∀ n : Nat, numI ((n : Nat) : Int) = numB n := fun n => rfl
    refine ⟨_, rfl, l0, _, rfl, .inl (SqL.of hl), _, rfl, by omega, ?_, fun H1 l s1 hl0 h1 => ?_⟩
    · rw [ni, List.length_map, hln]
      omega
    rw [ni, List.length_map, hln] at h1
    refine ⟨_, rfl, l0, rfl, ⟨_, SqL.of (s1 _ _ hl)⟩, for_list (xs := ts.map fun t => V.ref t.1) (fun i σ H' => ∃ l y3 y4 y5 y6, σ = [some (.ref l0), some (.ref l), some (.int ((lastM (ps.take i)).getD 0)), y3, y4, y5, y6] ∧ H l = none ∧ H' l = some (.lst ((lenI ps ++ postsKB 0 (ps.take i)).map V.int)) ∧ Same H H') ⟨l, none, none, none, none, rfl, hl0, by rw [h1]; show _ = some (HO.lst ((numB ps.length ++ []).map V.int)); rw [List.append_nil], s1⟩ (fun i σ H' _ ⟨_, _, _, _, _, _, _, _, s⟩ => SqL.of (s _ _ hl)) ?_ ?_⟩
    · rintro i v σ H2 hv ⟨l, y3, y4, y5, y6, rfl, hl0, h2, s2⟩
      rw [List.getElem?_map] at hv
      cases et : ts[i]? with
      | none => rw [et] at hv; cases hv
      | some t =>
        rw [et] at hv
        cases Option.some.inj hv
        obtain ⟨p, hp, a1, a2⟩ := it.at et
        obtain ⟨hge, hri⟩ := hok.at hp
        have hpre := postsKB_pre ps (i + 1)
        rw [postsKB_snoc ps i p hp] at hpre
        unfold lenI at hpre
        simp only [List.length_append] at hpre
        have h3 := postsKB_pre ps i
        refine ⟨t.1, [.int p.1, .ref t.2], rfl, SqT.of (s2 _ _ a1), rfl, .int p.1, [.ref t.2], rfl, .ref t.2, [], rfl, rfl, ?_⟩
        refine ⟨_, rfl, _, rfl, _, rfl, _, _, rfl, rfl, _, rfl, by omega, by omega, fun H3 p1 s3 hq1 hp1 => ?_⟩
        refine ⟨l, p1, _, _, rfl, rfl, s3 _ _ h2, hp1, ?_, fun r1 hr1 => ?_⟩
        · unfold lenI
          simp only [List.length_append, List.length_map]
          exact sl_line (by omega)
        refine ⟨_, rfl, t.2, _, rfl, .inl (SqL.of (upd_old (s3 _ _ (s2 _ _ a2)) hr1)), _, rfl, by omega, by rw [ni, List.length_map]; omega, fun H4 p2 s4 hq2 hp2 => ?_⟩
        rw [ni, List.length_map] at hp2
        refine ⟨r1, p2, _, _, rfl, rfl, s4 _ _ upd_same, hp2, ?_, fun r2 hr2 => ?_⟩
        · unfold lenI
          simp only [List.length_append, List.length_map]
          exact sl_line (by omega)
        have s24 : Same H H4 := (Same.new (s2.trans s3) hr1).trans s4
        refine ⟨_, rfl, _, rfl, t.2, rfl, ⟨_, SqL.of (upd_old (s24 _ _ a2) hr2)⟩, for_list (xs := p.2.map V.int) (fun j σ H' => ∃ l y6, σ = [some (.ref l0), some (.ref l), some (.int p.1), some (.int p.1), some (.ref t.2), some (.int ((p.2.take j).getLast?.getD 0)), y6] ∧ H l = none ∧
            H' l = some (.lst ((lenI ps ++ (postsKB 0 (ps.take i) ++ (numI (p.1 - (lastM (ps.take i)).getD 0) ++ (lenI p.2 ++ placesB 0 (p.2.take j))))).map V.int)) ∧ Same H H') ⟨r2, y6, rfl, s24.free hr2, ?_, Same.new s24 hr2⟩ (fun j σ H' _ ⟨_, _, _, _, _, s⟩ => SqL.of (s _ _ a2)) ?_ ?_⟩
        · rw [upd_same]
          show _ = some (HO.lst ((lenI ps ++ (postsKB 0 (ps.take i) ++ (numI (p.1 - (lastM (ps.take i)).getD 0) ++ (lenI p.2 ++ [])))).map V.int))
          simp only [List.map_append, List.append_assoc, List.append_nil]
        · rintro j v σ H5 hv ⟨l', y6', rfl, hl0', h5, s5⟩
          rw [List.getElem?_map] at hv
          cases ex : p.2[j]? with
          | none => rw [ex] at hv; cases hv
          | some x =>
            rw [ex] at hv
            cases Option.some.inj hv
            have hge' := hri.ge ex
            have hpre' := placesB_pre 0 p.2 (j + 1)
            rw [placesB_snoc 0 p.2 j x ex, List.length_append] at hpre'
            refine ⟨_, rfl, _, rfl, _, rfl, _, _, rfl, rfl, _, rfl, by omega, by omega, fun H6 p3 s6 hq3 hp3 => ?_⟩
            refine ⟨l', p3, _, _, rfl, rfl, s6 _ _ h5, hp3, ?_, fun r3 hr3 => ⟨_, rfl, r3, some (.int x), ?_, (s5.trans s6).free hr3, ?_, Same.new (s5.trans s6) hr3⟩⟩
            · unfold lenI
              simp only [List.length_append, List.length_map]
              exact sl_line (by omega)
            · rw [last_snoc p.2 j x ex]
              rfl
            · rw [upd_same, placesB_snoc 0 p.2 j x ex]
              simp only [List.map_append, List.append_assoc]
        · rintro σ H5 ⟨l', y6', rfl, hl0', h5, s5⟩
          rw [List.length_map, List.take_length] at h5
          refine ⟨l', some (.int p.1), some (.ref t.2), some (.int ((p.2.take (p.2.map V.int).length).getLast?.getD 0)), y6', ?_, hl0', ?_, s5⟩
          · rw [lastM_take hp]
          · rw [h5, postsKB_snoc ps i p hp]
    · rintro σ H2 ⟨l, y3, y4, y5, y6, rfl, hl0, h2, s2⟩
      rw [List.length_map, hln, List.take_length] at h2
      exact ⟨_, rfl, q H2 l s2 hl0 h2⟩
end
end FC
/-! W19: field_bytes, piece_bytes. -/
namespace FC
open PySem PySem.Spec PyProof.Rows L2
theorem findA_mem {α : Type} : ∀ {ps : List (List Nat × α)} {p : List Nat × α}, ps.Pairwise (fun a b => a.1 < b.1) → p ∈ ps → findA ps p.1 = some p.2
  | q :: ps, p, h, m => by
    have h' := List.pairwise_cons.mp h
    rw [findA_cons]
    rcases List.mem_cons.mp m with m | m
    · rw [if_pos (by rw [m]), m]
    · rw [if_neg, findA_mem h'.2 m]
      intro z
      have := h'.1 p m
      rw [z] at this
      exact nlt_irrefl _ this
/-- what is so of the words of a piece that can be written -/
def TabGood (tab : Tab) : Prop := ∀ f ∈ tab, (∀ ch ∈ f.1, okB (ch : Int)) ∧ WordsOk f.2
/-- a field's bytes, a piece's bytes, by the makes and the words -/
def lens2 (makes : List Int) (tab : Tab) (f : List Nat) : List Int := makes.flatMap fun m => numI (lenOf tab m f)
def fb (makes : List Int) (tab : Tab) (f : List Nat) : List Int := textB f ++ (lens2 makes tab f ++ wordsB (wordsIn tab f))
def pb (makes : List Int) (tab : Tab) : List Int := lenI makes ++ (placesB 0 makes ++ (lenI tab ++ tab.flatMap fun f => fb makes tab f.1))
def spFieldB (c : Cl) : Sp := fun vs H Q _ => ∃ (y : Addr) (makes : List Int) (tab : Tab) (f : List Nat × Words), vs = [.ref y, .str (S f.1)] ∧ PceAt c H y makes tab ∧ TabOk tab ∧ TabGood tab ∧ f ∈ tab ∧ (fb makes tab f.1).length ≤ 1000 ∧
  ∀ H' p, Same H H' → H p = none → H' p = some (.lst ((fb makes tab f.1).map V.int)) → Q (.ref p) H'
def spPieceB (c : Cl) : Sp := fun vs H Q _ => ∃ (y : Addr) (makes : List Int) (tab : Tab), vs = [.ref y] ∧ PceAt c H y makes tab ∧ TabOk tab ∧ TabGood tab ∧ Rises makes ∧ (pb makes tab).length ≤ 1000 ∧
  ∀ H' p, Same H H' → H p = none → H' p = some (.lst ((pb makes tab).map V.int)) → Q (.ref p) H'
theorem flat_snoc {α : Type} (g : α → List Int) (xs : List α) (i : Nat) (x : α) (h : xs[i]? = some x) : (xs.take (i + 1)).flatMap g = (xs.take i).flatMap g ++ g x := by
  rw [List.take_add_one, h, List.flatMap_append]
  show _ ++ (g x ++ []) = _
  rw [List.append_nil]
theorem flat_pre {α : Type} (g : α → List Int) (xs : List α) (i : Nat) : ((xs.take i).flatMap g).length ≤ (xs.flatMap g).length := by
  conv => rhs; rw [← List.take_append_drop i xs, List.flatMap_append]
  rw [List.length_append]
  omega
theorem PceAt.parts {c : Cl} {H : Hp} {y : Addr} {makes : List Int} {tab : Tab} (h : PceAt c H y makes tab) : ∃ dx hm ln tb, H y = some (.ins c.Piece dx (fsP hm ln tb)) ∧ H hm = some (.lst (makes.map V.int)) := by
  obtain ⟨dx, hm, ln, tb, lkvs, h1, h2, _⟩ := h
  exact ⟨dx, hm, ln, tb, h1, h2⟩
theorem postsB_len (ps : Posts) : ps.length ≤ (postsB ps).length := by
  have : ∀ (l : Int) (ps : Posts), ps.length ≤ (postsKB l ps).length := by
    intro l ps
    induction ps generalizing l with
    | nil => exact Nat.le_refl _
    | cons p ps ih =>
      obtain ⟨m, xs⟩ := p
      have h1 := ih m
      have h2 := numB_pos (m - l).toNat
      show ps.length + 1 ≤ (numB (m - l).toNat ++ (lenI xs ++ (placesB 0 xs ++ postsKB m ps))).length
      simp only [List.length_append]
      omega
  have h := this 0 ps
  unfold postsB
  rw [List.length_append]
  omega
section
variable {P : Program} {w : World} {K : PySem.W.Frag} {mg : Str → Option Value} {base : Heap} {c : Cl}
theorem ok_field_bytes (T : Txt K mg c) : GFn P w K mg base CX0 4 "field_bytes" ["piece", "field"] (spFieldB c) := by
  obtain ⟨f, fd, F, hm, hb⟩ := T.d_field_bytes
  have g_number_bytes : GFn P w K mg base CX0 1 "number_bytes" ["number"] spNumB := ok_number_bytes T
  have g_text_bytes : GFn P w K mg base CX0 2 "text_bytes" ["text"] spTextB := ok_text_bytes T
  have g_postings_bytes : GFn P w K mg base CX0 3 "postings_bytes" ["postings"] spPostsB := ok_postings_bytes T
  have g_makes : GMt P w K mg base CX0 1 c.Piece "makes" ["self"] (spMakes c) := ok_makes T
  have g_length : GMt P w K mg base CX0 1 c.Piece "length" ["self", "make", "field"] (spPLen c) := ok_length T
  have g_words : GMt P w K mg base CX0 1 c.Piece "words" ["self", "field"] (spPWords c) := ok_words T
  have g_postings : GMt P w K mg base CX0 2 c.Piece "postings" ["self", "field", "word"] (spPPosts c) := ok_postings T
  refine ⟨f, fd, hm, F.kp, hb, F.ok sc_field_bytes (fun vs H Q E h => ?_) (fun cdv A outer s H vs Q E hr h => ?_)⟩
  · obtain ⟨y, makes, tab, f, rfl, _⟩ := h
    rfl
  · obtain ⟨y, makes, tab, ⟨nm, ws⟩, rfl, hP, htk, htg, hin, hsz, q⟩ := h
    have nd := sc_field_bytes.nd
    refine ⟨_, (pss_cons (ps_set (i := 2) nd rfl (.inl rfl) (pe_g g_text_bytes hr (by rfl) pass0 (pa_cons (pv 1) pa_nil)))
      (pss_cons (ps_for PassesOwn.never rfl (pi_list (pe_gm0 (pv 0) T.k_Piece g_makes hr pass0)) (pg_name (i := 3) nd rfl (.inl rfl))
        (pss_one (ps_expr (pe_bm PySem.F.plainAttrs_list PySem.F.slot_list_extend PySem.F.type_list_extend mt_extend (pv 2) (pa_cons (pe_g g_number_bytes hr (by rfl) pass0 (pa_cons (pe_gm (pv 0) T.k_Piece g_length hr pass0 (pa_cons (pv 3) (pa_cons (pv 1) pa_nil))) pa_nil)) pa_nil)))))
      (pss_cons (ps_set (i := 4) nd rfl (.inl rfl) (pe_gm (pv 0) T.k_Piece g_words hr pass0 (pa_cons (pv 1) pa_nil)))
      (pss_cons (ps_expr (pe_bm PySem.F.plainAttrs_list PySem.F.slot_list_extend PySem.F.type_list_extend mt_extend (pv 2) (pa_cons (pe_g g_number_bytes hr (by rfl) pass0 (pa_cons (pe_callB call_len_seq (by rfl) T.b_len boot_len (pa_cons (pv 4) pa_nil)) pa_nil)) pa_nil)))
      (pss_cons (ps_for PassesOwn.never rfl (pi_list (pv 4)) (pg_name (i := 5) nd rfl (.inl rfl))
        (pss_one (ps_expr (pe_bm PySem.F.plainAttrs_list PySem.F.slot_list_extend PySem.F.type_list_extend mt_extend (pv 2) (pa_cons (pe_op op_cat (pe_g g_text_bytes hr (by rfl) pass0 (pa_cons (pv 5) pa_nil)) (pe_g g_postings_bytes hr (by rfl) pass0 (pa_cons (pe_gm (pv 0) T.k_Piece g_postings hr pass0 (pa_cons (pv 1) (pa_cons (pv 5) pa_nil))) pa_nil))) pa_nil)))))
      (pss_one (ps_ret (pv 2)))))))), ?_⟩
    have hfd : findA tab nm = some ws := findA_mem (p := (nm, ws)) htk.2.1 hin
    have hwi : wordsIn tab nm = ws := by unfold wordsIn; rw [hfd]; rfl
    obtain ⟨hno, hwo, hwp⟩ := htg _ hin
    obtain ⟨_, hw64, _⟩ : True ∧ ws.length < 64 ∧ True := ⟨trivial, (htk.2.2 _ hin).1, trivial⟩
    have ni : ∀ n : Nat, numI ((n : Nat) : Int) = numB n := fun n => rfl
    have hz : (textB nm).length + ((lens2 makes tab nm).length + ((numB ws.length).length + (wordsKB ws).length)) ≤ 1000 := by
      unfold fb wordsB lenI at hsz
      rw [hwi] at hsz
      simpa only [List.length_append] using hsz
    -- the next step
    refine ⟨_, rfl, nm, rfl, hno, by omega, fun H1 l s1 hl0 h1 => ?_⟩
    obtain ⟨dx, hmk, ln, tb, p1, p2⟩ := hP.parts
    -- the next step
    refine ⟨_, rfl, y, dx, _, rfl, s1 _ _ p1, rfl, y, dx, hmk, _, makes, rfl, s1 _ _ p1, fsP_hm _ _ _, s1 _ _ p2, fun H2 q1 s2 hq0 hq => ?_⟩
    have s12 := s1.trans s2
    have hlq : l ≠ q1 := ne_of_none h1 hq0
    refine ⟨q1, rfl, ⟨_, SqL.of hq⟩, for_list (xs := makes.map V.int) (fun i σ H' => ∃ y3, σ = [some (.ref y), some (.str (S nm)), some (.ref l), y3, none, none] ∧ H' l = some (.lst ((textB nm ++ lens2 (makes.take i) tab nm).map V.int)) ∧ Same H H' ∧ H' q1 = some (.lst (makes.map V.int))) ⟨none, rfl, by rw [s2 _ _ h1]; show _ = some (HO.lst ((textB nm ++ []).map V.int)); rw [List.append_nil], s12, hq⟩ (fun i σ H' _ ⟨_, _, _, _, s⟩ => SqL.of s) ?_ ?_⟩
    · rintro i v σ H3 hv ⟨y3, rfl, h3, s3, hq3⟩
      rw [List.getElem?_map] at hv
      cases em : makes[i]? with
      | none => rw [em] at hv; cases hv
      | some m =>
        rw [em] at hv
        cases Option.some.inj hv
        have hpre : (lens2 (makes.take (i + 1)) tab nm).length ≤ (lens2 makes tab nm).length := flat_pre _ _ _
        have esn : lens2 (makes.take (i + 1)) tab nm = lens2 (makes.take i) tab nm ++ numI (lenOf tab m nm) := flat_snoc _ _ _ _ em
        rw [esn, List.length_append] at hpre
        refine ⟨_, rfl, .inl ⟨rfl, _, SqL.of h3⟩, _, rfl, y, dx, _, rfl, s3 _ _ p1, rfl, _, rfl, _, rfl, y, makes, tab, m, nm, rfl, hP.same s3, fun H4 s4 => ?_⟩
        refine ⟨_, rfl, Int.natCast_nonneg _, by omega, fun H5 p s5 hp0 hp => ?_⟩
        refine ⟨l, p, _, _, rfl, rfl, s5 _ _ (s4 _ _ h3), hp, ?_, _, rfl, ?_, Same.mut ((s3.trans s4).trans s5) hl0, ?_⟩
        · simp only [List.length_append, List.length_map]
          exact sl_line (by omega)
        · rw [upd_same, esn]
          simp only [List.map_append, List.append_assoc]
        · rw [upd_ne hlq.symm]
          exact s5 _ _ (s4 _ _ hq3)
    · rintro σ H3 ⟨y3, rfl, h3, s3, _⟩
      rw [List.length_map, List.take_length] at h3
      -- the next step
      refine ⟨_, rfl, y, dx, _, rfl, s3 _ _ p1, rfl, _, rfl, y, makes, tab, nm, rfl, hP.same s3, htk, fun H4 q2 s4 hq0' hq4 => ?_⟩
      rw [hwi] at hq4
      have hlq2 : l ≠ q2 := ne_of_none h3 hq0'
      -- the next step
      refine ⟨_, rfl, .inl ⟨rfl, _, SqL.of (s4 _ _ h3)⟩, _, rfl, q2, _, rfl, .inl (SqL.of hq4), _, rfl, Int.natCast_nonneg _, by rw [ni, List.length_map, List.length_map]; omega, fun H5 p s5 hp0 hp => ?_⟩
      rw [ni, List.length_map, List.length_map] at hp
      have s35 := (s3.trans s4).trans s5
      refine ⟨l, p, _, _, rfl, rfl, s5 _ _ (s4 _ _ h3), hp, ?_, ?_⟩
      · simp only [List.length_append, List.length_map]
        exact sl_line (by omega)
      have q25 := s5 _ _ hq4
      -- the next step
      refine ⟨_, rfl, q2, rfl, ⟨_, SqL.of (by rw [upd_ne hlq2.symm]; exact q25)⟩, for_list (xs := (ws.map fun w => S w.1).map V.str) (fun i σ H' => ∃ y5, σ = [some (.ref y), some (.str (S nm)), some (.ref l), y3, some (.ref q2), y5] ∧ H' l = some (.lst ((textB nm ++ (lens2 makes tab nm ++ (lenI ws ++ wordsKB (ws.take i)))).map V.int)) ∧ Same H H' ∧ H' q2 = some (.lst ((ws.map fun w => S w.1).map V.str))) ⟨none, rfl, ?_, Same.mut s35 hl0, ?_⟩ (fun i σ H' _ ⟨_, _, _, _, s⟩ => SqL.of s) ?_ ?_⟩
      · rw [upd_same]
        show _ = some (HO.lst ((textB nm ++ (lens2 makes tab nm ++ (numB ws.length ++ []))).map V.int))
        simp only [List.map_append, List.append_assoc, List.append_nil]
      · rw [upd_ne hlq2.symm]
        exact q25
      · rintro i v σ H6 hv ⟨y5, rfl, h6, s6, hq6⟩
        rw [List.getElem?_map, List.getElem?_map] at hv
        cases ew : ws[i]? with
        | none => rw [ew] at hv; cases hv
        | some wp =>
          rw [ew] at hv
          cases Option.some.inj hv
          have hmem := List.mem_of_getElem? ew
          obtain ⟨g1, g2, g3, g4⟩ := hwo _ hmem
          have hpi : postsIn (wordsIn tab nm) wp.1 = wp.2 := by
            unfold postsIn
            rw [hwi, findA_mem hwp hmem]
            rfl
          have hpre : (wordsKB (ws.take (i + 1))).length ≤ (wordsKB ws).length := flat_pre _ _ _
          have esn : wordsKB (ws.take (i + 1)) = wordsKB (ws.take i) ++ (textB wp.1 ++ postsB wp.2) := flat_snoc _ _ _ _ ew
          rw [esn] at hpre
          simp only [List.length_append] at hpre
          have hpl := postsB_len wp.2
          refine ⟨_, rfl, .inl ⟨rfl, _, SqL.of h6⟩, _, rfl, wp.1, rfl, g2, by omega, fun H7 r1 s7 hr1 hr1' => ?_⟩
          refine ⟨_, rfl, y, dx, _, rfl, s7 _ _ (s6 _ _ p1), rfl, _, rfl, _, rfl, y, makes, tab, nm, wp.1, rfl, hP.same (s6.trans s7), by rw [hpi]; omega, fun H8 pl s8 hpl8 => ?_⟩
          rw [hpi] at hpl8
          refine ⟨pl, wp.2, rfl, hpl8.same nw_same, g4, by omega, fun H9 r2 s9 hr2 hr2' => ?_⟩
          refine ⟨r1, r2, _, _, rfl, rfl, s9 _ _ (s8 _ _ hr1'), hr2', ?_, fun r3 hr3 => ?_⟩
          · simp only [List.length_map]
            exact sl_line (by omega)
          have s69 := ((s6.trans s7).trans s8).trans s9
          have h9 := s9 _ _ (s8 _ _ (s7 _ _ h6))
          refine ⟨l, r3, _, _, rfl, rfl, upd_old h9 hr3, upd_same, ?_, some (.str (S wp.1)), rfl, ?_, Same.mut (Same.new s69 hr3) hl0, ?_⟩
          · unfold lenI
            simp only [List.length_append, List.length_map]
            exact sl_line (by omega)
          · rw [upd_same, esn]
            simp only [List.map_append, List.append_assoc]
          · rw [upd_ne hlq2.symm]
            exact upd_old (s9 _ _ (s8 _ _ (s7 _ _ hq6))) hr3
      · rintro σ H6 ⟨y5, rfl, h6, s6, hq6⟩
        rw [List.length_map, List.length_map, List.take_length] at h6
        refine ⟨_, rfl, q H6 l s6 hl0 ?_⟩
        rw [h6]
        unfold fb wordsB
        rw [hwi]
theorem ok_piece_bytes (T : Txt K mg c) : GFn P w K mg base CX0 5 "piece_bytes" ["piece"] (spPieceB c) := by
  obtain ⟨f, fd, F, hm, hb⟩ := T.d_piece_bytes
  have g_number_bytes : GFn P w K mg base CX0 1 "number_bytes" ["number"] spNumB := ok_number_bytes T
  have g_places_bytes : GFn P w K mg base CX0 2 "places_bytes" ["places"] spPlacesB := ok_places_bytes T
  have g_field_bytes : GFn P w K mg base CX0 4 "field_bytes" ["piece", "field"] (spFieldB c) := ok_field_bytes T
  have g_makes : GMt P w K mg base CX0 1 c.Piece "makes" ["self"] (spMakes c) := ok_makes T
  have g_fields : GMt P w K mg base CX0 1 c.Piece "fields" ["self"] (spFields c) := ok_fields T
  refine ⟨f, fd, hm, F.kp, hb, F.ok sc_piece_bytes (fun vs H Q E h => ?_) (fun cdv A outer s H vs Q E hr h => ?_)⟩
  · obtain ⟨y, makes, tab, rfl, _⟩ := h
    rfl
  · obtain ⟨y, makes, tab, rfl, hP, htk, htg, hri, hsz, q⟩ := h
    have nd := sc_piece_bytes.nd
    refine ⟨_, (pss_cons (ps_set (i := 1) nd rfl (.inl rfl) (pe_gm0 (pv 0) T.k_Piece g_makes hr pass0))
      (pss_cons (ps_set (i := 2) nd rfl (.inl rfl) (pe_gm0 (pv 0) T.k_Piece g_fields hr pass0))
      (pss_cons (ps_set (i := 3) nd rfl (.inl rfl) (pe_op op_cat (pe_op op_cat (pe_g g_number_bytes hr (by rfl) pass0 (pa_cons (pe_callB call_len_seq (by rfl) T.b_len boot_len (pa_cons (pv 1) pa_nil)) pa_nil)) (pe_g g_places_bytes hr (by rfl) pass0 (pa_cons (pv 1) pa_nil))) (pe_g g_number_bytes hr (by rfl) pass0 (pa_cons (pe_callB call_len_seq (by rfl) T.b_len boot_len (pa_cons (pv 2) pa_nil)) pa_nil))))
      (pss_cons (ps_for PassesOwn.never rfl (pi_list (pv 2)) (pg_name (i := 4) nd rfl (.inl rfl))
        (pss_one (ps_expr (pe_bm PySem.F.plainAttrs_list PySem.F.slot_list_extend PySem.F.type_list_extend mt_extend (pv 3) (pa_cons (pe_g g_field_bytes hr (by rfl) pass0 (pa_cons (pv 0) (pa_cons (pv 4) pa_nil))) pa_nil)))))
      (pss_one (ps_ret (pv 3))))))), ?_⟩
    obtain ⟨dx, hmk, ln, tb, p1, p2⟩ := hP.parts
    have ni : ∀ n : Nat, numI ((n : Nat) : Int) = numB n := fun n => rfl
    have hz : (numB makes.length).length + ((placesB 0 makes).length + ((numB tab.length).length + (tab.flatMap fun f => fb makes tab f.1).length)) ≤ 1000 := by
      unfold pb lenI at hsz
      simpa only [List.length_append] using hsz
    -- makes, fields
    refine ⟨_, rfl, y, dx, _, rfl, p1, rfl, y, dx, hmk, _, makes, rfl, p1, fsP_hm _ _ _, p2, fun H1 a1 s1 ha0 ha => ?_⟩
    refine ⟨_, rfl, y, dx, _, rfl, s1 _ _ p1, rfl, y, makes, tab, rfl, hP.same s1, htk, fun H2 a2 s2 hb0 hb' => ?_⟩
    have s12 := s1.trans s2
    -- found
    refine ⟨_, rfl, a1, _, rfl, .inl (SqL.of (s2 _ _ ha)), _, rfl, Int.natCast_nonneg _, by rw [ni, List.length_map]; omega, fun H3 r1 s3 _ hr1 => ?_⟩
    rw [ni, List.length_map] at hr1
    refine ⟨_, rfl, a1, makes, rfl, s3 _ _ (s2 _ _ ha), hri, by omega, fun H4 r2 s4 _ hr2 => ?_⟩
    refine ⟨r1, r2, _, _, rfl, rfl, s4 _ _ hr1, hr2, ?_, fun r3 hr3 => ?_⟩
    · simp only [List.length_map]
      exact sl_line (by omega)
    have b4 := s4 _ _ (s3 _ _ hb')
    refine ⟨_, rfl, a2, _, rfl, .inl (SqL.of (upd_old b4 hr3)), _, rfl, Int.natCast_nonneg _, by rw [ni, List.length_map, List.length_map]; omega, fun H5 r4 s5 _ hr4 => ?_⟩
    rw [ni, List.length_map, List.length_map] at hr4
    refine ⟨r3, r4, _, _, rfl, rfl, s5 _ _ upd_same, hr4, ?_, fun l hl => ?_⟩
    · simp only [List.length_append, List.length_map]
      exact sl_line (by omega)
    have s15 : Same H H5 := ((Same.new ((s12.trans s3).trans s4) hr3)).trans s5
    have hl0 := s15.free hl
    have b5 := s5 _ _ (upd_old (u := .lst ((numB makes.length).map V.int ++ (placesB 0 makes).map V.int)) b4 hr3)
    have hla : a2 ≠ l := ne_of_none b5 hl
    -- the next step
    refine ⟨_, rfl, a2, rfl, ⟨_, SqL.of (upd_old b5 hl)⟩, for_list (xs := (tab.map fun f => S f.1).map V.str) (fun i σ H' => ∃ y4, σ = [some (.ref y), some (.ref a1), some (.ref a2), some (.ref l), y4] ∧ H' l = some (.lst ((lenI makes ++ (placesB 0 makes ++ (lenI tab ++ (tab.take i).flatMap fun f => fb makes tab f.1))).map V.int)) ∧ Same H H' ∧ H' a2 = some (.lst ((tab.map fun f => S f.1).map V.str))) ⟨none, rfl, ?_, Same.new s15 hl, upd_old b5 hl⟩ (fun i σ H' _ ⟨_, _, _, _, s⟩ => SqL.of s) ?_ ?_⟩
    · rw [upd_same]
      show _ = some (HO.lst ((numB makes.length ++ (placesB 0 makes ++ (numB tab.length ++ []))).map V.int))
      simp only [List.map_append, List.append_assoc, List.append_nil]
    · rintro i v σ H6 hv ⟨y4, rfl, h6, s6, hq6⟩
      rw [List.getElem?_map, List.getElem?_map] at hv
      cases ew : tab[i]? with
      | none => rw [ew] at hv; cases hv
      | some fw =>
        rw [ew] at hv
        cases Option.some.inj hv
        have hmem := List.mem_of_getElem? ew
        have hpre : ((tab.take (i + 1)).flatMap fun f => fb makes tab f.1).length ≤ (tab.flatMap fun f => fb makes tab f.1).length := flat_pre _ _ _
        have esn : ((tab.take (i + 1)).flatMap fun f => fb makes tab f.1) = ((tab.take i).flatMap fun f => fb makes tab f.1) ++ fb makes tab fw.1 := flat_snoc _ _ _ _ ew
        rw [esn, List.length_append] at hpre
        refine ⟨_, rfl, .inl ⟨rfl, _, SqL.of h6⟩, _, rfl, _, rfl, y, makes, tab, fw, rfl, hP.same s6, htk, htg, hmem, by omega, fun H7 p s7 hp0 hp => ?_⟩
        refine ⟨l, p, _, _, rfl, rfl, s7 _ _ h6, hp, ?_, some (.str (S fw.1)), rfl, ?_, Same.mut (s6.trans s7) hl0, ?_⟩
        · unfold lenI
          simp only [List.length_append, List.length_map]
          exact sl_line (by omega)
        · rw [upd_same, esn]
          simp only [List.map_append, List.append_assoc]
        · rw [upd_ne hla]
          exact s7 _ _ hq6
    · rintro σ H6 ⟨y4, rfl, h6, s6, hq6⟩
      rw [List.length_map, List.length_map, List.take_length] at h6
      exact ⟨_, rfl, q H6 l s6 hl0 h6⟩
end
/-- what is read is written back -/
theorem lens2_ns {makes ns : List Int} {tab : Tab} {f : List Nat} {ws : Words} (hw : wordsIn tab f = ws) (hf : Filled makes ns ws) (hl : ns.length = makes.length) : lens2 makes tab f = lensB ns := by
  have gen : ∀ (makes ns : List Int), ns.length = makes.length → (∀ mn ∈ makes.zip ns, mn.2 = ((gath ws mn.1).length : Int)) → (makes.flatMap fun m => numI (lenOf tab m f)) = ns.flatMap numI := by
    intro makes
    induction makes with
    | nil =>
      intro ns h _
      have : ns = [] := List.length_eq_zero_iff.mp h
      rw [this]
      rfl
    | cons m makes ih =>
      intro ns h hz
      cases ns with
      | nil => simp at h
      | cons n ns =>
        rw [List.flatMap_cons, List.flatMap_cons, ih ns (by simpa using h) fun mn hm => hz mn (by rw [List.zip_cons_cons]; exact List.mem_cons_of_mem _ hm)]
        congr 1
        have := hz (m, n) (by rw [List.zip_cons_cons]; exact List.mem_cons_self)
        unfold lenOf
        rw [hw]
        dsimp only at this
        rw [this]
  exact gen makes ns hl fun mn hm => (hf.2 mn hm).1
theorem pb_pieceB {makes : List Int} {fs : List Field} (h : PieceOk makes fs) : pb makes (tabOf fs) = pieceB makes fs := by
  have hpw : (tabOf fs).Pairwise fun a b => a.1 < b.1 := List.Pairwise.map _ (fun _ _ z => z) h.frise
  unfold pb pieceB lenI
  rw [List.length_map, List.flatMap_map]
  congr 3
  rw [List.flatMap_def, List.flatMap_def]
  refine congrArg List.flatten (List.map_congr_left fun f hf => ?_)
  have h1 := h.fok f hf
  have hw : wordsIn (tabOf fs) f.1 = f.2.2 := by
    unfold wordsIn
    rw [findA_mem (p := (f.1, f.2.2)) hpw (List.mem_map.mpr ⟨f, hf, rfl⟩)]
    rfl
  show fb makes (tabOf fs) f.1 = fieldB f
  unfold fb fieldB
  rw [lens2_ns hw h1.2.2.2.2.2.2 h1.2.2.1, hw]
end FC
/-! W20: the law's draws, pop. -/
namespace FC
open PySem PySem.Spec PyProof.Rows L2
def DrawsAt (H : Hp) (l : Addr) : Prop := ∃ ds : List Int, H l = some (.lst (ds.map V.int)) ∧ ∀ d ∈ ds, 0 ≤ d
def spDraws (K : PySem.W.Frag) : Sp := fun vs H Q _ => ∃ (s : Addr) (zs : List Int), vs = [.ref s, .int 2, .int 70] ∧ SqL K H s (zs.map V.int) ∧ zs.length ≤ 63 ∧ ∀ H' p, Same H H' → H p = none → DrawsAt H' p → Q (.ref p) H'
def spPop : Sp := fun vs H Q _ => ∃ l : Addr, vs = [.ref l] ∧ DrawsAt H l ∧ ∀ v H', 0 ≤ v → Kp [l] H H' → DrawsAt H' l → Q (.int v) H'
theorem cutV_map (xs : List Int) (lo hi : Option Int) : ∃ ys : List Int, cutV (xs.map V.int) lo hi = ys.map V.int ∧ ys.length ≤ xs.length := by
  refine ⟨(xs.drop (HT.sIx xs.length 0 lo)).take (HT.sIx xs.length xs.length hi - HT.sIx xs.length 0 lo), ?_, ?_⟩
  · unfold cutV
    rw [List.length_map, List.map_take, List.map_drop]
  · rw [List.length_take, List.length_drop]
    omega
theorem ixN_nat {n j : Nat} (h : j < n) : ixN n (j : Int) = some j := by
  unfold ixN
  rw [if_pos (by omega), if_pos (by omega)]
  simp
section
variable {P : Program} {w : World} {K : PySem.W.Frag} {mg : Str → Option Value} {base : Heap} {c : Cl}
theorem ok__law_pop (T : Txt K mg c) : GFn P w K mg base CX0 1 "_law_pop" ["_law_draws_here"] spPop := by
  obtain ⟨f, fd, F, hm, hb⟩ := T.d__law_pop
  refine ⟨f, fd, hm, F.kp, hb, F.ok sc__law_pop (fun vs H Q E h => ?_) (fun cdv A outer s H vs Q E hr h => ?_)⟩
  · obtain ⟨l, rfl, _⟩ := h
    rfl
  · obtain ⟨l, rfl, ⟨ds, hl, hd⟩, q⟩ := h
    have nd := sc__law_pop.nd
    refine ⟨_, (pss_cons (ps_if (pt_cmpR (op_eqD hr.units) (pv 0) (pe_lst pa_nil) (nomark _))
        (pss_one (ps_ret pe_int))
        pss_nil)
      (pss_one (ps_ret (pe_bm0 PySem.F.plainAttrs_list PySem.F.slot_list_pop PySem.F.type_list_pop mt_pop (pv 0))))), ?_⟩
    refine ⟨_, rfl, sl_line (Nat.zero_le _), fun p hp => ?_⟩
    have h1 := upd_old (u := .lst []) hl hp
    refine ⟨_, _, dp_ints (SqL.of h1), dp_ints (a := []) (SqL.of upd_same), shaped_intL _, shaped_intL _, _, rfl, ?_⟩
    rw [eqv_ints]
    refine ite2 (fun e1 => ?_) (fun e1 => ?_)
    · exact q 0 _ (by decide) (Kp.refl.new hp) ⟨ds, h1, hd⟩
    · have hne : ds ≠ [] := fun z => e1 (decide_eq_true z)
      have hlen : 0 < ds.length := List.length_pos_iff.mpr hne
      have hv : ds[ds.length - 1]? = some ds[ds.length - 1] := List.getElem?_eq_getElem (by omega)
      refine ⟨_, rfl, .inl ⟨rfl, _, SqL.of h1⟩, l, _, .int ds[ds.length - 1], rfl, rfl, h1, ?_, ?_⟩
      · rw [List.length_map, List.getElem?_map, hv]
        rfl
      · refine q _ _ (hd _ (List.getElem_mem _)) ((Kp.refl.new hp).at (by simp)) ⟨ds.dropLast, ?_, fun d hm => hd d ((List.dropLast_sublist ds).subset hm)⟩
        rw [upd_same, List.map_dropLast]
theorem ok__law_draws (T : Txt K mg c) : GFn P w K mg base CX0 1 "_law_draws" ["_law_script", "_law_turn", "_law_many"] (spDraws K) := by
  obtain ⟨f, fd, F, hm, hb⟩ := T.d__law_draws
  refine ⟨f, fd, hm, F.kp, hb, F.ok sc__law_draws (fun vs H Q E h => ?_) (fun cdv A outer s H vs Q E hr h => ?_)⟩
  · obtain ⟨s, zs, rfl, _⟩ := h
    rfl
  · obtain ⟨sc, zs, rfl, hS, hz, q⟩ := h
    have nd := sc__law_draws.nd
    refine ⟨_, (pss_cons (ps_set (i := 3) nd rfl (.inl rfl) (pe_op op_cat (pe_slice sl_list (pv 0) po_none (po_some pe_int)) (pe_lst (pa_cons (pv 1) pa_nil))))
      (pss_cons (ps_set (i := 4) nd rfl (.inl rfl) (pe_lst pa_nil))
      (pss_cons (ps_if (pt_cmpR op_eq (pe_op op_mod (pe_op op_fdiv (pe_ix ix_list (pv 3) pe_int (fun _ _ => rfl)) pe_int) pe_int) pe_int (nomark _))
        (pss_cons (ps_setLc (i := 5) (own := [("_law_cell", 10)]) rfl nd rfl rfl (sw_true rfl rfl rfl (by decide +kernel)) (pi_list (pv 3)) (blkOk_by (N := ["_law_script", "_law_turn", "_law_many", "_law_cells", "_law_found", "_law_left", "_law_k", "_law_at", "_law_place", "_law_number", "_law_cell"]) (sc := defScope s__law_draws) (by decide +kernel)) (fun _ _ _ _ _ => (pg_name (i := 10) nd rfl (.inl rfl))) (fun _ _ _ _ _ => pts_nil) (fun _ _ _ _ _ => (pe_op op_fdiv (pv 10) pe_int)))
        (pss_cons (ps_for PassesOwn.never rfl (pi_range1 (by rfl) T.b_range (pa_cons (pe_op op_add (pv 1) (pv 2)) pa_nil)) (pg_name (i := 6) nd rfl (.inl rfl))
          (pss_cons (ps_set (i := 7) nd rfl (.inl rfl) (pe_op op_mod (pv 6) (pe_callB call_len_seq (by rfl) T.b_len boot_len (pa_cons (pv 5) pa_nil))))
          (pss_cons (ps_if (pt_cmpR op_ge (pv 6) (pv 1) (nomark _))
            (pss_one (ps_expr (pe_bm PySem.F.plainAttrs_list PySem.F.slot_list_append PySem.F.type_list_append mt_append (pv 4) (pa_cons (pe_op op_mod (pe_ix ix_list (pv 5) (pv 7) (fun _ _ => rfl)) pe_int) pa_nil))))
            pss_nil)
          (pss_one (ps_asg (pe_op op_fdivW (pe_ix ix_list (pv 5) (pv 7) (fun _ _ => rfl)) pe_int) (pg_sub (pv 5) (pv 7) set_list))))))
        (pss_one (ps_ret (pv 4)))))
        pss_nil)
      (pss_cons (ps_for PassesOwn.never rfl (pi_range1 (by rfl) T.b_range (pa_cons (pv 2) pa_nil)) (pg_name (i := 6) nd rfl (.inl rfl))
        (pss_cons (ps_set (i := 8) nd rfl (.inl rfl) (pe_op op_add (pe_op op_mul (pe_op op_mul (pe_op op_add (pv 6) (pv 1)) (pe_op op_add (pv 6) (pv 1))) pe_int) pe_int))
        (pss_cons (ps_set (i := 9) nd rfl (.inl rfl) (pe_op op_mod (pe_op op_mul (pe_op op_add (pe_op op_mod (pe_ix ix_list (pv 3) (pe_op op_mod (pv 6) (pe_callB call_len_seq (by rfl) T.b_len boot_len (pa_cons (pv 3) pa_nil))) (fun _ _ => rfl)) pe_int) (pv 8)) pe_int) pe_int))
        (pss_cons (ps_set (i := 9) nd rfl (.inl rfl) (pe_op op_mod (pe_op op_add (pe_op op_mul (pv 9) (pv 9)) (pe_op op_mul pe_int (pv 6))) pe_int))
        (pss_one (ps_expr (pe_bm PySem.F.plainAttrs_list PySem.F.slot_list_append PySem.F.type_list_append mt_append (pv 4) (pa_cons (pe_op op_mod (pe_op op_mul (pv 9) (pv 9)) pe_int) pa_nil))))))))
      (pss_one (ps_ret (pv 4))))))), ?_⟩
    obtain ⟨ys, e1, e2⟩ := cutV_map zs none (some 63)
    -- cells
    refine ⟨_, rfl, _, rfl, sc, _, rfl, hS, fun p hp => ⟨_, rfl, sl_line (by show 1 ≤ 100000; decide), fun q1 hq1 => ⟨p, q1, _, _, rfl, rfl, upd_old upd_same hq1, upd_same, ?_, fun cl hcl => ?_⟩⟩⟩
    · rw [e1, List.length_map]
      exact sl_line (by show ys.length + 1 ≤ 100000; omega)
    have s1 : Same H (upd (upd (upd H p (.lst (cutV (zs.map V.int) none (some 63)))) q1 (.lst [V.int 2])) cl (.lst (cutV (zs.map V.int) none (some 63) ++ [V.int 2]))) := Same.new (Same.new (Same.upd_new hp) hq1) hcl
    have hcell0 : (upd (upd (upd H p (.lst (cutV (zs.map V.int) none (some 63)))) q1 (.lst [V.int 2])) cl (.lst (cutV (zs.map V.int) none (some 63) ++ [V.int 2]))) cl = some (.lst ((ys ++ [2]).map V.int)) := by
      rw [upd_same, e1, List.map_append]
      rfl
    generalize (upd (upd (upd H p (.lst (cutV (zs.map V.int) none (some 63)))) q1 (.lst [V.int 2])) cl (.lst (cutV (zs.map V.int) none (some 63) ++ [V.int 2]))) = H1 at s1 hcell0
    obtain ⟨cs, ecs⟩ : ∃ cs, cs = ys ++ [(2 : Int)] := ⟨_, rfl⟩
    rw [← ecs] at hcell0
    have hn0 : 0 < cs.length := by rw [ecs]; simp
    have hn64 : cs.length ≤ 64 := by rw [ecs]; simp; omega
    -- the next step
    refine ⟨sl_line (Nat.zero_le _), fun fo hfo => ?_⟩
    have hcell := upd_old (u := .lst []) hcell0 hfo
    have hfo0 : H fo = none := s1.free hfo
    have s2 : Same H (upd H1 fo (.lst [])) := Same.new s1 hfo
    have hat : ∀ (ls : List Int), ls.length = cs.length → ∀ k : Nat, ∃ v, ls[k % cs.length]? = some v ∧ atI (ls.map V.int) ((0 + (k : Int)) % (cs.length : Int)) = some (.int v) := by
      intro ls hl k
      have hlt : k % cs.length < ls.length := by rw [hl]; exact Nat.mod_lt _ hn0
      refine ⟨ls[k % cs.length], List.getElem?_eq_getElem hlt, ?_⟩
      have ek : (0 + (k : Int)) % (cs.length : Int) = ((k % cs.length : Nat) : Int) := by rw [Int.zero_add]; rfl
      rw [ek]
      refine atI_nat ?_
      rw [List.getElem?_map, List.getElem?_eq_getElem hlt]
      rfl
    obtain ⟨v0, g1, g2⟩ := hat cs rfl 0
    have g2' : atI (cs.map V.int) 0 = some (.int v0) := by
      have : (0 + ((0 : Nat) : Int)) % (cs.length : Int) = 0 := by simp
      rwa [this] at g2
    refine ⟨_, rfl, cl, _, _, _, rfl, rfl, SqL.of hcell, g2', _, _, rfl, rfl, ⟨(by decide : (0 : Int) < 50000), (by decide : (50000 : Int) < 1073741824)⟩, _, _, rfl, rfl, (by decide : (0 : Int) < 2), rfl, _, rfl, ite2 (fun e3 => ?_) (fun e3 => ?_)⟩
    · -- big
      refine ⟨_, rfl, cl, rfl, ⟨_, SqL.of hcell⟩, fun lf hlf => lc_listMap (fun v => match v with | .int i => .int (i / 100000) | v => v) (by rw [List.length_map]; omega) (SqL.of hcell) hlf (fun _ => rfl) (fun v H' Q' hv hs hq => ?_) ?_⟩
      · obtain ⟨i, _, rfl⟩ := List.mem_map.mp hv
        exact ⟨_, rfl, _, _, rfl, rfl, ⟨(by decide : (0 : Int) < 100000), (by decide : (100000 : Int) < 1073741824)⟩, hq⟩
      rw [List.map_map]
      have hlf0 : H lf = none := s2.free hlf
      have hfl : fo ≠ lf := ne_of_none upd_same hlf
      have hcl' : cl ≠ lf := ne_of_none hcell hlf
      refine ⟨_, rfl, _, rfl, _, _, rfl, rfl, _, rfl, by decide, by decide, for_range (fun i σ H' => ∃ (ls fs : List Int) (y6 y7 : Option V), σ = [some (.ref sc), some (.int 2), some (.int 70), some (.ref cl), some (.ref fo), some (.ref lf), y6, y7, none, none, none] ∧ ls.length = cs.length ∧ H' lf = some (.lst (ls.map V.int)) ∧ H' fo = some (.lst (fs.map V.int)) ∧ (∀ d ∈ fs, 0 ≤ d) ∧ fs.length ≤ i ∧ Same H H')
        ⟨cs.map (· / 100000), [], none, none, rfl, by rw [List.length_map], ?_, ?_, (fun _ z => nomatch z), Nat.zero_le _, Same.new s2 hlf⟩ ?_ ?_⟩
      · rw [upd_same, List.map_map]
        rfl
      · exact upd_old upd_same hlf
      · rintro i σ H2 hi ⟨ls, fs, y6, y7, rfl, hl, h2l, h2f, hd, hfs, s3⟩
        obtain ⟨v, g3, g4⟩ := hat ls hl i
        refine ⟨_, rfl, _, rfl, lf, _, rfl, .inl (SqL.of h2l), _, _, rfl, rfl, ?_, ?_⟩
        · rw [List.length_map, hl]
          show (0 : Int) < (cs.length : Int)
          omega
        have g4' : atI (ls.map V.int) ((0 + (i : Int)) % ((ls.map V.int).length : Int)) = some (.int v) := by rw [List.length_map, hl]; exact g4
        have hlt : i % cs.length < ls.length := by rw [hl]; exact Nat.mod_lt _ hn0
        have ek : (0 + (i : Int)) % ((ls.map V.int).length : Int) = ((i % cs.length : Nat) : Int) := by rw [List.length_map, hl, Int.zero_add]; rfl
        have fin : ∀ (fs' : List Int) (H3 : Hp), H3 lf = some (.lst (ls.map V.int)) → H3 fo = some (.lst (fs'.map V.int)) → (∀ d ∈ fs', 0 ≤ d) → fs'.length ≤ i + 1 → Same H H3 →
            ∃ (ls' fs'' : List Int) (y6 y7 : Option V), [some (.ref sc), some (.int 2), some (.int 70), some (.ref cl), some (.ref fo), some (.ref lf), some (V.int (0 + (i : Int))), some (V.int ((0 + (i : Int)) % ((ls.map V.int).length : Int))), none, none, none] = [some (.ref sc), some (.int 2), some (.int 70), some (.ref cl), some (.ref fo), some (.ref lf), y6, y7, none, none, none] ∧ ls'.length = cs.length ∧
              upd H3 lf (.lst ((ls.map V.int).set (i % cs.length) (.int (v / 2147483587)))) lf = some (.lst (ls'.map V.int)) ∧ upd H3 lf (.lst ((ls.map V.int).set (i % cs.length) (.int (v / 2147483587)))) fo = some (.lst (fs''.map V.int)) ∧ (∀ d ∈ fs'', 0 ≤ d) ∧ fs''.length ≤ i + 1 ∧ Same H (upd H3 lf (.lst ((ls.map V.int).set (i % cs.length) (.int (v / 2147483587))))) := by
          intro fs' H3 k1 k2 k3 k4 k5
          refine ⟨ls.set (i % cs.length) (v / 2147483587), fs', _, _, rfl, by rw [List.length_set, hl], ?_, by rw [upd_ne hfl]; exact k2, k3, k4, Same.mut k5 hlf0⟩
          rw [upd_same, List.map_set]
        refine ⟨_, rfl, _, rfl, _, _, rfl, rfl, _, rfl, ite2 (fun e4 => ?_) (fun e4 => ?_)⟩
        · refine ⟨_, rfl, .inl ⟨rfl, _, SqL.of h2f⟩, _, rfl, _, rfl, lf, _, _, _, rfl, rfl, SqL.of h2l, g4', _, _, rfl, rfl, (by decide : (0 : Int) < 2147483587), fo, _, _, rfl, rfl, h2f, ?_, ?_⟩
          · rw [List.length_map]
            exact sl_lt (by have : i < 72 := hi; omega)
          · have h3l : upd H2 fo (.lst (fs.map V.int ++ [V.int (v % 2147483587)])) lf = some (.lst (ls.map V.int)) := by rw [upd_ne hfl.symm]; exact h2l
            refine ⟨_, rfl, _, rfl, lf, _, _, _, rfl, rfl, SqL.of h3l, g4', _, _, rfl, rfl, ⟨(by decide : (0 : Int) < 2147483587), by decide +kernel⟩, ?_⟩
            refine ⟨_, rfl, _, rfl, lf, _, _, i % cs.length, rfl, rfl, h3l, by rw [ek, List.length_map]; exact ixN_nat hlt, fin (fs ++ [v % 2147483587]) _ h3l ?_ ?_ ?_ (Same.mut s3 hfo0)⟩
            · rw [upd_same, List.map_append]
              rfl
            · intro d hm
              rcases List.mem_append.mp hm with hm | hm
              · exact hd d hm
              · have : d = v % 2147483587 := by simpa using hm
                rw [this]
                exact Int.emod_nonneg _ (by decide)
            · rw [List.length_append]
              show fs.length + 1 ≤ _
              omega
        · refine ⟨_, rfl, _, rfl, lf, _, _, _, rfl, rfl, SqL.of h2l, g4', _, _, rfl, rfl, ⟨(by decide : (0 : Int) < 2147483587), by decide +kernel⟩, ?_⟩
          exact ⟨_, rfl, _, rfl, lf, _, _, i % cs.length, rfl, rfl, h2l, by rw [ek, List.length_map]; exact ixN_nat hlt, fin fs _ h2l h2f hd (by omega) s3⟩
      · rintro σ H2 ⟨ls, fs, y6, y7, rfl, hl, h2l, h2f, hd, hfs, s3⟩
        exact ⟨_, rfl, q H2 fo s3 hfo0 ⟨fs, h2f, hd⟩⟩
    · -- small
      refine ⟨_, rfl, _, rfl, by decide, by decide, for_range (fun i σ H' => ∃ (fs : List Int) (y6 y8 y9 : Option V), σ = [some (.ref sc), some (.int 2), some (.int 70), some (.ref cl), some (.ref fo), none, y6, none, y8, y9, none] ∧ H' cl = some (.lst (cs.map V.int)) ∧ H' fo = some (.lst (fs.map V.int)) ∧ (∀ d ∈ fs, 0 ≤ d) ∧ fs.length ≤ i ∧ Same H H')
        ⟨[], none, none, none, rfl, hcell, upd_same, (fun _ z => nomatch z), Nat.zero_le _, s2⟩ ?_ ?_⟩
      · rintro i σ H2 hi ⟨fs, y6, y8, y9, rfl, h2c, h2f, hd, hfs, s3⟩
        have hi' : i < 70 := hi
        have hcf : cl ≠ fo := ne_of_none hcell0 hfo
        obtain ⟨v, g3, g4⟩ := hat cs rfl i
        have g4' : atI (cs.map V.int) ((0 + (i : Int)) % ((cs.map V.int).length : Int)) = some (.int v) := by rw [List.length_map]; exact g4
        refine ⟨_, rfl, _, rfl, _, _, rfl, rfl, _, rfl, _, rfl, _, _, rfl, rfl, _, _, rfl, rfl, .inl ⟨by omega, by omega⟩, _, _, rfl, rfl, .inr ⟨by decide, by decide⟩, _, _, rfl, rfl, ?_⟩
        refine ⟨_, rfl, _, rfl, _, rfl, cl, _, rfl, .inl (SqL.of h2c), _, _, rfl, rfl, (by rw [List.length_map]; show (0 : Int) < (cs.length : Int); omega), cl, _, _, _, rfl, rfl, SqL.of h2c, g4', _, _, rfl, rfl, (by decide : (0 : Int) < 2147483647), _, rfl, _, _, rfl, rfl, _, _, rfl, rfl, .inr ⟨by decide, by decide⟩, _, _, rfl, rfl, (by decide : (0 : Int) < 2147483647), ?_⟩
        refine ⟨_, rfl, _, rfl, _, _, rfl, rfl, .inl ⟨by omega, by omega⟩, _, rfl, _, _, rfl, rfl, .inl ⟨by decide, by decide⟩, _, _, rfl, rfl, _, _, rfl, rfl, (by decide : (0 : Int) < 2147483629), ?_⟩
        have fin : ∀ (N : Int) (x6 x8 x9 : Option V), ∃ (fs' : List Int) (y6 y8 y9 : Option V), [some (.ref sc), some (.int 2), some (.int 70), some (.ref cl), some (.ref fo), none, x6, none, x8, x9, none] = [some (.ref sc), some (.int 2), some (.int 70), some (.ref cl), some (.ref fo), none, y6, none, y8, y9, none] ∧
            upd H2 fo (.lst (fs.map V.int ++ [V.int (N % 2147483587)])) cl = some (.lst (cs.map V.int)) ∧ upd H2 fo (.lst (fs.map V.int ++ [V.int (N % 2147483587)])) fo = some (.lst (fs'.map V.int)) ∧ (∀ d ∈ fs', 0 ≤ d) ∧ fs'.length ≤ i + 1 ∧ Same H (upd H2 fo (.lst (fs.map V.int ++ [V.int (N % 2147483587)]))) := by
          intro N x6 x8 x9
          refine ⟨fs ++ [N % 2147483587], _, _, _, rfl, ?_, ?_, ?_, ?_, Same.mut s3 hfo0⟩
          · rw [upd_ne hcf]
            exact h2c
          · rw [upd_same, List.map_append]
            rfl
          · intro d hm
            rcases List.mem_append.mp hm with hm | hm
            · exact hd d hm
            · have hm' := List.mem_singleton.mp hm
              rw [hm']
              exact Int.emod_nonneg _ (by decide)
          · rw [List.length_append]
            show fs.length + 1 ≤ _
            omega
        refine ⟨_, rfl, .inl ⟨rfl, _, SqL.of h2f⟩, _, rfl, _, rfl, _, _, rfl, rfl, .inl ⟨by omega, by omega⟩, _, _, rfl, rfl, (by decide : (0 : Int) < 2147483587), fo, _, _, rfl, rfl, h2f, ?_, fin _ _ _ _⟩
        rw [List.length_map]
        exact sl_lt (by omega)
      · rintro σ H2 ⟨fs, y6, y8, y9, rfl, h2c, h2f, hd, hfs, s3⟩
        exact ⟨_, rfl, q H2 fo s3 hfo0 ⟨fs, h2f, hd⟩⟩
end
end FC
/-! W21: the law's alike, where the two are alike. -/
namespace FC
open PySem PySem.Spec PyProof.Rows L2
inductive AtomE : V → V → Prop where
  | s (z : Str) (h : PyData.strOk z = true) : AtomE (.str z) (.str z)
  | i (z : Int) : AtomE (.int z) (.int z)
def SeqE (H : Hp) (R : V → V → Prop) (x y : V) : Prop := ∃ (a b : Addr) (xs ys : List V), x = .ref a ∧ y = .ref b ∧ ((H a = some (.lst xs) ∧ H b = some (.lst ys)) ∨ (H a = some (.tup xs) ∧ H b = some (.tup ys))) ∧ Paired R xs ys ∧ ys.length ≤ 10000
def Al (H : Hp) : Nat → V → V → Prop
  | 0, x, y => AtomE x y
  | n + 1, x, y => AtomE x y ∨ SeqE H (Al H n) x y
theorem Al.same {H H' : Hp} (k : Same H H') : ∀ {n : Nat} {x y : V}, Al H n x y → Al H' n x y
  | 0, _, _, h => h
  | n + 1, _, _, .inl h => .inl h
  | n + 1, _, _, .inr ⟨a, b, xs, ys, e1, e2, e3, e4, e5⟩ => .inr ⟨a, b, xs, ys, e1, e2, e3.imp (fun z => ⟨k _ _ z.1, k _ _ z.2⟩) (fun z => ⟨k _ _ z.1, k _ _ z.2⟩), Paired.mapP e4 fun _ _ z => Al.same k z, e5⟩
theorem Al.atom {H : Hp} {n : Nat} {x y : V} (h : AtomE x y) : Al H n x y := by
  cases n with
  | zero => exact h
  | succ n => exact .inl h
def spAlike (n : Nat) : Sp := fun vs H Q _ => ∃ x y : V, vs = [x, y] ∧ Al H n x y ∧ ∀ H', Same H H' → Q (.bl true) H'
theorem Paired.at2 {α β : Type} {R : α → β → Prop} : ∀ {as : List α} {bs : List β} {i : Nat} {b : β}, Paired R as bs → bs[i]? = some b → ∃ a, as[i]? = some a ∧ R a b
  | _, _, _, _, .nil, e => by simp at e
  | _, _, 0, t, .cons h _, e => by
    cases Option.some.inj e
    exact ⟨_, rfl, h⟩
  | _, _, i + 1, t, .cons _ h, e => by
    obtain ⟨a, e1, e2⟩ := Paired.at2 (i := i) h (by simpa using e)
    exact ⟨a, by simpa using e1, e2⟩
theorem shaped_str {z : Str} (h : PyData.strOk z = true) : SeqAt.shaped (.str z) = true := by
  unfold SeqAt.shaped
  simp [PyData.canLay0, PyData.depth, h]
theorem shaped_int (z : Int) : SeqAt.shaped (.int z) = true := by
  unfold SeqAt.shaped
  simp [PyData.canLay0, PyData.depth]
section
variable {P : Program} {w : World} {K : PySem.W.Frag} {mg : Str → Option Value} {base : Heap} {c : Cl}
theorem ok__law_alike (T : Txt K mg c) : ∀ n : Nat, GFn P w K mg base CX0 (n + 1) "_law_alike" ["_law_found", "_law_due"] (spAlike n) := by
  intro n
  induction n with
  | zero =>
    obtain ⟨f, fd, F, hm, hb⟩ := T.d__law_alike
    refine ⟨f, fd, hm, F.kp, hb, F.ok sc__law_alike (fun vs H Q E h => ?_) (fun cdv A outer s H vs Q E hr h => ?_)⟩
    · obtain ⟨x, y, rfl, _⟩ := h
      rfl
    · obtain ⟨x, y, rfl, hal, q⟩ := h
      have nd := sc__law_alike.nd
      refine ⟨_, (pss_cons (ps_if (pt_val (pe_callB call_isi (by rfl) T.b_isinstance boot_isinstance (pa_cons (pv 1) (pa_cons (pe_bltn (v := .ty "str") (by rfl) T.b_str boot_str rfl) pa_nil))))
        (pss_one (ps_ret (pe_and (pe_callB call_isi (by rfl) T.b_isinstance boot_isinstance (pa_cons (pv 0) (pa_cons (pe_bltn (v := .ty "str") (by rfl) T.b_str boot_str rfl) pa_nil))) (pe_one (pe_cmpR (op_eqD hr.units) (pv 0) (pv 1) (nomark _))))))
        pss_nil)
      (pss_cons (ps_if (pt_val (pe_callB call_isi (by rfl) T.b_isinstance boot_isinstance (pa_cons (pv 1) (pa_cons (pe_bltn (v := .ty "int") (by rfl) T.b_int boot_int rfl) pa_nil))))
        (pss_one (ps_ret (pe_and (pe_callB call_isi (by rfl) T.b_isinstance boot_isinstance (pa_cons (pv 0) (pa_cons (pe_bltn (v := .ty "int") (by rfl) T.b_int boot_int rfl) pa_nil))) (pe_and (pe_not (pe_callB call_isi (by rfl) T.b_isinstance boot_isinstance (pa_cons (pv 0) (pa_cons (pe_bltn (v := .ty "bool") (by rfl) T.b_bool boot_bool rfl) pa_nil)))) (pe_one (pe_cmpR (op_eqD hr.units) (pv 0) (pv 1) (nomark _)))))))
        pss_nil) pss_never)), ?_⟩
      cases (show AtomE x y from hal) with
      | s z hz =>
        refine ⟨_, rfl, _, _, _, _, true, rfl, .ty _, .base (.str z), kit_ty (by decide), _, rfl, ?_⟩
        refine ⟨_, rfl, _, _, _, _, true, rfl, .ty _, .base (.str z), kit_ty (by decide), _, rfl, ?_⟩
        refine ⟨_, rfl, _, rfl, _, _, .str z, .str z, shaped_str hz, shaped_str hz, ?_⟩
        have : PyData.eqv (.str z) (.str z) = true := by simp [PyData.eqv]
        rw [this]
        exact q H (Same.refl _)
      | i z =>
        refine ⟨_, rfl, _, _, _, _, false, rfl, .ty _, .base (.int z), kit_ty (by decide), _, rfl, ?_⟩
        refine ⟨_, rfl, _, _, _, _, true, rfl, .ty _, .base (.int z), kit_ty (by decide), _, rfl, ?_⟩
        refine ⟨_, rfl, _, _, _, _, true, rfl, .ty _, .base (.int z), kit_ty (by decide), _, rfl, ?_⟩
        refine ⟨_, rfl, _, _, _, _, false, rfl, .ty _, .base (.int z), kit_ty (by decide), _, rfl, _, rfl, ?_⟩
        refine ⟨_, rfl, _, rfl, _, _, .int z, .int z, shaped_int z, shaped_int z, ?_⟩
        have : PyData.eqv (.int z) (.int z) = true := by simp [PyData.eqv]
        rw [this]
        exact q H (Same.refl _)
  | succ n ih =>
    have g__law_alike : GFn P w K mg base CX0 (n + 1) "_law_alike" ["_law_found", "_law_due"] (spAlike n) := ih
    obtain ⟨f, fd, F, hm, hb⟩ := T.d__law_alike
    refine ⟨f, fd, hm, F.kp, hb, F.ok sc__law_alike (fun vs H Q E h => ?_) (fun cdv A outer s H vs Q E hr h => ?_)⟩
    · obtain ⟨x, y, rfl, _⟩ := h
      rfl
    · obtain ⟨x, y, rfl, hal | ⟨a, b, xs, ys, rfl, rfl, ⟨ha2, hb2⟩ | ⟨ha2, hb2⟩, hp, hl⟩, q⟩ := h
      · have nd := sc__law_alike.nd
        refine ⟨_, (pss_cons (ps_if (pt_val (pe_callB call_isi (by rfl) T.b_isinstance boot_isinstance (pa_cons (pv 1) (pa_cons (pe_bltn (v := .ty "str") (by rfl) T.b_str boot_str rfl) pa_nil))))
          (pss_one (ps_ret (pe_and (pe_callB call_isi (by rfl) T.b_isinstance boot_isinstance (pa_cons (pv 0) (pa_cons (pe_bltn (v := .ty "str") (by rfl) T.b_str boot_str rfl) pa_nil))) (pe_one (pe_cmpR (op_eqD hr.units) (pv 0) (pv 1) (nomark _))))))
          pss_nil)
        (pss_cons (ps_if (pt_val (pe_callB call_isi (by rfl) T.b_isinstance boot_isinstance (pa_cons (pv 1) (pa_cons (pe_bltn (v := .ty "int") (by rfl) T.b_int boot_int rfl) pa_nil))))
          (pss_one (ps_ret (pe_and (pe_callB call_isi (by rfl) T.b_isinstance boot_isinstance (pa_cons (pv 0) (pa_cons (pe_bltn (v := .ty "int") (by rfl) T.b_int boot_int rfl) pa_nil))) (pe_and (pe_not (pe_callB call_isi (by rfl) T.b_isinstance boot_isinstance (pa_cons (pv 0) (pa_cons (pe_bltn (v := .ty "bool") (by rfl) T.b_bool boot_bool rfl) pa_nil)))) (pe_one (pe_cmpR (op_eqD hr.units) (pv 0) (pv 1) (nomark _)))))))
          pss_nil) pss_never)), ?_⟩
        cases (show AtomE x y from hal) with
        | s z hz =>
          refine ⟨_, rfl, _, _, _, _, true, rfl, .ty _, .base (.str z), kit_ty (by decide), _, rfl, ?_⟩
          refine ⟨_, rfl, _, _, _, _, true, rfl, .ty _, .base (.str z), kit_ty (by decide), _, rfl, ?_⟩
          refine ⟨_, rfl, _, rfl, _, _, .str z, .str z, shaped_str hz, shaped_str hz, ?_⟩
          have : PyData.eqv (.str z) (.str z) = true := by simp [PyData.eqv]
          rw [this]
          exact q H (Same.refl _)
        | i z =>
          refine ⟨_, rfl, _, _, _, _, false, rfl, .ty _, .base (.int z), kit_ty (by decide), _, rfl, ?_⟩
          refine ⟨_, rfl, _, _, _, _, true, rfl, .ty _, .base (.int z), kit_ty (by decide), _, rfl, ?_⟩
          refine ⟨_, rfl, _, _, _, _, true, rfl, .ty _, .base (.int z), kit_ty (by decide), _, rfl, ?_⟩
          refine ⟨_, rfl, _, _, _, _, false, rfl, .ty _, .base (.int z), kit_ty (by decide), _, rfl, _, rfl, ?_⟩
          refine ⟨_, rfl, _, rfl, _, _, .int z, .int z, shaped_int z, shaped_int z, ?_⟩
          have : PyData.eqv (.int z) (.int z) = true := by simp [PyData.eqv]
          rw [this]
          exact q H (Same.refl _)
      · have nd := sc__law_alike.nd
        refine ⟨_, (pss_cons (ps_if (pt_val (pe_callB call_isi (by rfl) T.b_isinstance boot_isinstance (pa_cons (pv 1) (pa_cons (pe_bltn (v := .ty "str") (by rfl) T.b_str boot_str rfl) pa_nil))))
          (pss_one (ps_ret (pe_and (pe_callB call_isi (by rfl) T.b_isinstance boot_isinstance (pa_cons (pv 0) (pa_cons (pe_bltn (v := .ty "str") (by rfl) T.b_str boot_str rfl) pa_nil))) (pe_one (pe_cmpR (op_eqD hr.units) (pv 0) (pv 1) (nomark _))))))
          pss_nil)
        (pss_cons (ps_if (pt_val (pe_callB call_isi (by rfl) T.b_isinstance boot_isinstance (pa_cons (pv 1) (pa_cons (pe_bltn (v := .ty "int") (by rfl) T.b_int boot_int rfl) pa_nil))))
          (pss_one (ps_ret (pe_and (pe_callB call_isi (by rfl) T.b_isinstance boot_isinstance (pa_cons (pv 0) (pa_cons (pe_bltn (v := .ty "int") (by rfl) T.b_int boot_int rfl) pa_nil))) (pe_and (pe_not (pe_callB call_isi (by rfl) T.b_isinstance boot_isinstance (pa_cons (pv 0) (pa_cons (pe_bltn (v := .ty "bool") (by rfl) T.b_bool boot_bool rfl) pa_nil)))) (pe_one (pe_cmpR (op_eqD hr.units) (pv 0) (pv 1) (nomark _)))))))
          pss_nil)
        (pss_cons (ps_if (pt_val (pe_callB call_isi (by rfl) T.b_isinstance boot_isinstance (pa_cons (pv 1) (pa_cons (pe_bltn (v := .ty "list") (by rfl) T.b_list boot_list rfl) pa_nil))))
          (pss_one (ps_if (pt_not (pt_val (pe_callB call_isi (by rfl) T.b_isinstance boot_isinstance (pa_cons (pv 0) (pa_cons (pe_bltn (v := .ty "list") (by rfl) T.b_list boot_list rfl) pa_nil)))))
            (pss_one (ps_ret pe_bl))
            pss_nil))
          (pss_one (ps_if (pt_not (pt_val (pe_callB call_isi (by rfl) T.b_isinstance boot_isinstance (pa_cons (pv 0) (pa_cons (pe_bltn (v := .ty "tuple") (by rfl) T.b_tuple boot_tuple rfl) pa_nil)))))
            (pss_one (ps_ret pe_bl))
            pss_nil)))
        (pss_cons (ps_if (pt_cmpR op_ne (pe_callB call_len_seq (by rfl) T.b_len boot_len (pa_cons (pv 0) pa_nil)) (pe_callB call_len_seq (by rfl) T.b_len boot_len (pa_cons (pv 1) pa_nil)) (nomark _))
          (pss_one (ps_ret pe_bl))
          pss_nil)
        (pss_cons (ps_for PassesOwn.never rfl (pi_range1 (by rfl) T.b_range (pa_cons (pe_callB call_len_seq (by rfl) T.b_len boot_len (pa_cons (pv 1) pa_nil)) pa_nil)) (pg_name (i := 2) nd rfl (.inl rfl))
          (pss_one (ps_if (pt_not (pt_val (pe_g g__law_alike hr (by rfl) pass0 (pa_cons (pe_ix ix_list (pv 0) (pv 2) (fun _ _ => rfl)) (pa_cons (pe_ix ix_list (pv 1) (pv 2) (fun _ _ => rfl)) pa_nil)) (hk := Nat.le_refl _))))
            (pss_one (ps_ret pe_bl))
            pss_nil)))
        (pss_one (ps_ret pe_bl))))))), ?_⟩
        refine ⟨_, rfl, _, _, _, _, false, rfl, .ty _, .base (.lst hb2), kit_ty (by decide), _, rfl, ?_⟩
        refine ⟨_, rfl, _, _, _, _, false, rfl, .ty _, .base (.lst hb2), kit_ty (by decide), _, rfl, ?_⟩
        refine ⟨_, rfl, _, _, _, _, true, rfl, .ty _, .base (.lst hb2), kit_ty (by decide), _, rfl, _, rfl, _, _, _, _, true, rfl, .ty _, .base (.lst ha2), kit_ty (by decide), _, rfl, ?_⟩
        have hlen : xs.length = ys.length := Paired.length hp
        refine ⟨_, rfl, a, _, rfl, .inl (SqL.of ha2), _, rfl, b, _, rfl, .inl (SqL.of hb2), rfl, _, rfl, ite2 (fun e => ?_) (fun _ => ?_)⟩
        · exfalso
          rw [hlen] at e
          simp at e
        refine ⟨_, rfl, b, _, rfl, .inl (SqL.of hb2), _, rfl, by omega, by omega, for_range (fun i σ H' => ∃ y2, σ = [some (.ref a), some (.ref b), y2] ∧ Same H H') ⟨none, rfl, Same.refl _⟩ ?_ ?_⟩
        · rintro i σ H2 hi ⟨y2, rfl, s2⟩
          have hi' : i < ys.length := by
            have : i < ((ys.length : Nat) : Int).toNat := hi
            omega
          have ey : ys[i]? = some ys[i] := List.getElem?_eq_getElem hi'
          obtain ⟨x, ex, hal⟩ := Paired.at2 hp ey
          refine ⟨_, rfl, _, rfl, a, _, _, _, rfl, rfl, SqL.of (s2 _ _ ha2), by rw [Int.zero_add]; exact atI_nat ex, _, rfl, _, rfl, b, _, _, _, rfl, rfl, SqL.of (s2 _ _ hb2), by rw [Int.zero_add]; exact atI_nat ey, ?_⟩
          exact ⟨_, _, rfl, hal.same s2, fun H3 s3 => ⟨_, rfl, _, rfl, s2.trans s3⟩⟩
        · rintro σ H2 ⟨y2, rfl, s2⟩
          exact q H2 s2
      · have nd := sc__law_alike.nd
        refine ⟨_, (pss_cons (ps_if (pt_val (pe_callB call_isi (by rfl) T.b_isinstance boot_isinstance (pa_cons (pv 1) (pa_cons (pe_bltn (v := .ty "str") (by rfl) T.b_str boot_str rfl) pa_nil))))
          (pss_one (ps_ret (pe_and (pe_callB call_isi (by rfl) T.b_isinstance boot_isinstance (pa_cons (pv 0) (pa_cons (pe_bltn (v := .ty "str") (by rfl) T.b_str boot_str rfl) pa_nil))) (pe_one (pe_cmpR (op_eqD hr.units) (pv 0) (pv 1) (nomark _))))))
          pss_nil)
        (pss_cons (ps_if (pt_val (pe_callB call_isi (by rfl) T.b_isinstance boot_isinstance (pa_cons (pv 1) (pa_cons (pe_bltn (v := .ty "int") (by rfl) T.b_int boot_int rfl) pa_nil))))
          (pss_one (ps_ret (pe_and (pe_callB call_isi (by rfl) T.b_isinstance boot_isinstance (pa_cons (pv 0) (pa_cons (pe_bltn (v := .ty "int") (by rfl) T.b_int boot_int rfl) pa_nil))) (pe_and (pe_not (pe_callB call_isi (by rfl) T.b_isinstance boot_isinstance (pa_cons (pv 0) (pa_cons (pe_bltn (v := .ty "bool") (by rfl) T.b_bool boot_bool rfl) pa_nil)))) (pe_one (pe_cmpR (op_eqD hr.units) (pv 0) (pv 1) (nomark _)))))))
          pss_nil)
        (pss_cons (ps_if (pt_val (pe_callB call_isi (by rfl) T.b_isinstance boot_isinstance (pa_cons (pv 1) (pa_cons (pe_bltn (v := .ty "list") (by rfl) T.b_list boot_list rfl) pa_nil))))
          (pss_one (ps_if (pt_not (pt_val (pe_callB call_isi (by rfl) T.b_isinstance boot_isinstance (pa_cons (pv 0) (pa_cons (pe_bltn (v := .ty "list") (by rfl) T.b_list boot_list rfl) pa_nil)))))
            (pss_one (ps_ret pe_bl))
            pss_nil))
          (pss_one (ps_if (pt_not (pt_val (pe_callB call_isi (by rfl) T.b_isinstance boot_isinstance (pa_cons (pv 0) (pa_cons (pe_bltn (v := .ty "tuple") (by rfl) T.b_tuple boot_tuple rfl) pa_nil)))))
            (pss_one (ps_ret pe_bl))
            pss_nil)))
        (pss_cons (ps_if (pt_cmpR op_ne (pe_callB call_len_seq (by rfl) T.b_len boot_len (pa_cons (pv 0) pa_nil)) (pe_callB call_len_seq (by rfl) T.b_len boot_len (pa_cons (pv 1) pa_nil)) (nomark _))
          (pss_one (ps_ret pe_bl))
          pss_nil)
        (pss_cons (ps_for PassesOwn.never rfl (pi_range1 (by rfl) T.b_range (pa_cons (pe_callB call_len_seq (by rfl) T.b_len boot_len (pa_cons (pv 1) pa_nil)) pa_nil)) (pg_name (i := 2) nd rfl (.inl rfl))
          (pss_one (ps_if (pt_not (pt_val (pe_g g__law_alike hr (by rfl) pass0 (pa_cons (pe_ix ix_tup (pv 0) (pv 2) (fun _ _ => rfl)) (pa_cons (pe_ix ix_tup (pv 1) (pv 2) (fun _ _ => rfl)) pa_nil)) (hk := Nat.le_refl _))))
            (pss_one (ps_ret pe_bl))
            pss_nil)))
        (pss_one (ps_ret pe_bl))))))), ?_⟩
        refine ⟨_, rfl, _, _, _, _, false, rfl, .ty _, .base (.tup hb2), kit_ty (by decide), _, rfl, ?_⟩
        refine ⟨_, rfl, _, _, _, _, false, rfl, .ty _, .base (.tup hb2), kit_ty (by decide), _, rfl, ?_⟩
        refine ⟨_, rfl, _, _, _, _, false, rfl, .ty _, .base (.tup hb2), kit_ty (by decide), _, rfl, _, rfl, _, _, _, _, true, rfl, .ty _, .base (.tup ha2), kit_ty (by decide), _, rfl, ?_⟩
        have hlen : xs.length = ys.length := Paired.length hp
        refine ⟨_, rfl, a, _, rfl, .inr (SqT.of ha2), _, rfl, b, _, rfl, .inr (SqT.of hb2), rfl, _, rfl, ite2 (fun e => ?_) (fun _ => ?_)⟩
        · exfalso
          rw [hlen] at e
          simp at e
        refine ⟨_, rfl, b, _, rfl, .inr (SqT.of hb2), _, rfl, by omega, by omega, for_range (fun i σ H' => ∃ y2, σ = [some (.ref a), some (.ref b), y2] ∧ Same H H') ⟨none, rfl, Same.refl _⟩ ?_ ?_⟩
        · rintro i σ H2 hi ⟨y2, rfl, s2⟩
          have hi' : i < ys.length := by
            have : i < ((ys.length : Nat) : Int).toNat := hi
            omega
          have ey : ys[i]? = some ys[i] := List.getElem?_eq_getElem hi'
          obtain ⟨x, ex, hal⟩ := Paired.at2 hp ey
          refine ⟨_, rfl, _, rfl, a, _, _, _, rfl, rfl, SqT.of (s2 _ _ ha2), by rw [Int.zero_add]; exact atI_nat ex, _, rfl, _, rfl, b, _, _, _, rfl, rfl, SqT.of (s2 _ _ hb2), by rw [Int.zero_add]; exact atI_nat ey, ?_⟩
          exact ⟨_, _, rfl, hal.same s2, fun H3 s3 => ⟨_, rfl, _, rfl, s2.trans s3⟩⟩
        · rintro σ H2 ⟨y2, rfl, s2⟩
          exact q H2 s2

end
end FC
/-! W22: a dict locked from here on; the law's length. -/
namespace FC
open PySem PySem.Spec PyProof.Rows L2
/-- the dict that e gives is locked from here on -/
def tLk (td : TE) : TE := fun σ H Q => td σ H fun x H1 => ∃ (d : Addr) (kvs : List (Key × V)), x = .ref d ∧ H1 d = some (.dK kvs) ∧ ∀ o, Q x (upd H1 d (.frz o (.dK kvs)))
theorem pe_lk {X : Cx} {e : Expr} {td : TE} (he : PE X e td) : PE X e (tLk td) := by
  refine ⟨fun pins s σ H Q I hw => ?_⟩
  refine thn (he.run pins s σ H _ I hw) fun v s1 ⟨x, H1, I1, rx, d, kvs, ex, hd, q⟩ => ?_
  obtain ⟨od, I2⟩ := I1.lock hd trivial
  exact ⟨x, _, I2, rx, q od⟩
theorem KA.ofKvs {H : Hp} {kvs : List (Key × V)} {ws : Words} (h : KvsAt H kvs ws) : KA (PostsAt H) kvs ws := h
/-- the dict of a field is not the table -/
theorem tab_ne {H : Hp} {tb dw : Addr} {kvs : List (Key × V)} {f : List Nat} {ws : Words} (h1 : H tb = some (.dK kvs)) (h2 : valV kvs (Sum.inr (S f) : Key) = some (V.ref dw)) (h3 : WordsAt H dw ws) : tb ≠ dw := by
  intro z
  obtain ⟨wk, h4, h5⟩ := h3
  rw [← z, h1] at h4
  have h4' := Option.some.inj h4
  injection h4' with h4'
  subst h4'
  rcases (KA.ofKvs h5).get (f := f) with ⟨_, g⟩ | ⟨_, l, _, g, ts, g2, _⟩
  · rw [h2] at g
    cases g
  · rw [h2] at g
    cases g
    rw [← z, h1] at g2
    cases g2
def lensP (ps : Posts) (m : Int) : List Int := (ps.filter fun p => decide (p.1 = m)).map fun p => (p.2.length : Int)
theorem lensP_sum (m : Int) : ∀ ps : Posts, (lensP ps m).sum = ((gathP ps m).length : Int)
  | [] => rfl
  | p :: ps => by
    have ih := lensP_sum m ps
    unfold lensP at ih ⊢
    show _ = (((if p.1 = m then p.2 else []) ++ gathP ps m).length : Int)
    by_cases h : p.1 = m
    · rw [List.filter_cons_of_pos (by simp [h]), List.map_cons, List.sum_cons, ih, if_pos h, List.length_append]
      omega
    · rw [List.filter_cons_of_neg (by simp [h]), ih, if_neg h, List.nil_append]
theorem lensP_snoc (ps : Posts) (i : Nat) (p : Int × List Int) (h : ps[i]? = some p) (m : Int) : lensP (ps.take (i + 1)) m = lensP (ps.take i) m ++ if p.1 = m then [(p.2.length : Int)] else [] := by
  unfold lensP
  rw [List.take_add_one, h, List.filter_append, List.map_append]
  congr 1
  show ([p].filter _).map _ = _
  by_cases e : p.1 = m <;> simp [e]
theorem lensP_len (ps : Posts) (i : Nat) (m : Int) : (lensP (ps.take i) m).length ≤ ps.length := by
  unfold lensP
  rw [List.length_map]
  exact Nat.le_trans (List.length_filter_le _ _) (List.length_take_le' _ _)
def spLLen : Sp := fun vs H Q _ => ∃ (tb : Addr) (tab : Tab) (m : Int) (f : List Nat), vs = [.ref tb, .int m, .str (S f)] ∧ TabAt H tb tab ∧ (∀ wp ∈ wordsIn tab f, wp.2.length ≤ 10000) ∧ ∀ H', Same H H' → Q (.int (lenOf tab m f)) H'
section
variable {P : Program} {w : World} {K : PySem.W.Frag} {mg : Str → Option Value} {base : Heap} {c : Cl}
theorem ok__law_length (T : Txt K mg c) : GFn P w K mg base CX0 1 "_law_length" ["_law_table", "_law_make", "_law_field"] spLLen := by
  obtain ⟨f, fd, F, hm, hb⟩ := T.d__law_length
  refine ⟨f, fd, hm, F.kp, hb, F.ok sc__law_length (fun vs H Q E h => ?_) (fun cdv A outer s H vs Q E hr h => ?_)⟩
  · obtain ⟨tb, tab, m, f, rfl, _⟩ := h
    rfl
  · obtain ⟨tb, tab, m, nm, rfl, ⟨kvs, h1, h2⟩, hsz, q⟩ := h
    have nd := sc__law_length.nd
    have hu := hu_of hr
    rcases h2.get (f := nm) with ⟨g1, g2⟩ | ⟨ws, dw, g1, g2, g3⟩
    · -- no such field
      refine ⟨_, (pss_cons (ps_set (i := 3) nd rfl (.inl rfl) pe_int)
      (pss_cons (ps_for PassesOwn.never rfl (pi_items (pe_lk (pe_dget2 hu (pv 0) (pv 2) pe_dnewK ⟨rfl, rfl, rfl, rfl⟩))) (pg_tup rfl (pgs_cons (pg_name (i := 4) nd rfl (.inl rfl)) (pgs_cons (pg_name (i := 5) nd rfl (.inl rfl)) pgs_nil)))
        pss_never)
      (pss_one (ps_ret (pv 3))))), ?_⟩
      refine ⟨_, rfl, tb, rfl, .inl ⟨_, .inl h1⟩, _, rfl, fun z hz => ⟨_, DGet.k (k := Sum.inr (S nm)) (upd_old h1 hz), ?_⟩⟩
      rw [g2]
      refine ⟨z, [], rfl, upd_same, fun o => ⟨z, o, [], rfl, upd_same, for_it (walk_items (kvs := [])) (fun i σ H' => σ = [some (.ref tb), some (.int m), some (.str (S nm)), some (.int 0), none, none, none, none] ∧ H' = upd (upd H z (.dK [])) z (.frz o (.dK []))) ⟨rfl, rfl⟩ (fun i σ H' _ hq => by rw [hq.2]; exact upd_same) (fun i v σ H' H'' hi => absurd hi (Nat.not_lt_zero i)) ?_⟩⟩
      rintro σ H' ⟨rfl, rfl⟩
      refine ⟨_, rfl, ?_⟩
      have : lenOf tab m nm = 0 := by
        unfold lenOf wordsIn
        rw [g1]
        rfl
      rw [← this]
      exact q _ (Same.mut (Same.upd_new hz) hz)
    · refine ⟨_, (pss_cons (ps_set (i := 3) nd rfl (.inl rfl) pe_int)
      (pss_cons (ps_lock (ps_for PassesOwn.never rfl (pi_items (pe_dget2 hu (pv 0) (pv 2) pe_dnewK ⟨rfl, rfl, rfl, rfl⟩)) (pg_tup rfl (pgs_cons (pg_name (i := 4) nd rfl (.inl rfl)) (pgs_cons (pg_name (i := 5) nd rfl (.inl rfl)) pgs_nil)))
        (pss_one (ps_set (i := 3) nd rfl (.inl rfl) (pe_op op_add (pv 3) (pe_callB (cr_sum rfl) (by rfl) T.b_sum boot_sum (pa_cons (pe_lc (own := [("_law_one", 6), ("_law_places", 7)]) (g := gTup K 2 (gCons (gName 6) (gCons (gName 7) gNil))) (te := tCB (rLenOf K) (tCons (tVar 7) tNil)) rfl nd (pi_list (pv 5)) (blkOk_by (N := ["_law_table", "_law_make", "_law_field", "_law_many", "_law_word", "_law_rows", "_law_one", "_law_places"]) (sc := defScope s__law_length) (by decide +kernel)) (fun _ _ _ _ _ => (pg_tup rfl (pgs_cons (pg_name (i := 6) nd rfl (.inl rfl)) (pgs_cons (pg_name (i := 7) nd rfl (.inl rfl)) pgs_nil)))) (fun _ _ _ _ _ => pts_one (pt_cmpR op_eq (pv 6) (pv 1) (nomark _))) (fun _ _ _ _ _ => (pe_callB call_lenK (by rfl) T.b_len boot_len (pa_cons (pv 7) pa_nil)))) pa_nil)))))))
      (pss_one (ps_ret (pv 3))))), ?_⟩
      have ntd := tab_ne h1 g2 g3
      have hwi : wordsIn tab nm = ws := by unfold wordsIn; rw [g1]; rfl
      rw [hwi] at hsz
      obtain ⟨wk, w1, w2⟩ := g3
      have hwl : wk.length = ws.length := Paired.length w2
      refine ⟨dw, .dK wk, w1, trivial, fun od => ?_⟩
      have t1 : upd H dw (.frz od (.dK wk)) tb = some (.dK kvs) := by rw [upd_ne ntd]; exact h1
      refine ⟨_, rfl, tb, rfl, .inl ⟨_, .inl t1⟩, _, rfl, fun z hz => ⟨_, DGet.k (k := Sum.inr (S nm)) (upd_old t1 hz), ?_⟩⟩
      rw [g2]
      have hz0 : H z = none := by
        have := (free_ne hz).2
        exact this
      refine ⟨dw, od, wk, rfl, upd_old upd_same hz, for_it walk_items (fun i σ H' => ∃ y4 y5, σ = [some (.ref tb), some (.int m), some (.str (S nm)), some (.int ((gath (ws.take i) m).length : Int)), y4, y5, none, none] ∧ H' dw = some (.frz od (.dK wk)) ∧ Kp [dw] H H') ⟨none, none, rfl, upd_old upd_same hz, (Kp.refl.at (by simp)).new hz⟩ (fun i σ H' _ ⟨_, _, _, z, _⟩ => z) ?_ ?_⟩
      · rintro i v σ H2 H2' hi ⟨y4, y5, rfl, h2d, k2⟩ ⟨t, u1, u2, rfl, ht, rfl, e1, e2⟩
        dsimp only at e1 e2
        cases ek : wk[i]? with
        | none => rw [ek] at e1; cases e1
        | some kv =>
          rw [ek] at e1 e2
          cases Option.some.inj e1
          cases Option.some.inj e2
          obtain ⟨k, v⟩ := kv
          obtain ⟨wp, ew, rfl, rl, rfl, ts, p1, p2⟩ := w2.at ek
          have hrl : rl ≠ dw := ne_of p1 w1 (by intro z; cases z)
          have p1' : upd H2 t (.tup [kV (Sum.inr (S wp.1)), .ref rl]) rl = some (.lst (ts.map fun t => V.ref t.1)) := upd_old (k2 _ _ p1 (by simpa using hrl)) ht
          have hpl : ts.length = wp.2.length := Paired.length p2
          have hs10 := hsz _ (List.mem_of_getElem? ew)
          refine ⟨t, [kV (Sum.inr (S wp.1)), .ref rl], rfl, SqT.of upd_same, rfl, .str (S wp.1), [.ref rl], rfl, .ref rl, [], rfl, rfl, ?_⟩
          refine ⟨_, rfl, _, rfl, rl, rfl, ⟨_, SqL.of p1'⟩, fun D hD => lc_list (xs := ts.map fun t => V.ref t.1) (fun j H' => H' = upd (upd H2 t (.tup [kV (Sum.inr (S wp.1)), .ref rl])) D (.lst ((lensP (wp.2.take j) m).map V.int))) rfl (fun j H' _ z => by rw [z]; exact SqL.of (upd_old p1' hD)) ?_ ?_⟩
          · rintro j v H3 hv rfl
            rw [List.getElem?_map] at hv
            cases et : ts[j]? with
            | none => rw [et] at hv; cases hv
            | some tt =>
              rw [et] at hv
              cases Option.some.inj hv
              obtain ⟨p, ep, a1, a2⟩ := p2.at et
              have n1 : tt.1 ≠ dw := ne_of a1 w1 (by intro z; cases z)
              have n2 : tt.2 ≠ dw := ne_of a2 w1 (by intro z; cases z)
              have b1 : ∀ u, upd (upd H2 t (.tup [kV (Sum.inr (S wp.1)), .ref rl])) D u tt.1 = some (.tup [.int p.1, .ref tt.2]) := fun u => upd_old (upd_old (k2 _ _ a1 (by simpa using n1)) ht) hD
              have b2 : ∀ u, upd (upd H2 t (.tup [kV (Sum.inr (S wp.1)), .ref rl])) D u tt.2 = some (.lst (p.2.map V.int)) := fun u => upd_old (upd_old (k2 _ _ a2 (by simpa using n2)) ht) hD
              refine ⟨tt.1, [.int p.1, .ref tt.2], rfl, SqT.of (b1 _), rfl, .int p.1, [.ref tt.2], rfl, .ref tt.2, [], rfl, rfl, rfl, ?_⟩
              refine ⟨_, rfl, _, rfl, rfl, _, rfl, ite2 (fun e9 => ?_) (fun e9 => ?_)⟩
              · have hpm : p.1 = m := V.int.inj (of_decide_eq_true e9)
                refine ⟨_, rfl, tt.2, _, rfl, .inl (SqL.of (b2 _)), _, upd_same, ?_, ?_⟩
                · rw [List.length_map]
                  have := lensP_len wp.2 j m
                  exact sl_lt (by omega)
                · rw [upd_upd, lensP_snoc wp.2 j p ep m, if_pos hpm, List.length_map, List.map_append]
                  rfl
              · have hpm : ¬ p.1 = m := fun z => e9 (decide_eq_true (by rw [z]))
                rw [lensP_snoc wp.2 j p ep m, if_neg hpm, List.append_nil]
          · rintro H3 rfl
            rw [List.length_map, hpl, List.take_length]
            refine ⟨D, lensP wp.2 m, rfl, SqL.of upd_same, _, _, rfl, rfl, some (.str (S wp.1)), some (.ref rl), ?_, ?_, (k2.new ht).new hD⟩
            · rw [lensP_sum, gath_snoc ws i wp ew m, List.length_append]
              rfl
            · exact upd_old (upd_old h2d ht) hD
      · rintro σ H2 ⟨y4, y5, rfl, h2d, k2⟩
        rw [hwl, List.take_length]
        refine ⟨h2d, _, rfl, ?_⟩
        have : ((gath ws m).length : Int) = lenOf tab m nm := by
          unfold lenOf
          rw [hwi]
        rw [this]
        refine q _ fun b o hb' => ?_
        by_cases e : b = dw
        · rw [e, upd_same]
          rw [e, w1] at hb'
          exact hb'
        · rw [upd_ne e]
          exact k2 b o hb' (by simpa using e)
end
end FC
/-! W23: the law's piece_bytes. -/
namespace FC
open PySem PySem.Spec PyProof.Rows L2
/-- tab' is tab with fields and words in order -/
structure Srt (tab tab' : Tab) : Prop where
  nd : (tab.map (·.1)).Nodup
  pm : (tab'.map (·.1)).Perm (tab.map (·.1))
  ok : TabOk tab'
  ws : ∀ p ∈ tab', ∃ ws, findA tab p.1 = some ws ∧ p.2.Perm ws ∧ (ws.map (·.1)).Nodup
theorem findA_nd {α : Type} : ∀ {ps : List (List Nat × α)} {p : List Nat × α}, (ps.map (·.1)).Nodup → p ∈ ps → findA ps p.1 = some p.2
  | q :: ps, p, h, m => by
    have h' := List.nodup_cons.mp h
    rw [findA_cons]
    rcases List.mem_cons.mp m with m | m
    · rw [if_pos (by rw [m]), m]
    · rw [if_neg, findA_nd h'.2 m]
      intro z
      exact h'.1 (List.mem_map.mpr ⟨p, m, z.symm⟩)
theorem gath_perm {a b : Words} (h : a.Perm b) (m : Int) : (gath a m).length = (gath b m).length := by
  unfold gath
  exact (h.flatMap_right _).length_eq
theorem Srt.len {tab tab' : Tab} (h : Srt tab tab') {p : List Nat × Words} (hp : p ∈ tab') (m : Int) : lenOf tab m p.1 = lenOf tab' m p.1 := by
  obtain ⟨ws, e1, e2, _⟩ := h.ws p hp
  unfold lenOf wordsIn
  rw [e1, findA_mem h.ok.2.1 hp]
  show ((gath ws m).length : Int) = ((gath p.2 m).length : Int)
  rw [gath_perm e2]
def spLPieceB : Sp := fun vs H Q _ => ∃ (nl tb : Addr) (makes : List Int) (tab tab' : Tab), vs = [.ref nl, .ref tb] ∧ H nl = some (.lst (makes.map V.int)) ∧ TabAt H tb tab ∧ Srt tab tab' ∧ TabGood tab' ∧ Rises makes ∧ (pb makes tab').length ≤ 1000 ∧
  ∀ H' p, Same H H' → H p = none → H' p = some (.lst ((pb makes tab').map V.int)) → Q (.ref p) H'
section
variable {P : Program} {w : World} {K : PySem.W.Frag} {mg : Str → Option Value} {base : Heap} {c : Cl}
theorem ok__law_piece_bytes (T : Txt K mg c) : GFn P w K mg base CX0 3 "_law_piece_bytes" ["_law_makes", "_law_table"] spLPieceB := by
  obtain ⟨f, fd, F, hm, hb⟩ := T.d__law_piece_bytes
  have g__law_number_bytes : GFn P w K mg base CX0 1 "_law_number_bytes" ["_law_number"] spNumB := ok__law_number_bytes T
  have g__law_text_bytes : GFn P w K mg base CX0 2 "_law_text_bytes" ["_law_text"] spTextB := ok__law_text_bytes T
  have g__law_postings_bytes : GFn P w K mg base CX0 2 "_law_postings_bytes" ["_law_postings"] spPostsB := ok__law_postings_bytes T
  have g__law_length : GFn P w K mg base CX0 1 "_law_length" ["_law_table", "_law_make", "_law_field"] spLLen := ok__law_length T
  refine ⟨f, fd, hm, F.kp, hb, F.ok sc__law_piece_bytes (fun vs H Q E h => ?_) (fun cdv A outer s H vs Q E hr h => ?_)⟩
  · obtain ⟨nl, tb, makes, tab, tab', rfl, _⟩ := h
    rfl
  · obtain ⟨nl, tb, makes, tab, tab', rfl, hN, hT, hs, htg, hri, hsz, q⟩ := h
    have nd := sc__law_piece_bytes.nd
    have hu := hu_of hr
    refine ⟨_, (pss_cons (ps_set (i := 2) nd rfl (.inl rfl) (pe_g g__law_number_bytes hr (by rfl) pass0 (pa_cons (pe_callB call_len_seq (by rfl) T.b_len boot_len (pa_cons (pv 0) pa_nil)) pa_nil)))
      (pss_cons (ps_set (i := 3) nd rfl (.inl rfl) pe_int)
      (pss_cons (ps_for PassesOwn.never rfl (pi_list (pv 0)) (pg_name (i := 4) nd rfl (.inl rfl))
        (pss_cons (ps_set (i := 2) nd rfl (.inl rfl) (pe_op op_cat (pv 2) (pe_g g__law_number_bytes hr (by rfl) pass0 (pa_cons (pe_op op_sub (pv 4) (pv 3)) pa_nil))))
        (pss_one (ps_set (i := 3) nd rfl (.inl rfl) (pv 4)))))
      (pss_cons (ps_set (i := 2) nd rfl (.inl rfl) (pe_op op_cat (pv 2) (pe_g g__law_number_bytes hr (by rfl) pass0 (pa_cons (pe_callB call_lenD (by rfl) T.b_len boot_len (pa_cons (pv 1) pa_nil)) pa_nil))))
      (pss_cons (ps_for PassesOwn.never rfl (pi_list (pe_callB (call_sortedD rfl) (by rfl) T.b_sorted boot_sorted (pa_cons (pv 1) pa_nil))) (pg_name (i := 5) nd rfl (.inl rfl))
        (pss_cons (ps_set (i := 2) nd rfl (.inl rfl) (pe_op op_cat (pv 2) (pe_g g__law_text_bytes hr (by rfl) pass0 (pa_cons (pv 5) pa_nil))))
        (pss_cons (ps_for PassesOwn.never rfl (pi_list (pv 0)) (pg_name (i := 4) nd rfl (.inl rfl))
          (pss_one (ps_set (i := 2) nd rfl (.inl rfl) (pe_op op_cat (pv 2) (pe_g g__law_number_bytes hr (by rfl) pass0 (pa_cons (pe_g g__law_length hr (by rfl) pass0 (pa_cons (pv 1) (pa_cons (pv 4) (pa_cons (pv 5) pa_nil)))) pa_nil))))))
        (pss_cons (ps_set (i := 2) nd rfl (.inl rfl) (pe_op op_cat (pv 2) (pe_g g__law_number_bytes hr (by rfl) pass0 (pa_cons (pe_callB call_lenD (by rfl) T.b_len boot_len (pa_cons (pe_dget hu (pv 1) (pv 5) (fun _ _ => rfl)) pa_nil)) pa_nil))))
        (pss_one (ps_for PassesOwn.never rfl (pi_list (pe_callB (call_sortedD rfl) (by rfl) T.b_sorted boot_sorted (pa_cons (pe_dget hu (pv 1) (pv 5) (fun _ _ => rfl)) pa_nil))) (pg_name (i := 6) nd rfl (.inl rfl))
          (pss_cons (ps_set (i := 2) nd rfl (.inl rfl) (pe_op op_cat (pv 2) (pe_g g__law_text_bytes hr (by rfl) pass0 (pa_cons (pv 6) pa_nil))))
          (pss_one (ps_set (i := 2) nd rfl (.inl rfl) (pe_op op_cat (pv 2) (pe_g g__law_postings_bytes hr (by rfl) pass0 (pa_cons (pe_dget hu (pe_dget hu (pv 1) (pv 5) (fun _ _ => rfl)) (pv 6) (fun _ _ => rfl)) pa_nil))))))))))))
      (pss_one (ps_ret (pv 2)))))))), ?_⟩
    have ni : ∀ n : Nat, numI ((n : Nat) : Int) = numB n := fun n => rfl
    obtain ⟨kvs, hT1, hT2⟩ := id hT
    have hkl : kvs.length = tab'.length := by
      rw [Paired.length hT2, ← List.length_map (f := (·.1)) (as := tab), ← hs.pm.length_eq, List.length_map]
    have hz : (numB makes.length).length + ((placesB 0 makes).length + ((numB tab'.length).length + (tab'.flatMap fun f => fb makes tab' f.1).length)) ≤ 1000 := by
      unfold pb lenI at hsz
      simpa only [List.length_append] using hsz
    -- the next step
    refine ⟨_, rfl, nl, _, rfl, .inl (SqL.of hN), _, rfl, Int.natCast_nonneg _, by rw [ni, List.length_map]; omega, fun H1 l s1 hl0 h1 => ?_⟩
    rw [ni, List.length_map] at h1
    -- the makes
    refine ⟨_, rfl, nl, rfl, ⟨_, SqL.of (s1 _ _ hN)⟩, for_list (xs := makes.map V.int) (fun i σ H' => ∃ l y4, σ = [some (.ref nl), some (.ref tb), some (.ref l), some (.int ((makes.take i).getLast?.getD 0)), y4, none, none] ∧ H l = none ∧ H' l = some (.lst ((lenI makes ++ placesB 0 (makes.take i)).map V.int)) ∧ Same H H')
      ⟨l, none, rfl, hl0, by rw [h1]; show _ = some (HO.lst ((numB makes.length ++ []).map V.int)); rw [List.append_nil], s1⟩ (fun i σ H' _ ⟨_, _, _, _, _, s⟩ => SqL.of (s _ _ hN)) ?_ ?_⟩
    · rintro i v σ H2 hv ⟨l, y4, rfl, hl0, h2, s2⟩
      rw [List.getElem?_map] at hv
      cases ex : makes[i]? with
      | none => rw [ex] at hv; cases hv
      | some x =>
        rw [ex] at hv
        cases Option.some.inj hv
        have hge := hri.ge ex
        have hpre := placesB_pre 0 makes (i + 1)
        rw [placesB_snoc 0 makes i x ex, List.length_append] at hpre
        refine ⟨_, rfl, _, rfl, _, rfl, _, _, rfl, rfl, _, rfl, by omega, by omega, fun H3 p s3 _ hp => ?_⟩
        refine ⟨l, p, _, _, rfl, rfl, s3 _ _ h2, hp, ?_, fun r hr' => ⟨_, rfl, r, some (.int x), ?_, (s2.trans s3).free hr', ?_, Same.new (s2.trans s3) hr'⟩⟩
        · unfold lenI
          simp only [List.length_append, List.length_map]
          exact sl_line (by omega)
        · rw [last_snoc makes i x ex]
          rfl
        · rw [upd_same, placesB_snoc 0 makes i x ex]
          simp only [List.map_append, List.append_assoc]
    rintro σ H2 ⟨l, y4, rfl, hl0, h2, s2⟩
    rw [List.length_map, List.take_length] at h2
    -- the next step
    refine ⟨_, rfl, _, rfl, tb, kvs, rfl, s2 _ _ hT1, _, rfl, Int.natCast_nonneg _, by rw [ni, hkl]; omega, fun H3 p s3 _ hp => ?_⟩
    rw [ni, hkl] at hp
    refine ⟨l, p, _, _, rfl, rfl, s3 _ _ h2, hp, ?_, fun l3 hl3 => ?_⟩
    · unfold lenI
      simp only [List.length_append, List.length_map]
      exact sl_line (by omega)
    have s23 := Same.new (o := .lst ((lenI makes ++ placesB 0 makes).map V.int ++ (numB tab'.length).map V.int)) (s2.trans s3) hl3
    -- the next step
    refine ⟨_, rfl, tb, kvs, tab.map fun p => S p.1, rfl, .inl (s23 _ _ hT1), hT2.keys, ?_, fun ys q1 y1 y2 hq0 => ?_⟩
    · rw [List.length_map, ← Paired.length hT2, hkl]
      exact hs.ok.1
    have ey : ys = (tab'.map (·.1)).map S := by
      refine sorted_same (y1.trans ?_) y2 (List.pairwise_map.mpr hs.ok.2.1)
      have h3 := (hs.pm.map S).symm
      rw [List.map_map] at h3
      exact h3
    subst ey
    have hq1 : q1 ≠ l3 := (ne_of_none upd_same hq0).symm
    refine ⟨q1, rfl, ⟨_, SqL.of upd_same⟩, for_list (xs := ((tab'.map (·.1)).map S).map V.str) (fun i σ H' => ∃ l y3 y4 y5 y6, σ = [some (.ref nl), some (.ref tb), some (.ref l), y3, y4, y5, y6] ∧ H l = none ∧
        H' l = some (.lst ((lenI makes ++ (placesB 0 makes ++ (lenI tab' ++ (tab'.take i).flatMap fun f => fb makes tab' f.1))).map V.int)) ∧ Same H H' ∧ H' q1 = some (.lst (((tab'.map (·.1)).map S).map V.str)))
      ⟨l3, _, y4, none, none, rfl, (s2.trans s3).free hl3, ?_, Same.new s23 hq0, upd_same⟩ (fun i σ H' _ ⟨_, _, _, _, _, _, _, _, _, s⟩ => SqL.of s) ?_ ?_⟩
    · rw [upd_ne hq1.symm, upd_same]
      show _ = some (HO.lst ((lenI makes ++ (placesB 0 makes ++ (numB tab'.length ++ []))).map V.int))
      simp only [List.map_append, List.append_assoc, List.append_nil]
    · rintro i v σ H4 hv ⟨l, y3, y4, y5, y6, rfl, hl0, h4, s4, hq4⟩
      rw [List.getElem?_map, List.getElem?_map, List.getElem?_map] at hv
      cases ef : tab'[i]? with
      | none => rw [ef] at hv; cases hv
      | some fw =>
        rw [ef] at hv
        cases Option.some.inj hv
        have hmem := List.mem_of_getElem? ef
        obtain ⟨ws, e1, e2, e3⟩ := hs.ws fw hmem
        obtain ⟨hno, hwo, hwp⟩ := htg _ hmem
        have hfd : findA tab' fw.1 = some fw.2 := findA_mem hs.ok.2.1 hmem
        have hwi : wordsIn tab' fw.1 = fw.2 := by unfold wordsIn; rw [hfd]; rfl
        have hwi' : wordsIn tab fw.1 = ws := by unfold wordsIn; rw [e1]; rfl
        obtain ⟨ws', dw, f1, f2, wk, f3, f4⟩ : ∃ ws' dw, findA tab fw.1 = some ws' ∧ valV kvs (Sum.inr (S fw.1) : Key) = some (V.ref dw) ∧ WordsAt H dw ws' := by
          rcases hT2.get (f := fw.1) with ⟨z, _⟩ | ⟨ws', dw, z1, z2, z3⟩
          · rw [e1] at z
            cases z
          · exact ⟨ws', dw, z1, z2, z3⟩
        rw [e1] at f1
        cases Option.some.inj f1
        have hwl : wk.length = fw.2.length := by rw [Paired.length f4, e2.length_eq]
        have hpre : ((tab'.take (i + 1)).flatMap fun f => fb makes tab' f.1).length ≤ (tab'.flatMap fun f => fb makes tab' f.1).length := flat_pre _ _ _
        have esn : ((tab'.take (i + 1)).flatMap fun f => fb makes tab' f.1) = ((tab'.take i).flatMap fun f => fb makes tab' f.1) ++ fb makes tab' fw.1 := flat_snoc _ _ _ _ ef
        rw [esn, List.length_append] at hpre
        have efb : fb makes tab' fw.1 = textB fw.1 ++ (lens2 makes tab' fw.1 ++ (lenI fw.2 ++ wordsKB fw.2)) := by
          unfold fb wordsB
          rw [hwi]
        have hfz : (textB fw.1).length + ((lens2 makes tab' fw.1).length + ((numB fw.2.length).length + (wordsKB fw.2).length)) = (fb makes tab' fw.1).length := by
          rw [efb]
          unfold lenI
          simp only [List.length_append]
        obtain ⟨Z, eZ⟩ : ∃ Z, Z = lenI makes ++ (placesB 0 makes ++ (lenI tab' ++ (tab'.take i).flatMap fun f => fb makes tab' f.1)) := ⟨_, rfl⟩
        have hZ : Z.length + (fb makes tab' fw.1).length ≤ 1000 := by
          rw [eZ]
          unfold lenI
          simp only [List.length_append]
          omega
        rw [← eZ] at h4
        -- the next step
        refine ⟨_, rfl, _, rfl, fw.1, rfl, hno, by omega, fun H5 p s5 _ hp => ?_⟩
        refine ⟨l, p, _, _, rfl, rfl, s5 _ _ h4, hp, ?_, fun l5 hl5 => ?_⟩
        · simp only [List.length_append, List.length_map]
          exact sl_line (by omega)
        have s45 := Same.new (o := .lst (Z.map V.int ++ (textB fw.1).map V.int)) (s4.trans s5) hl5
        have hq5 : upd H5 l5 (.lst (Z.map V.int ++ (textB fw.1).map V.int)) q1 = some (.lst (((tab'.map (·.1)).map S).map V.str)) := upd_old (s5 _ _ hq4) hl5
        -- the lengths
        refine ⟨_, rfl, nl, rfl, ⟨_, SqL.of (s45 _ _ hN)⟩, for_list (xs := makes.map V.int) (fun j σ H' => ∃ l y4, σ = [some (.ref nl), some (.ref tb), some (.ref l), y3, y4, some (.str (S fw.1)), y6] ∧ H l = none ∧ H' l = some (.lst ((Z ++ (textB fw.1 ++ lens2 (makes.take j) tab' fw.1)).map V.int)) ∧ Same H H' ∧ H' q1 = some (.lst (((tab'.map (·.1)).map S).map V.str)))
          ⟨l5, y4, rfl, (s4.trans s5).free hl5, ?_, s45, hq5⟩ (fun j σ H' _ ⟨_, _, _, _, _, s, _⟩ => SqL.of (s _ _ hN)) ?_ ?_⟩
        · rw [upd_same]
          show _ = some (HO.lst ((Z ++ (textB fw.1 ++ [])).map V.int))
          simp only [List.map_append, List.append_nil]
        · rintro j v σ H6 hv ⟨l, y4', rfl, hl0', h6, s6, hq6⟩
          rw [List.getElem?_map] at hv
          cases em : makes[j]? with
          | none => rw [em] at hv; cases hv
          | some m =>
            rw [em] at hv
            cases Option.some.inj hv
            have hpre' : (lens2 (makes.take (j + 1)) tab' fw.1).length ≤ (lens2 makes tab' fw.1).length := flat_pre _ _ _
            have esn' : lens2 (makes.take (j + 1)) tab' fw.1 = lens2 (makes.take j) tab' fw.1 ++ numI (lenOf tab' m fw.1) := flat_snoc _ _ _ _ em
            rw [esn', List.length_append] at hpre'
            refine ⟨_, rfl, _, rfl, _, rfl, _, rfl, tb, tab, m, fw.1, rfl, hT.same s6, ?_, fun H7 s7 => ?_⟩
            · intro wp hwp'
              rw [hwi'] at hwp'
              have hwp2 := e2.mem_iff.mpr hwp'
              have h1 := postsB_len wp.2
              have h2 : (textB wp.1 ++ postsB wp.2).length ≤ (wordsKB fw.2).length := by
                obtain ⟨a, ha⟩ := List.getElem?_of_mem hwp2
                have h3 : wordsKB (fw.2.take (a + 1)) = wordsKB (fw.2.take a) ++ (textB wp.1 ++ postsB wp.2) := flat_snoc _ _ _ _ ha
                have h4 : (wordsKB (fw.2.take (a + 1))).length ≤ (wordsKB fw.2).length := flat_pre _ _ _
                rw [h3, List.length_append] at h4
                omega
              rw [List.length_append] at h2
              omega
            rw [hs.len hmem]
            refine ⟨_, rfl, Int.natCast_nonneg _, by omega, fun H8 p s8 _ hp => ?_⟩
            refine ⟨l, p, _, _, rfl, rfl, s8 _ _ (s7 _ _ h6), hp, ?_, fun r hr' => ⟨r, some (.int m), rfl, ((s6.trans s7).trans s8).free hr', ?_, Same.new ((s6.trans s7).trans s8) hr', upd_old (s8 _ _ (s7 _ _ hq6)) hr'⟩⟩
            · simp only [List.length_append, List.length_map]
              exact sl_line (by omega)
            · rw [upd_same, esn']
              simp only [List.map_append, List.append_assoc]
        rintro σ H6 ⟨l, y4', rfl, hl0', h6, s6, hq6⟩
        rw [List.length_map, List.take_length] at h6
        have g6 := DGet.k (k := Sum.inr (S fw.1)) (s6 _ _ hT1)
        rw [f2] at g6
        -- the next step
        refine ⟨_, rfl, _, rfl, _, rfl, tb, _, rfl, g6, dw, wk, rfl, s6 _ _ f3, _, rfl, Int.natCast_nonneg _, by rw [ni, hwl]; omega, fun H7 p s7 _ hp => ?_⟩
        rw [ni, hwl] at hp
        refine ⟨l, p, _, _, rfl, rfl, s7 _ _ h6, hp, ?_, fun l7 hl7 => ?_⟩
        · simp only [List.length_append, List.length_map]
          exact sl_line (by omega)
        have s67 := Same.new (o := .lst ((Z ++ (textB fw.1 ++ lens2 makes tab' fw.1)).map V.int ++ (numB fw.2.length).map V.int)) (s6.trans s7) hl7
        have g7 := DGet.k (k := Sum.inr (S fw.1)) (s67 _ _ hT1)
        rw [f2] at g7
        -- the next step
        refine ⟨_, rfl, _, rfl, tb, _, rfl, g7, dw, wk, ws.map fun p => S p.1, rfl, .inl (s67 _ _ f3), KA.keys (KA.ofKvs f4), ?_, fun ys q2 y1 y2 hq20 => ?_⟩
        · rw [List.length_map, ← e2.length_eq]
          exact (hs.ok.2.2 _ hmem).1
        have ey : ys = (fw.2.map (·.1)).map S := by
          refine sorted_same (y1.trans ?_) y2 (List.pairwise_map.mpr hwp)
          have h3 := ((e2.map (·.1)).map S).symm
          rw [List.map_map] at h3
          exact h3
        subst ey
        have hq2 : q2 ≠ l7 := (ne_of_none upd_same hq20).symm
        have hq17 := upd_old (u := .lst (((fw.2.map (·.1)).map S).map V.str)) (upd_old (u := .lst ((Z ++ (textB fw.1 ++ lens2 makes tab' fw.1)).map V.int ++ (numB fw.2.length).map V.int)) (s7 _ _ hq6) hl7) hq20
        refine ⟨q2, rfl, ⟨_, SqL.of upd_same⟩, for_list (xs := ((fw.2.map (·.1)).map S).map V.str) (fun j σ H' => ∃ l y6, σ = [some (.ref nl), some (.ref tb), some (.ref l), y3, y4', some (.str (S fw.1)), y6] ∧ H l = none ∧
            H' l = some (.lst ((Z ++ (textB fw.1 ++ (lens2 makes tab' fw.1 ++ (lenI fw.2 ++ wordsKB (fw.2.take j))))).map V.int)) ∧ Same H H' ∧ H' q1 = some (.lst (((tab'.map (·.1)).map S).map V.str)) ∧ H' q2 = some (.lst (((fw.2.map (·.1)).map S).map V.str)))
          ⟨l7, y6, rfl, (s6.trans s7).free hl7, ?_, Same.new s67 hq20, hq17, upd_same⟩ (fun j σ H' _ ⟨_, _, _, _, _, _, _, s⟩ => SqL.of s) ?_ ?_⟩
        · rw [upd_ne hq2.symm, upd_same]
          show _ = some (HO.lst ((Z ++ (textB fw.1 ++ (lens2 makes tab' fw.1 ++ (numB fw.2.length ++ [])))).map V.int))
          simp only [List.map_append, List.append_assoc, List.append_nil]
        · rintro j v σ H8 hv ⟨l, y6', rfl, hl0', h8, s8, hq8, hr8⟩
          rw [List.getElem?_map, List.getElem?_map, List.getElem?_map] at hv
          cases ew : fw.2[j]? with
          | none => rw [ew] at hv; cases hv
          | some wp =>
            rw [ew] at hv
            cases Option.some.inj hv
            have hwm := List.mem_of_getElem? ew
            obtain ⟨k1, k2, k3, k4⟩ := hwo _ hwm
            have hpre' : (wordsKB (fw.2.take (j + 1))).length ≤ (wordsKB fw.2).length := flat_pre _ _ _
            have esn' : wordsKB (fw.2.take (j + 1)) = wordsKB (fw.2.take j) ++ (textB wp.1 ++ postsB wp.2) := flat_snoc _ _ _ _ ew
            rw [esn'] at hpre'
            simp only [List.length_append] at hpre'
            obtain ⟨rl, r1, r2⟩ : ∃ rl, valV wk (Sum.inr (S wp.1) : Key) = some (V.ref rl) ∧ PostsAt H rl wp.2 := by
              have hfw : findA ws wp.1 = some wp.2 := findA_nd e3 (e2.mem_iff.mp hwm)
              rcases (KA.ofKvs f4).get (f := wp.1) with ⟨z, _⟩ | ⟨ps, rl, z1, z2, z3⟩
              · rw [hfw] at z
                cases z
              · rw [hfw] at z1
                cases Option.some.inj z1
                exact ⟨rl, z2, z3⟩
            refine ⟨_, rfl, _, rfl, wp.1, rfl, k2, by omega, fun H9 p s9 _ hp => ?_⟩
            refine ⟨l, p, _, _, rfl, rfl, s9 _ _ h8, hp, ?_, fun l9 hl9 => ?_⟩
            · unfold lenI
              simp only [List.length_append, List.length_map]
              exact sl_line (by omega)
            have s89 := Same.new (o := .lst ((Z ++ (textB fw.1 ++ (lens2 makes tab' fw.1 ++ (lenI fw.2 ++ wordsKB (fw.2.take j))))).map V.int ++ (textB wp.1).map V.int)) (s8.trans s9) hl9
            have g9 := DGet.k (k := Sum.inr (S fw.1)) (s89 _ _ hT1)
            rw [f2] at g9
            have g9' := DGet.k (k := Sum.inr (S wp.1)) (s89 _ _ f3)
            rw [r1] at g9'
            refine ⟨_, rfl, _, rfl, _, rfl, tb, _, rfl, g9, _, rfl, dw, _, rfl, g9', rl, wp.2, rfl, r2.same s89, k4, by omega, fun H10 p2 s10 _ hp2 => ?_⟩
            refine ⟨l9, p2, _, _, rfl, rfl, s10 _ _ upd_same, hp2, ?_, fun r hr' => ⟨r, some (.str (S wp.1)), rfl, (s89.trans s10).free hr', ?_, Same.new (s89.trans s10) hr', upd_old (s10 _ _ (upd_old (s9 _ _ hq8) hl9)) hr', upd_old (s10 _ _ (upd_old (s9 _ _ hr8) hl9)) hr'⟩⟩
            · unfold lenI
              simp only [List.length_append, List.length_map]
              exact sl_line (by omega)
            · rw [upd_same, esn']
              simp only [List.map_append, List.append_assoc]
        · rintro σ H8 ⟨l, y6', rfl, hl0', h8, s8, hq8, hr8⟩
          rw [List.length_map, List.length_map, List.length_map, List.take_length] at h8
          refine ⟨l, y3, y4', some (.str (S fw.1)), y6', rfl, hl0', ?_, s8, hq8⟩
          rw [h8, esn, efb, eZ]
          simp only [List.map_append, List.append_assoc]
    · rintro σ H4 ⟨l, y3, y4, y5, y6, rfl, hl0, h4, s4, hq4⟩
      rw [List.length_map, List.length_map, List.length_map, List.take_length] at h4
      exact ⟨_, rfl, q H4 l s4 hl0 h4⟩
end
end FC
/-! W24: the law's number_in. -/
namespace FC
open PySem PySem.Spec PyProof.Rows L2
section
variable {tA tB : TT} {σ : L2.St} {H : Hp} {Q : Bool → Hp → Prop} {p q : Bool}
theorem tAnd2 (h1 : ∀ Q : Bool → Hp → Prop, Q p H → tA σ H Q) (h2 : p = true → ∀ Q : Bool → Hp → Prop, Q q H → tB σ H Q) (k : Q (p && q) H) : tAnd tA tB σ H Q := by
  refine h1 _ ?_
  cases p with
  | true => exact h2 rfl _ k
  | false => exact k
theorem tOr2 (h1 : ∀ Q : Bool → Hp → Prop, Q p H → tA σ H Q) (h2 : p = false → ∀ Q : Bool → Hp → Prop, Q q H → tB σ H Q) (k : Q (p || q) H) : tOr tA tB σ H Q := by
  refine h1 _ ?_
  cases p with
  | false => exact h2 rfl _ k
  | true => exact k
end
section
variable {tA tB : TT} {t u v : TS} {D : Ends} {σ : L2.St} {H : Hp} {p q : Bool}
theorem seq_or (p q : Bool) (h1 : ∀ Q : Bool → Hp → Prop, Q p H → tA σ H Q) (h2 : p = false → ∀ Q : Bool → Hp → Prop, Q q H → tB σ H Q) (k : if (p || q) = true then t { D with nx := v D } σ H else u { D with nx := v D } σ H) : tSeq (tIfS (tOr tA tB) t u) v D σ H :=
  show tOr tA tB σ H _ from tOr2 h1 h2 k
end
theorem bF {c : Bool} {A B : Prop} (e : c = false) (h : B) : if c = true then A else B := by
  subst e
  exact h
theorem bT {c : Bool} {A B : Prop} (e : c = true) (h : A) : if c = true then A else B := by
  subst e
  exact h
theorem fld_snoc (ps : List Int) (p b : Int) : fld (ps ++ [p]) b = fld ps (b * 128 + p) := by
  unfold fld
  rw [List.foldr_append]
  rfl
/-- the place of a suffix -/
structure Suf (H : Hp) (a : Addr) (row re : List Int) : Prop where
  lst : H a = some (.lst (row.map V.int))
  suf : re <:+ row
  len : row.length ≤ 360
theorem Suf.same {H H' : Hp} {a : Addr} {row re : List Int} (h : Suf H a row re) (k : Same H H') : Suf H' a row re := ⟨k _ _ h.lst, h.suf, h.len⟩
theorem Suf.to {H : Hp} {a : Addr} {row re r : List Int} (h : Suf H a row re) (k : r <:+ re) : Suf H a row r := ⟨h.lst, k.trans h.suf, h.len⟩
theorem posR_nil (row : List Int) : posR row [] = (row.length : Int) := by
  unfold posR
  rw [List.length_nil, Nat.sub_zero]
theorem posR_cons {row r : List Int} {b : Int} (h : (b :: r) <:+ row) : posR row (b :: r) + 1 = posR row r ∧ posR row (b :: r) < (row.length : Int) := by
  unfold posR
  have h1 := h.length_le
  have h2 : (b :: r).length = r.length + 1 := rfl
  omega
theorem posR_at {row r : List Int} {b : Int} (h : (b :: r) <:+ row) : atI (row.map V.int) (posR row (b :: r)) = some (.int b) := by
  obtain ⟨g1, g2⟩ := suf_drop h
  refine atI_nat ?_
  rw [List.getElem?_map, g1]
  rfl
/-- None, or a pair of what was read and the place behind -/
def RdN {α : Type} (H : Hp) (row : List Int) (res : Option (α × List Int)) (val : α → Hp → V → Prop) (Q : VK) : Prop :=
  (∀ y r, res = some (y, r) → ∀ t v H', Same H H' → H' t = some (.tup [v, .int (posR row r)]) → val y H' v → Q (.ref t) H') ∧ (res = none → ∀ H', Same H H' → Q .non H')
def spNumIn : Sp := fun vs H Q _ => ∃ (a : Addr) (row re : List Int), vs = [.ref a, .int (posR row re)] ∧ Suf H a row re ∧ RdN H row (numR re) (fun n _ v => v = .int n) Q
section
variable {P : Program} {w : World} {K : PySem.W.Frag} {mg : Str → Option Value} {base : Heap} {c : Cl}
theorem ok__law_number_in (T : Txt K mg c) : GFn P w K mg base CX0 1 "_law_number_in" ["_law_row", "_law_at"] spNumIn := by
  obtain ⟨f, fd, F, hm, hb⟩ := T.d__law_number_in
  refine ⟨f, fd, hm, F.kp, hb, F.ok sc__law_number_in (fun vs H Q E h => ?_) (fun cdv A outer s H vs Q E hr h => ?_)⟩
  · obtain ⟨a, row, re, rfl, _⟩ := h
    rfl
  · obtain ⟨a, row, re, rfl, S0, q1, q2⟩ := h
    have nd := sc__law_number_in.nd
    refine ⟨_, (pss_cons (ps_set (i := 2) nd rfl (.inl rfl) pe_int)
      (pss_cons (ps_set (i := 3) nd rfl (.inl rfl) pe_int)
      (pss_cons (ps_set (i := 4) nd rfl (.inl rfl) (pv 1))
      (pss_cons (ps_while PassesOwn.never (PW.pt (pw_and (pt_cmpR op_lt (pv 1) (pe_callB call_len_seq (by rfl) T.b_len boot_len (pa_cons (pv 0) pa_nil)) (nomark _)) (pw_and1 (pt_chain op_le op_le pe_int (pe_ix ix_list (pv 0) (pv 1) (fun _ _ => rfl)) pe_int))))
        (pss_cons (ps_set (i := 2) nd rfl (.inl rfl) (pe_op op_add (pv 2) (pe_op op_mul (pe_op op_sub (pe_ix ix_list (pv 0) (pv 1) (fun _ _ => rfl)) pe_int) (pv 3))))
        (pss_cons (ps_set (i := 3) nd rfl (.inl rfl) (pe_op op_mul (pv 3) pe_int))
        (pss_one (ps_set (i := 1) nd rfl (.inl rfl) (pe_op op_add (pv 1) pe_int))))))
      (pss_cons (ps_if (PW.pt (pw_or (pt_cmpR op_eq (pv 1) (pe_callB call_len_seq (by rfl) T.b_len boot_len (pa_cons (pv 0) pa_nil)) (nomark _)) (pw_or (pt_cmpR op_lt (pe_ix ix_list (pv 0) (pv 1) (fun _ _ => rfl)) pe_int (nomark _)) (pw_or (pt_cmpR op_gt (pe_ix ix_list (pv 0) (pv 1) (fun _ _ => rfl)) pe_int (nomark _)) (pw_or1 (PW.pt (pw_and (pt_cmpR op_eq (pe_ix ix_list (pv 0) (pv 1) (fun _ _ => rfl)) pe_int (nomark _)) (pw_and1 (pt_cmpR op_gt (pv 1) (pv 4) (nomark _))))))))))
        (pss_one (ps_ret pe_non))
        pss_nil)
      (pss_one (ps_ret (pe_tup (pa_cons (pe_op op_add (pv 2) (pe_op op_mul (pe_ix ix_list (pv 0) (pv 1) (fun _ _ => rfl)) (pv 3))) (pa_cons (pe_op op_add (pv 1) pe_int) pa_nil)))))))))), ?_⟩
    have hA := S0.lst
    refine ⟨_, rfl, fun m σ H' => ∃ (ps re' : List Int) (fo po : Int), σ = [some (.ref a), some (.int (posR row re')), some (.int fo), some (.int po), some (.int (posR row re))] ∧ m = re'.length ∧ H' = H ∧ re' <:+ row ∧ posR row re' = posR row re + (ps.length : Int) ∧ (∀ p ∈ ps, 0 ≤ p) ∧ (∀ b, fld ps b = fo + b * po) ∧ numR re = gpt ps (numR re'),
      ⟨re.length, [], re, 0, 1, rfl, rfl, rfl, S0.suf, by simp, (fun _ z => nomatch z), fun b => by show b = 0 + b * 1; omega, rfl⟩, ?_⟩
    rintro m σ H2 ⟨ps, re', fo, po, rfl, rfl, rfl, suf', epos, hps, hfl, en⟩
    cases re' with
    | nil =>
      refine tAnd2 (p := false) (q := false) (fun Q q => ⟨_, rfl, _, rfl, a, _, rfl, .inl (SqL.of hA), _, _, rfl, rfl, _, rfl, ?_⟩) (fun z => nomatch z) ?_
      · rw [posR_nil, List.length_map]
        rw [decide_eq_false (Int.lt_irrefl _)]
        exact q
      · refine bF rfl ?_
        dsimp only
        refine seq_or true false (fun Q q => ⟨_, rfl, _, rfl, a, _, rfl, .inl (SqL.of hA), rfl, _, rfl, ?_⟩) (fun z => nomatch z) ?_
        · rw [posR_nil, List.length_map, decide_eq_true rfl]
          exact q
        · refine bT rfl (q2 ?_ _ (Same.refl _))
          rw [en]
          exact gpt_none ps
    | cons b r =>
      obtain ⟨c1, c2⟩ := posR_cons suf'
      have cA := posR_at suf'
      have sr : r <:+ row := (List.suffix_cons b r).trans suf'
      refine tAnd2 (p := true) (q := decide (128 ≤ b ∧ b ≤ 255)) (fun Q q => ⟨_, rfl, _, rfl, a, _, rfl, .inl (SqL.of hA), _, _, rfl, rfl, _, rfl, ?_⟩) (fun _ Q q => ⟨_, rfl, _, rfl, a, _, _, _, rfl, rfl, SqL.of hA, cA, _, _, rfl, rfl, _, rfl, ite2 (fun e1 => ⟨_, _, rfl, rfl, _, rfl, ?_⟩) (fun e1 => ?_)⟩) ?_
      · rw [List.length_map, decide_eq_true c2]
        exact q
      · have e1' : 128 ≤ b := of_decide_eq_true e1
        have : decide (128 ≤ b ∧ b ≤ 255) = decide (b ≤ 255) := by simp [e1']
        rwa [this] at q
      · have e1' : ¬ 128 ≤ b := of_decide_eq_false (Bool.eq_false_iff.mpr e1)
        have : decide (128 ≤ b ∧ b ≤ 255) = false := by simp [e1']
        rw [this] at q
        exact ⟨_, rfl, q⟩
      · by_cases hb : 128 ≤ b ∧ b ≤ 255
        · refine bT (by rw [decide_eq_true hb]; rfl) ?_
          refine ⟨fun σ' H' => σ' = [some (.ref a), some (.int (posR row r)), some (.int (fo + (b - 128) * po)), some (.int (po * 128)), some (.int (posR row re))] ∧ H' = H2, ?_, ?_⟩
          · rintro σ' H' ⟨rfl, rfl⟩
            refine ⟨r.length, by simp, ps ++ [b - 128], r, _, _, rfl, rfl, rfl, sr, by rw [List.length_append]; show _ = _ + ((ps.length + 1 : Nat) : Int); omega, ?_, ?_, ?_⟩
            · intro p hp
              rcases List.mem_append.mp hp with hp | hp
              · exact hps p hp
              · have : p = b - 128 := by simpa using hp
                omega
            · intro d
              rw [fld_snoc, hfl, Int.add_mul, Int.mul_assoc, Int.mul_comm 128 po]
              omega
            · rw [en, numR_ge hb.1 hb.2, ← gpt_snoc]
          · refine ⟨_, rfl, _, rfl, _, rfl, a, _, _, _, rfl, rfl, SqL.of hA, cA, _, _, rfl, rfl, _, rfl, _, _, rfl, rfl, .inl ⟨by omega, by omega⟩, _, _, rfl, rfl, ?_⟩
            refine ⟨_, rfl, _, _, rfl, rfl, .inr ⟨by decide, by decide⟩, _, rfl, _, _, rfl, rfl, ?_, rfl⟩
            rw [← c1]
            rfl
        · refine bF (by rw [decide_eq_false hb]; rfl) ?_
          have fin : (b < 0 ∨ b > 255 ∨ (b = 0 ∧ 0 < ps.length)) → numR re = none := fun h => by
            rw [en]
            rcases h with h | h | ⟨h, h2⟩
            · have : numR (b :: r) = none := by
                unfold numR
                rw [if_neg (by omega)]
              rw [this, gpt_none]
            · have : numR (b :: r) = none := by
                unfold numR
                rw [if_neg (by omega)]
              rw [this, gpt_none]
            · rw [numR_lt (by omega) (by omega), h, gpt_zero]
              intro z
              rw [z] at h2
              exact absurd h2 (Nat.lt_irrefl _)
          dsimp only
          refine seq_or false (decide (b < 0 ∨ b > 255 ∨ (b = 0 ∧ 0 < ps.length))) (fun Q q => ⟨_, rfl, _, rfl, a, _, rfl, .inl (SqL.of hA), rfl, _, rfl, ?_⟩) (fun _ Q q => ?_) ?_
          · rw [List.length_map, decide_eq_false (fun z => by have := V.int.inj z; omega)]
            exact q
          · refine tOr2 (p := decide (b < 0)) (q := decide (b > 255 ∨ (b = 0 ∧ 0 < ps.length))) (fun Q q => ⟨_, rfl, _, rfl, a, _, _, _, rfl, rfl, SqL.of hA, cA, _, _, rfl, rfl, _, rfl, q⟩) (fun _ Q q => ?_) (by rw [← Bool.decide_or]; exact q)
            refine tOr2 (p := decide (b > 255)) (q := decide (b = 0 ∧ 0 < ps.length)) (fun Q q => ⟨_, rfl, _, rfl, a, _, _, _, rfl, rfl, SqL.of hA, cA, _, _, rfl, rfl, _, rfl, q⟩) (fun _ Q q => ?_) (by rw [← Bool.decide_or]; exact q)
            refine tAnd2 (p := decide (b = 0)) (q := decide (0 < ps.length)) (fun Q q => ⟨_, rfl, _, rfl, a, _, _, _, rfl, rfl, SqL.of hA, cA, rfl, _, rfl, ?_⟩) (fun _ Q q => ⟨_, rfl, _, rfl, _, _, rfl, rfl, _, rfl, ?_⟩) (by rw [← Bool.decide_and]; exact q)
            · have : decide (V.int b = V.int 0) = decide (b = 0) := by simp
              rw [this]
              exact q
            · have : decide (posR row re < posR row (b :: r)) = decide (0 < ps.length) := by
                by_cases h : 0 < ps.length
                · rw [decide_eq_true h, decide_eq_true (by omega)]
                · rw [decide_eq_false h, decide_eq_false (by omega)]
              rw [this]
              exact q
          · by_cases h : b < 0 ∨ b > 255 ∨ (b = 0 ∧ 0 < ps.length)
            · exact bT (by rw [decide_eq_true h]; rfl) (q2 (fin h) _ (Same.refl _))
            · refine bF (by rw [decide_eq_false h]; rfl) ?_
              have hb0 : 0 ≤ b ∧ b < 128 := by omega
              have res : numR re = some (fo + b * po, r) := by
                rw [en, numR_lt hb0.1 hb0.2, gpt_val hps, hfl]
                by_cases h2 : 0 < b
                · exact .inl h2
                · refine .inr ?_
                  have h3 : ¬ 0 < ps.length := fun z => h (.inr (.inr ⟨by omega, z⟩))
                  exact List.length_eq_zero_iff.mp (by omega)
              refine ⟨_, rfl, _, rfl, _, rfl, a, _, _, _, rfl, rfl, SqL.of hA, cA, _, rfl, _, _, rfl, rfl, .inl ⟨by omega, by omega⟩, _, _, rfl, rfl, _, rfl, _, _, rfl, rfl, by show 2 ≤ sizeLine; decide, fun t ht => ?_⟩
              refine q1 _ _ res t (.int (fo + b * po)) _ (Same.upd_new ht) ?_ rfl
              rw [upd_same, ← c1]
end
end FC
/-! W25: the law's rising_in, text_in. -/
namespace FC
open PySem PySem.Spec PyProof.Rows L2
def vLst2 : List Int → Hp → V → Prop := fun xs H v => ∃ q, v = .ref q ∧ H q = some (.lst (xs.map V.int))
def spRisIn : Sp := fun vs H Q _ => ∃ (a : Addr) (row re : List Int) (many : Int), vs = [.ref a, .int (posR row re), .int many] ∧ Suf H a row re ∧ RdN H row (risR many.toNat none re) vLst2 Q
def spTextIn : Sp := fun vs H Q _ => ∃ (a : Addr) (row re : List Int), vs = [.ref a, .int (posR row re)] ∧ Suf H a row re ∧ RdN H row (textR re) (fun w _ v => v = .str (S w)) Q
theorem at0 {α : Type} (x y : α) : atI [x, y] 0 = some x := rfl
theorem at1 {α : Type} (x y : α) : atI [x, y] 1 = some y := rfl
theorem sIx_in {n d k : Nat} (h : k ≤ n) : HT.sIx n d (some (k : Int)) = k := by
  rw [HT.sIx_nat]
  omega
theorem cut_mid {row r : List Int} {m : Nat} (hs : r <:+ row) (hm : m ≤ r.length) : cutV (row.map V.int) (some (posR row r)) (some (posR row r + (m : Int))) = (r.take m).map V.int := by
  have h1 := hs.length_le
  obtain ⟨p, rfl⟩ := hs
  rw [List.length_append] at h1
  have e1 : posR (p ++ r) r = ((p.length : Nat) : Int) := by
    unfold posR
    rw [List.length_append, Nat.add_sub_cancel]
  have e2 : posR (p ++ r) r + (m : Int) = ((p.length + m : Nat) : Int) := by rw [e1]; omega
  unfold cutV
  rw [e2, e1, sIx_in (by rw [List.length_map, List.length_append]; omega), sIx_in (by rw [List.length_map, List.length_append]; omega), Nat.add_sub_cancel_left, ← List.map_drop, ← List.map_take]
  simp
theorem signsR_all : ∀ (w : List Nat) (r : List Int), (∀ ch ∈ w, okB (ch : Int)) → signsR w.length (codes w ++ r) = some (w, r)
  | [], _, _ => rfl
  | ch :: w, r, h => by
    show signsR (w.length + 1) ((ch : Int) :: (codes w ++ r)) = _
    unfold signsR
    rw [if_pos (h ch List.mem_cons_self), signsR_all w r fun c hc => h c (List.mem_cons_of_mem _ hc)]
    rfl
theorem signsR_bad_at {k i : Nat} {r : List Int} {b : Int} (h : r[i]? = some b) (hi : i < k) (hb : ¬ okB b) : signsR k r = none := by
  cases e : signsR k r with
  | none => rfl
  | some p =>
    obtain ⟨w, r'⟩ := p
    obtain ⟨h1, h2, h3⟩ := signsR_ok e
    exfalso
    rw [h2, List.getElem?_append_left (by rw [List.length_map]; omega), List.getElem?_map] at h
    cases ew : w[i]? with
    | none => rw [ew] at h; cases h
    | some ch =>
      rw [ew] at h
      cases Option.some.inj h
      exact hb (h3 ch (List.mem_of_getElem? ew))
def sgI (n : Nat) : Nat := n - 32 - if 37 < n then 1 else 0
theorem sgI_chk : (sgs.all fun n => decide (sgs[sgI n]? = some n)) = true := by decide +kernel
theorem sgI_at {n : Nat} (h : n ∈ sgs) : atI sgs ((n : Int) - 32 - (if decide ((37 : Int) < (n : Int)) then 1 else 0)) = some n := by
  have h1 := of_decide_eq_true (List.all_eq_true.mp sgI_chk n h)
  have h2 := sgs_ok n h
  have e : (n : Int) - 32 - (if decide ((37 : Int) < (n : Int)) then 1 else 0) = ((sgI n : Nat) : Int) := by
    unfold sgI
    by_cases h3 : 37 < n
    · rw [if_pos h3, if_pos (decide_eq_true (by omega))]
      omega
    · rw [if_neg h3, if_neg (by simp; omega)]
      omega
  rw [e]
  exact atI_nat h1
theorem S_snoc (w : List Nat) (n : Nat) : S w ++ (⟨#[n]⟩ : Str) = S (w ++ [n]) := by
  refine Str_ext ?_
  show (w.toArray ++ #[n]).toList = (w ++ [n]).toArray.toList
  simp
section
variable {P : Program} {w : World} {K : PySem.W.Frag} {mg : Str → Option Value} {base : Heap} {c : Cl}
theorem ok__law_rising_in (T : Txt K mg c) : GFn P w K mg base CX0 2 "_law_rising_in" ["_law_row", "_law_at", "_law_many"] spRisIn := by
  obtain ⟨f, fd, F, hm, hb⟩ := T.d__law_rising_in
  have g__law_number_in : GFn P w K mg base CX0 1 "_law_number_in" ["_law_row", "_law_at"] spNumIn := ok__law_number_in T
  refine ⟨f, fd, hm, F.kp, hb, F.ok sc__law_rising_in (fun vs H Q E h => ?_) (fun cdv A outer s H vs Q E hr h => ?_)⟩
  · obtain ⟨a, row, re, many, rfl, _⟩ := h
    rfl
  · obtain ⟨a, row, re, many, rfl, S0, q1, q2⟩ := h
    have nd := sc__law_rising_in.nd
    refine ⟨_, (pss_cons (ps_set (i := 3) nd rfl (.inl rfl) (pe_lst pa_nil))
      (pss_cons (ps_while PassesOwn.never (pt_cmpR op_lt (pe_callB call_len_seq (by rfl) T.b_len boot_len (pa_cons (pv 3) pa_nil)) (pv 2) (nomark _))
        (pss_cons (ps_set (i := 4) nd rfl (.inl rfl) (pe_g g__law_number_in hr (by rfl) pass0 (pa_cons (pv 0) (pa_cons (pv 1) pa_nil))))
        (pss_cons (ps_if (PW.pt (pw_or (pt_cmpR op_isN (pv 4) pe_non (nomark _)) (pw_or1 (PW.pt (pw_and (pt_cmpR op_eq (pe_ix ix_tup (pv 4) pe_int (fun _ _ => rfl)) pe_int (nomark _)) (pw_and1 (pt_cmpR (op_neD hr.units) (pv 3) (pe_lst pa_nil) (nomark _))))))))
          (pss_one (ps_ret pe_non))
          pss_nil)
        (pss_cons (ps_expr (pe_bm PySem.F.plainAttrs_list PySem.F.slot_list_append PySem.F.type_list_append mt_append (pv 3) (pa_cons (pe_op op_add (pe_ix ix_tup (pv 4) pe_int (fun _ _ => rfl)) (pe_callB (cr_sum rfl) (by rfl) T.b_sum boot_sum (pa_cons (pe_slice sl_list (pv 3) (po_some (pe_un un_neg pe_int)) po_none) pa_nil))) pa_nil)))
        (pss_one (ps_set (i := 1) nd rfl (.inl rfl) (pe_ix ix_tup (pv 4) pe_int (fun _ _ => rfl))))))))
      (pss_one (ps_ret (pe_tup (pa_cons (pv 3) (pa_cons (pv 1) pa_nil))))))), ?_⟩
    have hlen := S0.len
    have hsuf := S0.suf.length_le
    refine ⟨sl_line (Nat.zero_le _), fun l hl => ?_⟩
    refine ⟨fun m σ H' => ∃ (f r : List Int) (y : Option V), σ = [some (.ref a), some (.int (posR row r)), some (.int many), some (.ref l), y] ∧ m = r.length ∧ Same H H' ∧ H' l = some (.lst (f.map V.int)) ∧ r <:+ row ∧
      f.length + r.length ≤ 360 ∧ f.length ≤ many.toNat ∧ risR many.toNat none re = (risR (many.toNat - f.length) f.getLast? r).map fun p => (f ++ p.1, p.2),
      ⟨re.length, [], re, none, rfl, rfl, Same.upd_new hl, upd_same, S0.suf, (by simp only [List.length_nil]; omega), Nat.zero_le _, ?_⟩, ?_⟩
    · show _ = (risR many.toNat none re).map fun p => (p.1, p.2)
      cases risR many.toNat none re <;> rfl
    · rintro m σ H2 ⟨f, r, y, rfl, rfl, s2, h2, suf2, hsz, hfl, en⟩
      refine ⟨_, rfl, l, _, rfl, .inl (SqL.of h2), _, rfl, _, _, rfl, rfl, _, rfl, ite2 (fun e1 => ?_) (fun e1 => ?_)⟩
      · have e1' : (f.length : Int) < many := by
          have := of_decide_eq_true e1
          rwa [List.length_map] at this
        obtain ⟨k, hk⟩ : ∃ k, many.toNat - f.length = k + 1 := ⟨many.toNat - f.length - 1, by omega⟩
        rw [hk] at en
        refine ⟨fun σ' H' => ∃ (s : Int) (r' : List Int) (y : Option V), numR r = some (s, r') ∧ (0 < s ∨ f = []) ∧ σ' = [some (.ref a), some (.int (posR row r')), some (.int many), some (.ref l), y] ∧ Same H H' ∧ H' l = some (.lst ((f ++ [f.getLast?.getD 0 + s]).map V.int)), ?_, ?_⟩
        · rintro σ' H' ⟨s, r', y, hn, hs, rfl, s3, h3⟩
          have hr' := numR_len hn
          refine ⟨r'.length, hr', f ++ [f.getLast?.getD 0 + s], r', y, rfl, rfl, s3, h3, (numR_suf hn).trans suf2, ?_, ?_, ?_⟩
          · simp only [List.length_append, List.length_cons, List.length_nil]
            omega
          · simp only [List.length_append, List.length_cons, List.length_nil]
            omega
          · have : many.toNat - (f ++ [f.getLast?.getD 0 + s]).length = k := by
              simp only [List.length_append, List.length_cons, List.length_nil]
              omega
            rw [this]
            exact risR_step hn hs _ en
        · refine ⟨_, rfl, _, rfl, a, row, r, rfl, ⟨s2 _ _ S0.lst, suf2, S0.len⟩, fun s r' e t v H3 s3 ht hv => ?_, fun e H3 s3 => ?_⟩
          · subst hv
            have h3 := s3 _ _ h2
            have s23 := s2.trans s3
            have s0 := (numR_ok e).1
            -- None, or 0 not at first
            refine ⟨_, rfl, rfl, _, rfl, bF (by rfl) ?_⟩
            by_cases hs0 : s = 0
            · refine ⟨_, rfl, t, _, _, _, rfl, rfl, SqT.of ht, at0 _ _, rfl, _, rfl, bT (by rw [hs0]; rfl) ?_⟩
              refine ⟨_, rfl, sl_line (Nat.zero_le _), fun p hp => ⟨_, _, dp_ints (SqL.of (upd_old h3 hp)), dp_ints (a := []) (SqL.of upd_same), shaped_intL _, shaped_intL _, _, rfl, ?_⟩⟩
              rw [eqv_ints]
              by_cases hf : f = []
              · refine bF (by rw [decide_eq_true hf]; rfl) ?_
                have h4 := upd_old (u := .lst []) h3 hp
                have t4 := upd_old (u := .lst []) ht hp
                refine ⟨_, rfl, .inl ⟨rfl, _, SqL.of h4⟩, _, rfl, t, _, _, _, rfl, rfl, SqT.of t4, at0 _ _, _, rfl, _, rfl, _, rfl, l, _, rfl, SqL.of h4, fun p2 hp2 => ⟨p2, f.getLast?.toList, rfl, SqL.of (by rw [upd_same]; exact congrArg (fun z => some (HO.lst z)) (cut_last f)), _, _, rfl, rfl, l, f.map V.int, _, rfl, rfl, upd_old h4 hp2, ?_, ?_⟩⟩
                · rw [List.length_map]
                  exact sl_lt (by omega)
                · have hlp : t ≠ l := ne_of ht h3 (by intro z; cases z)
                  refine ⟨_, rfl, t, _, _, _, rfl, rfl, SqT.of (by rw [upd_ne hlp]; exact upd_old t4 hp2), at1 _ _, s, r', some (.ref t), e, .inr hf, rfl, Same.mut (Same.new (Same.new s23 hp) hp2) hl, ?_⟩
                  rw [upd_same, sum_last, List.map_append, Int.add_comm]
                  rfl
              · refine bT (by rw [decide_eq_false hf]; rfl) ?_
                refine q2 ?_ _ (Same.new s23 hp)
                rw [en, risR_stop e (by omega) s0 hf]
                rfl
            · refine ⟨_, rfl, t, _, _, _, rfl, rfl, SqT.of ht, at0 _ _, rfl, _, rfl, bF (by simp [hs0]) (bF (by rfl) ?_)⟩
              refine ⟨_, rfl, .inl ⟨rfl, _, SqL.of h3⟩, _, rfl, t, _, _, _, rfl, rfl, SqT.of ht, at0 _ _, _, rfl, _, rfl, _, rfl, l, _, rfl, SqL.of h3, fun p2 hp2 => ⟨p2, f.getLast?.toList, rfl, SqL.of (by rw [upd_same]; exact congrArg (fun z => some (HO.lst z)) (cut_last f)), _, _, rfl, rfl, l, f.map V.int, _, rfl, rfl, upd_old h3 hp2, ?_, ?_⟩⟩
              · rw [List.length_map]
                exact sl_lt (by omega)
              · have hlp : t ≠ l := ne_of ht h3 (by intro z; cases z)
                refine ⟨_, rfl, t, _, _, _, rfl, rfl, SqT.of (by rw [upd_ne hlp]; exact upd_old ht hp2), at1 _ _, s, r', some (.ref t), e, .inl (by omega), rfl, Same.mut (Same.new s23 hp2) hl, ?_⟩
                rw [upd_same, sum_last, List.map_append, Int.add_comm]
                rfl
          · refine ⟨_, rfl, rfl, _, rfl, bT (by rfl) (bT (by rfl) ?_)⟩
            refine q2 ?_ _ (s2.trans s3)
            rw [en, risR_bad e]
            rfl
      · have e1' : ¬ (f.length : Int) < many := by
          have := of_decide_eq_false (Bool.eq_false_iff.mpr e1)
          rwa [List.length_map] at this
        rw [show many.toNat - f.length = 0 by omega] at en
        refine ⟨_, rfl, _, rfl, by show 2 ≤ sizeLine; decide, fun t ht => ?_⟩
        refine q1 f r ?_ t (.ref l) _ (Same.new s2 ht) upd_same ⟨l, rfl, upd_old h2 ht⟩
        rw [en]
        show some (f ++ [], r) = _
        rw [List.append_nil]
theorem ok__law_text_in (T : Txt K mg c) : GFn P w K mg base CX0 2 "_law_text_in" ["_law_row", "_law_at"] spTextIn := by
  obtain ⟨f, fd, F, hm, hb⟩ := T.d__law_text_in
  have g__law_number_in : GFn P w K mg base CX0 1 "_law_number_in" ["_law_row", "_law_at"] spNumIn := ok__law_number_in T
  have g__law_signs : GFn P w K mg base CX0 1 "_law_signs" [] spSigns := ok__law_signs T
  refine ⟨f, fd, hm, F.kp, hb, F.ok sc__law_text_in (fun vs H Q E h => ?_) (fun cdv A outer s H vs Q E hr h => ?_)⟩
  · obtain ⟨a, row, re, rfl, _⟩ := h
    rfl
  · obtain ⟨a, row, re, rfl, S0, q1, q2⟩ := h
    have nd := sc__law_text_in.nd
    refine ⟨_, (pss_cons (ps_set (i := 2) nd rfl (.inl rfl) (pe_g g__law_number_in hr (by rfl) pass0 (pa_cons (pv 0) (pa_cons (pv 1) pa_nil))))
      (pss_cons (ps_if (PW.pt (pw_or (pt_cmpR op_isN (pv 2) pe_non (nomark _)) (pw_or1 (pt_cmpR op_gt (pe_op op_add (pe_ix ix_tup (pv 2) pe_int (fun _ _ => rfl)) (pe_ix ix_tup (pv 2) pe_int (fun _ _ => rfl))) (pe_callB call_len_seq (by rfl) T.b_len boot_len (pa_cons (pv 0) pa_nil)) (nomark _)))))
        (pss_one (ps_ret pe_non))
        pss_nil)
      (pss_cons (ps_set (i := 3) nd rfl (.inl rfl) pe_str)
      (pss_cons (ps_for PassesOwn.never rfl (pi_list (pe_slice sl_list (pv 0) (po_some (pe_ix ix_tup (pv 2) pe_int (fun _ _ => rfl))) (po_some (pe_op op_add (pe_ix ix_tup (pv 2) pe_int (fun _ _ => rfl)) (pe_ix ix_tup (pv 2) pe_int (fun _ _ => rfl)))))) (pg_name (i := 4) nd rfl (.inl rfl))
        (pss_cons (ps_if (PW.pt (pw_or (pt_cmpR op_lt (pv 4) pe_int (nomark _)) (pw_or (pt_cmpR op_gt (pv 4) pe_int (nomark _)) (pw_or1 (pt_cmpR op_eq (pv 4) pe_int (nomark _))))))
          (pss_one (ps_ret pe_non))
          pss_nil)
        (pss_one (ps_set (i := 3) nd rfl (.inl rfl) (pe_op op_add_str (pv 3) (pe_ix ix_str (pe_g0 g__law_signs hr (by rfl) pass0) (pe_op op_sub (pe_op op_sub (pv 4) pe_int) (pe_callTy call_int1 (by rfl) T.b_int boot_int (pa_cons (pe_cmpR op_gt (pv 4) pe_int (nomark _)) pa_nil))) (fun _ _ => rfl)))))))
      (pss_one (ps_ret (pe_tup (pa_cons (pv 3) (pa_cons (pe_op op_add (pe_ix ix_tup (pv 2) pe_int (fun _ _ => rfl)) (pe_ix ix_tup (pv 2) pe_int (fun _ _ => rfl))) pa_nil))))))))), ?_⟩
    refine ⟨_, rfl, _, rfl, a, row, re, rfl, S0, fun m r e t v H1 s1 ht hv => ?_, fun e H1 s1 => ?_⟩
    · subst hv
      have S1 := S0.same s1
      have hA := S1.lst
      have sufr := (numR_suf e).trans S0.suf
      have m0 := (numR_ok e).1
      have hlr := sufr.length_le
      have hlen := S0.len
      have et : textR re = signsR m.toNat r := by unfold textR; rw [e]
      refine ⟨_, rfl, rfl, _, rfl, bF (by rfl) ?_⟩
      refine ⟨_, rfl, t, _, _, _, rfl, rfl, SqT.of ht, at1 _ _, _, rfl, t, _, _, _, rfl, rfl, SqT.of ht, at0 _ _, _, _, rfl, rfl, _, rfl, a, _, rfl, .inl (SqL.of hA), _, _, rfl, rfl, _, rfl, ite2 (fun e1 => ?_) (fun e1 => ?_)⟩
      · have e1' := of_decide_eq_true e1
        rw [List.length_map] at e1'
        refine q2 ?_ _ s1
        rw [et]
        cases es : signsR m.toNat r with
        | none => rfl
        | some p =>
          exfalso
          obtain ⟨h1, h2, _⟩ := signsR_ok (w := p.1) (r := p.2) es
          have h3 := congrArg List.length h2
          rw [List.length_append, List.length_map] at h3
          unfold posR at e1'
          omega
      · have e1' : ¬ _ := of_decide_eq_false (Bool.eq_false_iff.mpr e1)
        rw [List.length_map] at e1'
        have hm : m.toNat ≤ r.length := by
          unfold posR at e1'
          omega
        have em : posR row r + m = posR row r + ((m.toNat : Nat) : Int) := by omega
        refine ⟨_, rfl, _, rfl, t, _, _, _, rfl, rfl, SqT.of ht, at1 _ _, _, rfl, _, rfl, t, _, _, _, rfl, rfl, SqT.of ht, at1 _ _, _, rfl, t, _, _, _, rfl, rfl, SqT.of ht, at0 _ _, _, _, rfl, rfl, _, rfl, a, _, rfl, SqL.of hA, fun p hp => ?_⟩
        have hp1 : ∀ H', Same (upd H1 p (.lst (cutV (row.map V.int) (some (posR row r)) (some (posR row r + m))))) H' → H' p = some (.lst ((r.take m.toNat).map V.int)) := fun H' k => by
          have := k p _ upd_same
          rwa [em, cut_mid sufr hm] at this
        refine ⟨p, rfl, ⟨_, SqL.of (hp1 _ (Same.refl _))⟩, for_list (xs := (r.take m.toNat).map V.int) (fun i σ H' => ∃ (w : List Nat) (y : Option V), σ = [some (.ref a), some (.int (posR row re)), some (.ref t), some (.str (S w)), y] ∧ codes w = r.take i ∧ (∀ ch ∈ w, okB (ch : Int)) ∧ Same (upd H1 p (.lst (cutV (row.map V.int) (some (posR row r)) (some (posR row r + m))))) H')
          ⟨[], none, rfl, rfl, (fun _ z => nomatch z), Same.refl _⟩ (fun i σ H' _ ⟨_, _, _, _, _, k⟩ => SqL.of (hp1 _ k)) ?_ ?_⟩
        · rintro i v σ H2 hv ⟨w, y, rfl, hw, ho, k2⟩
          rw [List.getElem?_map] at hv
          cases eb : (r.take m.toNat)[i]? with
          | none => rw [eb] at hv; cases hv
          | some b =>
            rw [eb] at hv
            cases Option.some.inj hv
            have hi : i < m.toNat := by
              have := (List.getElem?_eq_some_iff.mp eb).1
              rw [List.length_take] at this
              omega
            have eb' : r[i]? = some b := by
              rw [List.getElem?_take_of_lt hi] at eb
              exact eb
            have hwl : w.length = i := by
              have := congrArg List.length hw
              rw [List.length_map, List.length_take] at this
              omega
            have s12 : Same H H2 := (Same.new s1 hp).trans k2
            dsimp only
            refine seq_or (decide (b < 32)) (decide (b > 126 ∨ b = 37)) (fun Q q => ⟨_, rfl, _, _, rfl, rfl, _, rfl, q⟩) (fun _ Q q => ?_) ?_
            · refine tOr2 (p := decide (b > 126)) (q := decide (b = 37)) (fun Q q => ⟨_, rfl, _, _, rfl, rfl, _, rfl, q⟩) (fun _ Q q => ⟨_, rfl, rfl, _, rfl, ?_⟩) (by rw [← Bool.decide_or]; exact q)
              have : decide (V.int b = V.int 37) = decide (b = 37) := by simp
              rw [this]
              exact q
            · rw [← Bool.decide_or]
              by_cases hb : okB b
              · have hb' : ¬ (b < 32 ∨ b > 126 ∨ b = 37) := by
                  unfold okB at hb
                  omega
                refine bF (decide_eq_false hb') ?_
                have hbn : ((b.toNat : Nat) : Int) = b := by
                  unfold okB at hb
                  omega
                have hbm : b.toNat ∈ sgs := okB_sg (by rw [hbn]; exact hb)
                have gat := sgI_at hbm
                rw [hbn] at gat
                refine ⟨_, rfl, rfl, fun H3 s3 => ?_⟩
                refine ⟨_, rfl, _, _, rfl, rfl, _, rfl, _, _, rfl, rfl, .inr ⟨_, rfl, _, _, rfl, rfl, sgT, _, b.toNat, rfl, rfl, by decide +kernel, gat, S w, ⟨#[b.toNat]⟩, rfl, rfl, ?_, w ++ [b.toNat], some (.int b), ?_, ?_, ?_, k2.trans s3⟩⟩
                · have h1 : (S w).length = w.length := List.size_toArray
                  have h2 : (⟨#[b.toNat]⟩ : Str).length = 1 := rfl
                  rw [h1, h2]
                  exact sl_line (by omega)
                · rw [S_snoc]
                  rfl
                · unfold codes at hw ⊢
                  rw [List.map_append, hw, List.take_add_one, eb']
                  show _ = _ ++ [b]
                  rw [← hbn]
                  rfl
                · intro ch hc
                  rcases List.mem_append.mp hc with hc | hc
                  · exact ho ch hc
                  · have : ch = b.toNat := by simpa using hc
                    rw [this, hbn]
                    exact hb
              · have hb' : b < 32 ∨ b > 126 ∨ b = 37 := by
                  unfold okB at hb
                  omega
                refine bT (decide_eq_true hb') ?_
                refine q2 ?_ _ s12
                rw [et]
                exact signsR_bad_at eb' hi hb
        · rintro σ H2 ⟨w, y, rfl, hw, ho, k2⟩
          rw [List.length_map, List.length_take, Nat.min_eq_left hm] at hw
          have s12 : Same H H2 := (Same.new s1 hp).trans k2
          have t2 : H2 t = some (.tup [.int m, .int (posR row r)]) := k2 _ _ (upd_old ht hp)
          have hwl : w.length = m.toNat := by
            have := congrArg List.length hw
            rw [List.length_map, List.length_take] at this
            omega
          have res : textR re = some (w, r.drop m.toNat) := by
            have h1 := signsR_all w (r.drop m.toNat) ho
            rw [hw, List.take_append_drop, hwl] at h1
            rw [et, h1]
          have epos : posR row r + m = posR row (r.drop m.toNat) := by
            unfold posR
            rw [List.length_drop]
            omega
          refine ⟨_, rfl, _, rfl, t, _, _, _, rfl, rfl, SqT.of t2, at1 _ _, _, rfl, t, _, _, _, rfl, rfl, SqT.of t2, at0 _ _, _, _, rfl, rfl, by show 2 ≤ sizeLine; decide, fun t' ht' => ?_⟩
          refine q1 w _ res t' (.str (S w)) _ (Same.new s12 ht') ?_ rfl
          rw [upd_same, ← epos]
    · refine ⟨_, rfl, rfl, _, rfl, bT (by rfl) (bT (by rfl) ?_)⟩
      refine q2 ?_ _ s1
      unfold textR
      rw [e]
end
end FC
/-! W26: the law's postings_in. -/
namespace FC
open PySem PySem.Spec PyProof.Rows L2
section
variable {tA tB : TT} {t u v : TS} {D : Ends} {σ : L2.St} {H : Hp} {Q : Bool → Hp → Prop}
/-- a test whose answer is p, on a heap that may grow -/
def Tst (tA : TT) (σ : L2.St) (H : Hp) (p : Bool) : Prop := ∀ Q : Bool → Hp → Prop, (∀ H', Same H H' → Q p H') → tA σ H Q
theorem Tst.and {p q : Bool} (h1 : Tst tA σ H p) (h2 : p = true → ∀ H1, Same H H1 → Tst tB σ H1 q) : Tst (tAnd tA tB) σ H (p && q) := by
  intro Q k
  refine h1 _ fun H1 s1 => ?_
  cases p with
  | true => exact h2 rfl H1 s1 _ fun H' s' => k H' (s1.trans s')
  | false => exact k H1 s1
theorem Tst.or {p q : Bool} (h1 : Tst tA σ H p) (h2 : p = false → ∀ H1, Same H H1 → Tst tB σ H1 q) : Tst (tOr tA tB) σ H (p || q) := by
  intro Q k
  refine h1 _ fun H1 s1 => ?_
  cases p with
  | false => exact h2 rfl H1 s1 _ fun H' s' => k H' (s1.trans s')
  | true => exact k H1 s1
theorem seq_tst {p : Bool} (h : Tst tA σ H p) (k : ∀ H', Same H H' → if p = true then t { D with nx := v D } σ H' else u { D with nx := v D } σ H') : tSeq (tIfS tA t u) v D σ H := h _ k
theorem ifs_tst {p : Bool} (h : Tst tA σ H p) (k : ∀ H', Same H H' → if p = true then t D σ H' else u D σ H') : tIfS tA t u D σ H := h _ k
end
theorem cut_lastV (f : List V) : cutV f (some (-1)) none = f.getLast?.toList := by
  unfold cutV
  rw [HT.sIx_none]
  have e : HT.sIx f.length 0 (some (-1)) = f.length - 1 := by
    show (if (-1 : Int) < 0 then (-1 + (f.length : Int)).toNat else min (-1 : Int).toNat f.length) = _
    rw [if_pos (by decide)]
    omega
  rw [e]
  rcases List.eq_nil_or_concat f with rfl | ⟨g, x, rfl⟩
  · rfl
  · simp
/-- postings beside the list at l -/
def IA (l : Addr) (H : Hp) (ts : List (Addr × Addr)) (ps : Posts) : Prop := Paired (fun (t : Addr × Addr) (p : Int × List Int) => (H t.1 = some (.tup [.int p.1, .ref t.2]) ∧ H t.2 = some (.lst (p.2.map V.int))) ∧ t.2 ≠ l) ts ps
theorem IA.items {l : Addr} {H : Hp} {ts : List (Addr × Addr)} {ps : Posts} (h : IA l H ts ps) : ItemsAt H ts ps := Paired.mapP h fun _ _ z => z.1
theorem IA.same {l : Addr} {H H' : Hp} {ts : List (Addr × Addr)} {ps : Posts} (h : IA l H ts ps) (k : Same H H') : IA l H' ts ps := Paired.mapP h fun _ _ z => ⟨⟨k _ _ z.1.1, k _ _ z.1.2⟩, z.2⟩
theorem IA.upd {l : Addr} {H : Hp} {ts : List (Addr × Addr)} {ps : Posts} {xs : List V} {o : HO} (h : IA l H ts ps) (e : H l = some (.lst xs)) : IA l (upd H l o) ts ps := Paired.mapP h fun _ _ z => ⟨⟨by
  rw [upd_ne]
  · exact z.1.1
  · exact ne_of z.1.1 e (by intro z; cases z), by rw [upd_ne z.2]; exact z.1.2⟩, z.2⟩
def pdP (p : Int × List Int) : PyData := .tuple [.int p.1, .list (p.2.map PyData.int)]
theorem dp_posts {K : PySem.W.Frag} {H : Hp} {l : Addr} {ts : List (Addr × Addr)} {ps : Posts} (e : H l = some (.lst (ts.map fun t => V.ref t.1))) (h : ItemsAt H ts ps) : Dp K H (.ref l) (.list (ps.map pdP)) := by
  refine .lst (SqL.of e) ?_
  clear e
  induction h with
  | nil => exact .nil
  | cons h _ ih => exact .cons (.tup (SqT.of h.1) (.cons (.int _) (.cons (dp_ints (SqL.of h.2)) .nil))) ih
theorem shaped_posts (ps : Posts) : SeqAt.shaped (.list (ps.map pdP)) = true := by
  have h1 : PyData.canLayAll0 (ps.map pdP) = true := by
    induction ps with
    | nil => simp [PyData.canLayAll0]
    | cons p ps ih =>
      show (PyData.canLay0 (pdP p) && PyData.canLayAll0 (ps.map pdP)) = true
      rw [ih]
      have := canLayAll_ints p.2
      simp [pdP, PyData.canLay0, PyData.canLayAll0, this]
  have h2 : PyData.depthAll (ps.map pdP) ≤ 2 := by
    induction ps with
    | nil => simp [PyData.depthAll]
    | cons p ps ih =>
      have h3 : PyData.canLayAll0 (ps.map pdP) = true := by
        have : (PyData.canLay0 (pdP p) && PyData.canLayAll0 (ps.map pdP)) = true := h1
        exact (Bool.and_eq_true_iff.mp this).2
      show max (PyData.depth (pdP p)) (PyData.depthAll (ps.map pdP)) ≤ 2
      have h4 := ih h3
      have h5 := depthAll_ints p.2
      have h6 : PyData.depth (pdP p) ≤ 2 := by simp [pdP, PyData.depth, PyData.depthAll, h5]
      exact Nat.max_le.mpr ⟨h6, h4⟩
  unfold SeqAt.shaped
  rw [Bool.and_eq_true_iff]
  refine ⟨h1, decide_eq_true ?_⟩
  show PyData.depthAll (ps.map pdP) + 1 ≤ 64
  omega
theorem eqv_posts_nil (ps : Posts) : PyData.eqv (.list (ps.map pdP)) (.list ([].map PyData.int)) = decide (ps = []) := by
  cases ps with
  | nil => rfl
  | cons p ps =>
    show PyData.eqvAll (pdP p :: ps.map pdP) [] = _
    simp [PyData.eqvAll]
def spPostsIn : Sp := fun vs H Q _ => ∃ (a : Addr) (row re : List Int), vs = [.ref a, .int (posR row re)] ∧ Suf H a row re ∧ RdN H row (postsR re) (fun ps H' v => ∃ l, v = .ref l ∧ PostsAt H' l ps) Q
section
variable {P : Program} {w : World} {K : PySem.W.Frag} {mg : Str → Option Value} {base : Heap} {c : Cl}
theorem ok__law_postings_in (T : Txt K mg c) : GFn P w K mg base CX0 3 "_law_postings_in" ["_law_row", "_law_at"] spPostsIn := by
  obtain ⟨f, fd, F, hm, hb⟩ := T.d__law_postings_in
  have g__law_number_in : GFn P w K mg base CX0 1 "_law_number_in" ["_law_row", "_law_at"] spNumIn := ok__law_number_in T
  have g__law_rising_in : GFn P w K mg base CX0 2 "_law_rising_in" ["_law_row", "_law_at", "_law_many"] spRisIn := ok__law_rising_in T
  refine ⟨f, fd, hm, F.kp, hb, F.ok sc__law_postings_in (fun vs H Q E h => ?_) (fun cdv A outer s H vs Q E hr h => ?_)⟩
  · obtain ⟨a, row, re, rfl, _⟩ := h
    rfl
  · obtain ⟨a, row, re, rfl, S0, q1, q2⟩ := h
    have nd := sc__law_postings_in.nd
    refine ⟨_, (pss_cons (ps_set (i := 2) nd rfl (.inl rfl) (pe_g g__law_number_in hr (by rfl) pass0 (pa_cons (pv 0) (pa_cons (pv 1) pa_nil))))
      (pss_cons (ps_if (pt_cmpR op_isN (pv 2) pe_non (nomark _))
        (pss_one (ps_ret pe_non))
        pss_nil)
      (pss_cons (ps_set (i := 1) nd rfl (.inl rfl) (pe_ix ix_tup (pv 2) pe_int (fun _ _ => rfl)))
      (pss_cons (ps_set (i := 3) nd rfl (.inl rfl) (pe_lst pa_nil))
      (pss_cons (ps_while PassesOwn.never (pt_cmpR op_lt (pe_callB call_len_seq (by rfl) T.b_len boot_len (pa_cons (pv 3) pa_nil)) (pe_ix ix_tup (pv 2) pe_int (fun _ _ => rfl)) (nomark _))
        (pss_cons (ps_set (i := 4) nd rfl (.inl rfl) (pe_g g__law_number_in hr (by rfl) pass0 (pa_cons (pv 0) (pa_cons (pv 1) pa_nil))))
        (pss_cons (ps_if (PW.pt (pw_or (pt_cmpR op_isN (pv 4) pe_non (nomark _)) (pw_or1 (PW.pt (pw_and (pt_cmpR op_eq (pe_ix ix_tup (pv 4) pe_int (fun _ _ => rfl)) pe_int (nomark _)) (pw_and1 (pt_cmpR (op_neD hr.units) (pv 3) (pe_lst pa_nil) (nomark _))))))))
          (pss_one (ps_ret pe_non))
          pss_nil)
        (pss_cons (ps_set (i := 5) nd rfl (.inl rfl) (pe_g g__law_number_in hr (by rfl) pass0 (pa_cons (pv 0) (pa_cons (pe_ix ix_tup (pv 4) pe_int (fun _ _ => rfl)) pa_nil))))
        (pss_cons (ps_if (PW.pt (pw_or (pt_cmpR op_isN (pv 5) pe_non (nomark _)) (pw_or1 (pt_cmpR op_eq (pe_ix ix_tup (pv 5) pe_int (fun _ _ => rfl)) pe_int (nomark _)))))
          (pss_one (ps_ret pe_non))
          pss_nil)
        (pss_cons (ps_set (i := 6) nd rfl (.inl rfl) (pe_g g__law_rising_in hr (by rfl) pass0 (pa_cons (pv 0) (pa_cons (pe_ix ix_tup (pv 5) pe_int (fun _ _ => rfl)) (pa_cons (pe_ix ix_tup (pv 5) pe_int (fun _ _ => rfl)) pa_nil)))))
        (pss_cons (ps_if (pt_cmpR op_isN (pv 6) pe_non (nomark _))
          (pss_one (ps_ret pe_non))
          pss_nil)
        (pss_cons (ps_expr (pe_bm PySem.F.plainAttrs_list PySem.F.slot_list_append PySem.F.type_list_append mt_append (pv 3) (pa_cons (pe_tup (pa_cons (pe_op op_add (pe_ix ix_tup (pv 4) pe_int (fun _ _ => rfl)) (pe_callB (cr_sum rfl) (by rfl) T.b_sum boot_sum (pa_cons (pe_lc (own := [("_law_one", 7)]) (te := tOp (rIxT K) (tVar 7) (tC (.int 0))) rfl nd (pi_list (pe_slice sl_list (pv 3) (po_some (pe_un un_neg pe_int)) po_none)) (blkOk_by (N := ["_law_row", "_law_at", "_law_many", "_law_found", "_law_step", "_law_count", "_law_places", "_law_one"]) (sc := defScope s__law_postings_in) (by decide +kernel)) (fun _ _ _ _ _ => (pg_name (i := 7) nd rfl (.inl rfl))) (fun _ _ _ _ _ => pts_nil) (fun _ _ _ _ _ => (pe_ix (ix_tupK) (pv 7) pe_int (fun _ _ => rfl)))) pa_nil))) (pa_cons (pe_ix ix_tup (pv 6) pe_int (fun _ _ => rfl)) pa_nil))) pa_nil)))
        (pss_one (ps_set (i := 1) nd rfl (.inl rfl) (pe_ix ix_tup (pv 6) pe_int (fun _ _ => rfl))))))))))))
      (pss_one (ps_ret (pe_tup (pa_cons (pv 3) (pa_cons (pv 1) pa_nil)))))))))), ?_⟩
    have hlen := S0.len
    have hsuf := S0.suf.length_le
    refine ⟨_, rfl, _, rfl, a, row, re, rfl, S0, fun many r0 e0 tm v H1 s1 htm hv => ?_, fun e0 H1 s1 => ?_⟩
    · subst hv
      have et : postsR re = postsK many.toNat none r0 := by unfold postsR; rw [e0]
      have hr0 := numR_len e0
      have suf0 := (numR_suf e0).trans S0.suf
      have hA := s1 _ _ S0.lst
      refine ⟨_, rfl, rfl, _, rfl, bF (by rfl) ?_⟩
      refine ⟨_, rfl, tm, _, _, _, rfl, rfl, SqT.of htm, at1 _ _, ?_⟩
      refine ⟨sl_line (Nat.zero_le _), fun l hl => ?_⟩
      have htl : tm ≠ l := ne_of_none htm hl
      refine ⟨fun m σ H' => ∃ (f : Posts) (ts : List (Addr × Addr)) (r : List Int) (y4 y5 y6 : Option V), σ = [some (.ref a), some (.int (posR row r)), some (.ref tm), some (.ref l), y4, y5, y6, none] ∧ m = r.length ∧ Same H1 H' ∧ H' l = some (.lst (ts.map fun t => V.ref t.1)) ∧
        IA l H' ts f ∧ r <:+ row ∧ f.length + r.length ≤ 360 ∧ f.length ≤ many.toNat ∧ postsR re = (postsK (many.toNat - f.length) (lastM f) r).map fun p => (f ++ p.1, p.2),
        ⟨r0.length, [], [], r0, none, none, none, rfl, rfl, Same.upd_new hl, upd_same, .nil, suf0, (by simp only [List.length_nil]; omega), Nat.zero_le _, ?_⟩, ?_⟩
      · rw [et]
        show _ = (postsK many.toNat none r0).map fun p => (p.1, p.2)
        cases postsK many.toNat none r0 <;> rfl
      · rintro m σ H2 ⟨f, ts, r, y4, y5, y6, rfl, rfl, s2, h2, it, suf2, hsz, hfl, en⟩
        have htsl : ts.length = f.length := Paired.length it
        have htm2 := s2 _ _ htm
        have s02 := s1.trans s2
        refine ⟨_, rfl, l, _, rfl, .inl (SqL.of h2), _, rfl, tm, _, _, _, rfl, rfl, SqT.of htm2, at0 _ _, _, _, rfl, rfl, _, rfl, ite2 (fun e1 => ?_) (fun e1 => ?_)⟩
        · have e1' : (f.length : Int) < many := by
            have := of_decide_eq_true e1
            rwa [List.length_map, htsl] at this
          obtain ⟨k, hk⟩ : ∃ k, many.toNat - f.length = k + 1 := ⟨many.toNat - f.length - 1, by omega⟩
          rw [hk] at en
          refine ⟨fun σ' H' => ∃ (xs : List Int) (mk : Int) (t : Addr × Addr) (r' : List Int) (y4 y5 y6 : Option V), σ' = [some (.ref a), some (.int (posR row r')), some (.ref tm), some (.ref l), y4, y5, y6, none] ∧ r'.length < r.length ∧ r' <:+ row ∧ Same H1 H' ∧
            H' l = some (.lst ((ts ++ [t]).map fun t => V.ref t.1)) ∧ IA l H' (ts ++ [t]) (f ++ [(mk, xs)]) ∧ postsR re = (postsK k (some mk) r').map fun p => ((f ++ [(mk, xs)]) ++ p.1, p.2), ?_, ?_⟩
          · rintro σ' H' ⟨xs, mk, t, r', y4, y5, y6, rfl, hr', suf', s3, h3, it3, en3⟩
            refine ⟨r'.length, hr', f ++ [(mk, xs)], ts ++ [t], r', y4, y5, y6, rfl, rfl, s3, h3, it3, suf', ?_, ?_, ?_⟩
            · simp only [List.length_append, List.length_cons, List.length_nil]
              omega
            · simp only [List.length_append, List.length_cons, List.length_nil]
              omega
            · have : many.toNat - (f ++ [(mk, xs)]).length = k := by
                simp only [List.length_append, List.length_cons, List.length_nil]
                omega
              rw [this, lastM_snoc]
              exact en3
          · -- the step
            refine ⟨_, rfl, _, rfl, a, row, r, rfl, ⟨s2 _ _ hA, suf2, S0.len⟩, fun s r1 e t v H3 s3 ht hv => ?_, fun e H3 s3 => ?_⟩
            · subst hv
              have h3 := s3 _ _ h2
              have s13 := s2.trans s3
              have s0 := (numR_ok e).1
              have l1 := numR_len e
              have it3 := it.same s3
              have suf3 := (numR_suf e).trans suf2
              dsimp only
              refine seq_tst (Tst.or (p := false) (fun Q q => ⟨_, rfl, rfl, _, rfl, q _ (Same.refl _)⟩) fun _ H4 s4 => Tst.and (p := decide (s = 0)) (q := decide (f ≠ [])) (fun Q q => ⟨_, rfl, t, _, _, _, rfl, rfl, SqT.of (s4 _ _ ht), at0 _ _, rfl, _, rfl, ?_⟩) fun _ H5 s5 Q q => ⟨_, rfl, sl_line (Nat.zero_le _), fun p hp => ⟨_, _, dp_posts (upd_old (s5 _ _ (s4 _ _ h3)) hp) (((it3.items.same s4).same s5).same (Same.upd_new hp)), dp_ints (a := []) (SqL.of upd_same), shaped_posts _, shaped_intL _, _, rfl, ?_⟩⟩) fun H4 s4 => ?_
              · have : decide (V.int s = V.int 0) = decide (s = 0) := by simp
                rw [this]
                exact q _ (Same.refl _)
              · rw [eqv_posts_nil]
                have := q _ (Same.upd_new (o := .lst []) hp)
                simpa using this
              by_cases hbad : s = 0 ∧ f ≠ []
              · refine bT (by simp [hbad.1, hbad.2]) (q2 ?_ _ ((s02.trans s3).trans s4))
                rw [en, postsK_stop (f := f) e (by omega) s0 (fun z => hbad.2 (lastM_none.mp z))]
                rfl
              · refine bF (by simp; intro z; by_cases z2 : f = [] <;> simp_all) ?_
                have hs : 0 < s ∨ lastM f = none := by
                  by_cases z : s = 0
                  · refine .inr (lastM_none.mpr ?_)
                    by_cases z2 : f = []
                    · exact z2
                    · exact absurd ⟨z, z2⟩ hbad
                  · exact .inl (by omega)
                rw [postsK_go e hs] at en
                have s34 := s3.trans s4
                have ht4 := s4 _ _ ht
                -- the count
                refine ⟨_, rfl, _, rfl, t, _, _, _, rfl, rfl, SqT.of ht4, at1 _ _, a, row, r1, rfl, ⟨s4 _ _ (s3 _ _ (s2 _ _ hA)), suf3, S0.len⟩, fun n r2 e' tc v H5 s5 htc hv => ?_, fun e' H5 s5 => ?_⟩
                · subst hv
                  have l2 := numR_len e'
                  have n0 := (numR_ok e').1
                  have sufc := (numR_suf e').trans suf3
                  rw [e'] at en
                  dsimp only
                  refine seq_tst (Tst.or (p := false) (q := decide (n = 0)) (fun Q q => ⟨_, rfl, rfl, _, rfl, q _ (Same.refl _)⟩) fun _ H6 s6 Q q => ⟨_, rfl, tc, _, _, _, rfl, rfl, SqT.of (s6 _ _ htc), at0 _ _, rfl, _, rfl, ?_⟩) fun H6 s6 => ?_
                  · have : decide (V.int n = V.int 0) = decide (n = 0) := by simp
                    rw [this]
                    exact q _ (Same.refl _)
                  have s46 := s5.trans s6
                  by_cases hn : n = 0
                  · refine bT (by simp [hn]) (q2 ?_ _ (((s02.trans s3).trans s4).trans s46))
                    rw [en]
                    show Option.map _ (if n = 0 then none else _) = _
                    rw [if_pos hn]
                    rfl
                  · refine bF (by simp [hn]) ?_
                    have en' : postsR re = Option.map (fun p => (f ++ p.1, p.2)) (match risR n.toNat none r2 with
                        | none => none
                        | some (xs, r2) =>
                          match postsK k (some ((lastM f).getD 0 + s)) r2 with
                          | none => none
                          | some (ps, r') => some (((lastM f).getD 0 + s, xs) :: ps, r')) := by
                      rw [en]
                      show Option.map _ (if n = 0 then none else _) = _
                      rw [if_neg hn] <;> rfl
                    have htc6 := s6 _ _ htc
                    have s06 := ((s02.trans s3).trans s4).trans s46
                    -- the places
                    refine ⟨_, rfl, _, rfl, tc, _, _, _, rfl, rfl, SqT.of htc6, at1 _ _, _, rfl, tc, _, _, _, rfl, rfl, SqT.of htc6, at0 _ _, a, row, r2, n, rfl, ⟨s06 _ _ S0.lst, sufc, S0.len⟩, fun xs r3 e4 tp v H7 s7 htp hv => ?_, fun e4 H7 s7 => ?_⟩
                    · obtain ⟨q0, rfl, hq⟩ := hv
                      rw [e4] at en'
                      have l3 := risR_len e4
                      have hx := (risR_ok e4).1
                      refine ⟨_, rfl, rfl, _, rfl, bF (by rfl) ?_⟩
                      have s37 := ((s3.trans s4).trans s46).trans s7
                      have h7 := s37 _ _ h2
                      have it7 := it.same s37
                      have ht7 := s7 _ _ (s46 _ _ ht4)
                      -- the posting
                      refine ⟨_, rfl, .inl ⟨rfl, _, SqL.of h7⟩, _, rfl, t, _, _, _, rfl, rfl, SqT.of ht7, at0 _ _, _, rfl, _, rfl, _, rfl, l, _, rfl, SqL.of h7, fun p hp => ⟨p, rfl, ⟨_, SqL.of upd_same⟩, fun D hD => lc_listMap (fun _ => .int ((lastM f).getD 0)) ?_ (SqL.of upd_same) hD (fun _ => rfl) (fun v H' Q' hv hs' hq' => ?_) ?_⟩⟩
                      · exact Nat.le_trans (cutV_length _ _ _) (by rw [List.length_map, htsl]; omega)
                      · rw [cut_lastV, List.getLast?_map] at hv
                        cases ets : ts.getLast? with
                        | none => rw [ets] at hv; simp at hv
                        | some tl =>
                          rw [ets] at hv
                          have hv' : v = .ref tl.1 := by simpa using hv
                          subst hv'
                          have etl : ts[ts.length - 1]? = some tl := by rw [← List.getLast?_eq_getElem?, ets]
                          obtain ⟨p', ep, b1, b2⟩ := it7.items.at etl
                          have elast : f.getLast? = some p' := by rw [List.getLast?_eq_getElem?, ← htsl, ep]
                          have elm : (lastM f).getD 0 = p'.1 := by
                            unfold lastM
                            rw [elast]
                            rfl
                          rw [elm] at hq'
                          refine ⟨_, rfl, tl.1, _, _, _, rfl, rfl, SqT.of (hs' _ _ (upd_old b1 hp)), at0 _ _, hq'⟩
                      · have el : ∃ L : List Int, (cutV (ts.map fun t => V.ref t.1) (some (-1)) none).map (fun _ => V.int ((lastM f).getD 0)) = L.map V.int ∧ L.sum = (lastM f).getD 0 := by
                          rw [cut_lastV, List.getLast?_map]
                          cases ets : ts.getLast? with
                          | none =>
                            refine ⟨[], rfl, ?_⟩
                            have : ts = [] := by simpa using ets
                            have hf : f = [] := by
                              rw [this] at htsl
                              exact List.eq_nil_of_length_eq_zero htsl.symm
                            rw [hf]
                            rfl
                          | some tl => exact ⟨[(lastM f).getD 0], rfl, by simp⟩
                        obtain ⟨L, eL, sL⟩ := el
                        rw [eL]
                        have hlp : l ≠ p := ne_of_none h7 hp
                        have hD1 := (free_ne hD).2
                        have htp2 := upd_old (u := .lst (L.map V.int)) (upd_old (u := .lst (cutV (ts.map fun t => V.ref t.1) (some (-1)) none)) htp hp) hD
                        refine ⟨D, L, rfl, SqL.of upd_same, _, _, rfl, rfl, _, rfl, tp, _, _, _, rfl, rfl, SqT.of htp2, at0 _ _, by show 2 ≤ sizeLine; decide, fun t9 ht9 => ?_⟩
                        have esum : s + L.sum = (lastM f).getD 0 + s := by rw [sL, Int.add_comm]
                        have h9 := upd_old (u := .tup [.int (s + L.sum), .ref q0]) (upd_old (u := .lst (L.map V.int)) (upd_old (u := .lst (cutV (ts.map fun t => V.ref t.1) (some (-1)) none)) h7 hp) hD) ht9
                        have it9 := ((it7.same (Same.upd_new hp)).same (Same.upd_new hD)).same (Same.upd_new (o := .tup [.int (s + L.sum), .ref q0]) ht9)
                        have hq9 := upd_old (u := .tup [.int (s + L.sum), .ref q0]) (upd_old (u := .lst (L.map V.int)) (upd_old (u := .lst (cutV (ts.map fun t => V.ref t.1) (some (-1)) none)) hq hp) hD) ht9
                        have htp9 := upd_old (u := .tup [.int (s + L.sum), .ref q0]) htp2 ht9
                        have hql : q0 ≠ l := by
                          intro z
                          rw [z, h7] at hq
                          have hq := HO.lst.inj (Option.some.inj hq)
                          cases ts with
                          | nil =>
                            cases xs with
                            | nil => simp at hx; omega
                            | cons x xs => cases hq
                          | cons tt ts =>
                            cases xs with
                            | nil => cases hq
                            | cons x xs =>
                              have := (List.cons.inj hq).1
                              cases this
                        have ht9l : t9 ≠ l := (ne_of_none (upd_old (u := .lst (L.map V.int)) (upd_old (u := .lst (cutV (ts.map fun t => V.ref t.1) (some (-1)) none)) h7 hp) hD) ht9).symm
                        have htpl : tp ≠ l := ne_of htp h7 (by intro z; cases z)
                        refine ⟨l, _, _, rfl, rfl, h9, ?_, ?_⟩
                        · rw [List.length_map]
                          exact sl_lt (by omega)
                        · refine ⟨_, rfl, tp, _, _, _, rfl, rfl, SqT.of (by rw [upd_ne htpl]; exact htp9), at1 _ _, xs, (lastM f).getD 0 + s, (t9, q0), r3, some (.ref t), some (.ref tc), some (.ref tp), rfl, by omega, (risR_suf e4).trans sufc, ?_, ?_, ?_, ?_⟩
                          · exact Same.mut (Same.new (Same.new (Same.new (s2.trans s37) hp) hD) ht9) hl
                          · rw [upd_same, List.map_append]
                            rfl
                          · refine paired_snoc (it9.upd h9) ⟨⟨?_, ?_⟩, hql⟩
                            · show upd _ l _ t9 = _
                              rw [upd_ne ht9l, upd_same, ← esum]
                            · show upd _ l _ q0 = _
                              rw [upd_ne hql]
                              exact hq9
                          · rw [en']
                            dsimp only
                            cases postsK k (some ((lastM f).getD 0 + s)) r3 with
                            | none => rfl
                            | some p => simp
                    · refine ⟨_, rfl, rfl, _, rfl, bT (by rfl) (q2 ?_ _ (s06.trans s7))⟩
                      rw [en', e4]
                      rfl
                · refine ⟨_, rfl, rfl, _, rfl, bT (by rfl) (bT (by rfl) (q2 ?_ _ (((s02.trans s3).trans s4).trans s5)))⟩
                  rw [en, e']
                  rfl
            · refine ⟨_, rfl, rfl, _, rfl, bT (by rfl) (bT (by rfl) ?_)⟩
              refine q2 ?_ _ (s02.trans s3)
              rw [en, postsK_bad e]
              rfl
        · have e1' : ¬ (f.length : Int) < many := by
            have := of_decide_eq_false (Bool.eq_false_iff.mpr e1)
            rwa [List.length_map, htsl] at this
          rw [show many.toNat - f.length = 0 by omega] at en
          refine ⟨_, rfl, _, rfl, by show 2 ≤ sizeLine; decide, fun t ht => ?_⟩
          refine q1 f r ?_ t (.ref l) _ (Same.new s02 ht) upd_same ⟨l, rfl, ts, upd_old h2 ht, it.items.same (Same.upd_new ht)⟩
          rw [en]
          show some (f ++ [], r) = _
          rw [List.append_nil]
    · refine ⟨_, rfl, rfl, _, rfl, bT (by rfl) ?_⟩
      refine q2 ?_ _ s1
      unfold postsR
      rw [e0]
end
end FC
/-! W27: the law's word_in. -/
namespace FC
open PySem PySem.Spec PyProof.Rows L2
def wordQ (fig : Bool) (last : List Nat) (re : List Int) : Option (List Nat × List Int) :=
  match textR re with
  | none => none
  | some (w, r) => if (if fig = true then wordB w else nameB w) = true ∧ last < w then some (w, r) else none
def alph (fig : Bool) : List Nat := lets ++ if fig = true then figs else []
theorem alph_ok {fig : Bool} {w : List Nat} (hne : w ≠ []) (hl : w.length ≤ 1000) : (if fig = true then wordB w else nameB w) = (decide (w.length ≤ if fig = true then 2000 else 12) && w.all fun ch => decide (ch ∈ alph fig)) := by
  have h0 : 0 < w.length := List.length_pos_iff.mpr hne
  cases fig with
  | true =>
    show wordB w = _
    unfold wordB alph
    rw [decide_eq_true hne, decide_eq_true (by show w.length ≤ 2000; omega)]
    congr 1
    refine congrArg (fun g => w.all g) (funext fun ch => ?_)
    show (decide (ch ∈ lets) || decide (ch ∈ figs)) = decide (ch ∈ lets ++ figs)
    simp [Bool.decide_or]
  | false =>
    show nameB w = _
    unfold nameB alph
    rw [decide_eq_true h0]
    show (true && (decide (w.length ≤ 12) && _)) = (decide (w.length ≤ 12) && _)
    rw [Bool.true_and]
    simp
theorem lt_ne {last w : List Nat} (h : last < w) : w ≠ [] := by
  rintro rfl
  exact absurd h (List.not_lt_nil _)
def spWordIn : Sp := fun vs H Q _ => ∃ (a : Addr) (row re : List Int) (last : List Nat) (fig : Bool), vs = [.ref a, .int (posR row re), .str (S last), .bl fig] ∧ Suf H a row re ∧ RdN H row (wordQ fig last re) (fun w _ v => v = .str (S w)) Q
section
variable {P : Program} {w : World} {K : PySem.W.Frag} {mg : Str → Option Value} {base : Heap} {c : Cl}
theorem ok__law_word_in (T : Txt K mg c) : GFn P w K mg base CX0 3 "_law_word_in" ["_law_row", "_law_at", "_law_last", "_law_figures"] spWordIn := by
  obtain ⟨f, fd, F, hm, hb⟩ := T.d__law_word_in
  have g__law_text_in : GFn P w K mg base CX0 2 "_law_text_in" ["_law_row", "_law_at"] spTextIn := ok__law_text_in T
  refine ⟨f, fd, hm, F.kp, hb, F.ok sc__law_word_in (fun vs H Q E h => ?_) (fun cdv A outer s H vs Q E hr h => ?_)⟩
  · obtain ⟨a, row, re, last, fig, rfl, _⟩ := h
    rfl
  · obtain ⟨a, row, re, last, fig, rfl, S0, q1, q2⟩ := h
    have nd := sc__law_word_in.nd
    refine ⟨_, (pss_cons (ps_set (i := 4) nd rfl (.inl rfl) (pe_g g__law_text_in hr (by rfl) pass0 (pa_cons (pv 0) (pa_cons (pv 1) pa_nil))))
      (pss_cons (ps_if (PW.pt (pw_or (pt_cmpR op_isN (pv 4) pe_non (nomark _)) (pw_or (pt_cmpR op_le_str (pe_ix ix_tup (pv 4) pe_int (fun _ _ => rfl)) (pv 2) (nomark _)) (pw_or1 (pt_cmpR op_gt (pe_callB call_len_str (by rfl) T.b_len boot_len (pa_cons (pe_ix ix_tup (pv 4) pe_int (fun _ _ => rfl)) pa_nil)) (pe_ix ix_list (pe_lst (pa_cons pe_int (pa_cons pe_int pa_nil))) (pe_callTy call_int1 (by rfl) T.b_int boot_int (pa_cons (pv 3) pa_nil)) (fun _ _ => rfl)) (nomark _))))))
        (pss_one (ps_ret pe_non))
        pss_nil)
      (pss_cons (ps_for PassesOwn.never rfl (pi_str (pe_ix ix_tup (pv 4) pe_int (fun _ _ => rfl))) (pg_name (i := 5) nd rfl (.inl rfl))
        (pss_one (ps_if (pt_cmpR op_notIn_sign (pv 5) (pe_op op_add_str pe_str (pe_ix ix_list (pe_lst (pa_cons pe_str (pa_cons pe_str pa_nil))) (pe_callTy call_int1 (by rfl) T.b_int boot_int (pa_cons (pv 3) pa_nil)) (fun _ _ => rfl))) rfl)
          (pss_one (ps_ret pe_non))
          pss_nil)))
      (pss_one (ps_ret (pv 4)))))), ?_⟩
    have hlen := S0.len
    have hsuf := S0.suf.length_le
    refine ⟨_, rfl, _, rfl, a, row, re, rfl, S0, fun wd r e t v H1 s1 ht hv => ?_, fun e H1 s1 => ?_⟩
    · subst hv
      have hwl := textR_len e
      have hz : (S wd).length = wd.length := List.size_toArray
      have eq : wordQ fig last re = if (if fig = true then wordB wd else nameB wd) = true ∧ last < wd then some (wd, r) else none := by
        unfold wordQ
        rw [e]
      have hlim : atI [V.int 12, V.int 2000] (if fig = true then 1 else 0) = some (.int (if fig = true then 2000 else 12)) := by cases fig <;> rfl
      have hfg : atI [V.str "", V.str "0123456789"] (if fig = true then 1 else 0) = some (.str (if fig = true then "0123456789" else "")) := by cases fig <;> rfl
      dsimp only
      refine seq_tst (Tst.or (p := false) (fun Q q => ⟨_, rfl, rfl, _, rfl, q _ (Same.refl _)⟩) fun _ H2 s2 => Tst.or (p := !decide (last < wd)) (q := decide ((if fig = true then 2000 else 12) < (wd.length : Int))) (fun Q q => ⟨_, rfl, t, _, _, _, rfl, rfl, SqT.of (s2 _ _ ht), at0 _ _, _, rfl, _, _, rfl, rfl, _, rfl, ?_⟩) fun _ H3 s3 Q q => ⟨_, rfl, t, _, _, _, rfl, rfl, SqT.of (s3 _ _ (s2 _ _ ht)), at0 _ _, S wd, rfl, sl_line (by rw [hz]; omega), sl_line (by decide), fun p hp => ⟨_, rfl, .inr ⟨_, rfl, p, _, _, _, rfl, rfl, SqL.of upd_same, hlim, _, _, rfl, rfl, _, rfl, ?_⟩⟩⟩) fun H2 s2 => ?_
      · exact q _ (Same.refl _)
      · rw [hz]
        exact q _ (Same.upd_new hp)
      · have s12 := s1.trans s2
        by_cases hlt : last < wd
        · have hne := lt_ne hlt
          rw [alph_ok hne (by omega)] at eq
          by_cases hl2 : (if fig = true then 2000 else 12) < (wd.length : Int)
          · refine bT (by simp [hl2]) (q2 ?_ _ s12)
            rw [eq, if_neg]
            rintro ⟨z, _⟩
            have := of_decide_eq_true (Bool.and_eq_true_iff.mp z).1
            cases fig <;> simp at hl2 this <;> omega
          · refine bF (by simp [hl2, hlt]) ?_
            have hl3 : wd.length ≤ if fig = true then 2000 else 12 := by
              cases fig <;> simp at hl2 ⊢ <;> omega
            have t2 := s2 _ _ ht
            refine ⟨_, rfl, t, _, _, _, rfl, rfl, SqT.of t2, at0 _ _, _, rfl, for_it walk_str (fun i σ H' => ∃ y5, σ = [some (.ref a), some (.int (posR row re)), some (.str (S last)), some (.bl fig), some (.ref t), y5] ∧ Same H2 H' ∧ ∀ ch ∈ wd.take i, ch ∈ alph fig) ⟨none, rfl, Same.refl _, fun _ z => nomatch z⟩ (fun _ _ _ _ _ => trivial) ?_ ?_⟩
            · rintro i v σ H3 H3' hi ⟨y5, rfl, s3, hin⟩ ⟨rfl, n, hn, rfl⟩
              have hn' : wd[i]? = some n := by simpa using hn
              refine ⟨_, rfl, sl_line (by decide), fun p hp => ⟨_, rfl, .inr ⟨_, rfl, p, _, _, _, rfl, rfl, SqL.of upd_same, hfg, _, _, rfl, rfl, ?_, n, _, rfl, rfl, _, rfl, ?_⟩⟩⟩
              · cases fig <;> exact sl_line (by decide)
              · have hal : decide (n ∈ (("abcdefghijklmnopqrstuvwxyz" : Str) ++ (if fig = true then ("0123456789" : Str) else "")).cps.toList) = decide (n ∈ alph fig) := by
                  congr 1
                  unfold alph lets figs
                  cases fig
                  · show (n ∈ (("abcdefghijklmnopqrstuvwxyz" : Str).cps ++ ("" : Str).cps).toList) = _
                    rw [Array.toList_append]
                    rfl
                  · show (n ∈ (("abcdefghijklmnopqrstuvwxyz" : Str).cps ++ ("0123456789" : Str).cps).toList) = _
                    rw [Array.toList_append]
                    rfl
                by_cases hb : n ∈ alph fig
                · refine bF ?_ ⟨_, rfl, Same.new s3 hp, ?_⟩
                  · simp only [hal, decide_eq_true hb]
                    rfl
                  · intro ch hc
                    rw [List.take_add_one, hn'] at hc
                    rcases List.mem_append.mp hc with hc | hc
                    · exact hin ch hc
                    · have : ch = n := by simpa using hc
                      rw [this]
                      exact hb
                · refine bT ?_ (q2 ?_ _ (Same.new (s12.trans s3) hp))
                  · simp only [hal, decide_eq_false hb]
                    rfl
                  · rw [eq, if_neg]
                    rintro ⟨z, _⟩
                    have h2 := List.all_eq_true.mp (Bool.and_eq_true_iff.mp z).2 n (List.mem_of_getElem? hn')
                    exact hb (of_decide_eq_true h2)
            · rintro σ H3 ⟨y5, rfl, s3, hin⟩
              have hsz : (S wd).cps.size = wd.length := hz
              rw [hsz, List.take_length] at hin
              refine ⟨_, rfl, q1 wd r ?_ t (.str (S wd)) H3 (s12.trans s3) (s3 _ _ t2) rfl⟩
              rw [eq, if_pos]
              refine ⟨Bool.and_eq_true_iff.mpr ⟨decide_eq_true hl3, List.all_eq_true.mpr fun ch hc => decide_eq_true (hin ch hc)⟩, hlt⟩
        · refine bT (by simp [hlt]) (q2 ?_ _ s12)
          rw [eq, if_neg]
          exact fun z => hlt z.2
    · refine ⟨_, rfl, rfl, _, rfl, bT (by rfl) (bT (by rfl) (q2 ?_ _ s1))⟩
      unfold wordQ
      rw [e]
end
end FC
/-! W28: the law's words_in. -/
namespace FC
open PySem PySem.Spec PyProof.Rows L2
theorem KvsAt.updD {H : Hp} {kvs x : List (Key × V)} {ws : Words} {d : Addr} {o : HO} (h : KvsAt H kvs ws) (e : H d = some (.dK x)) : KvsAt (upd H d o) kvs ws := Paired.mapP h fun _ _ z => ⟨z.1, let ⟨l, e1, p⟩ := z.2; ⟨l, e1, p.kp (xs := [d]) (Kp.refl.at (by simp)) fun b hb => by
  have : b = d := by simpa using hb
  subst this
  exact ⟨fun vs z => (by rw [e] at z; cases z), fun vs z => (by rw [e] at z; cases z)⟩⟩⟩
def spWordsIn : Sp := fun vs H Q _ => ∃ (a : Addr) (row re : List Int), vs = [.ref a, .int (posR row re)] ∧ Suf H a row re ∧ RdN H row (wordsR re) (fun ws H' v => ∃ dw, v = .ref dw ∧ H dw = none ∧ WordsAt H' dw ws) Q
section
variable {P : Program} {w : World} {K : PySem.W.Frag} {mg : Str → Option Value} {base : Heap} {c : Cl}
theorem ok__law_words_in (T : Txt K mg c) : GFn P w K mg base CX0 4 "_law_words_in" ["_law_row", "_law_at"] spWordsIn := by
  obtain ⟨f, fd, F, hm, hb⟩ := T.d__law_words_in
  have g__law_number_in : GFn P w K mg base CX0 1 "_law_number_in" ["_law_row", "_law_at"] spNumIn := ok__law_number_in T
  have g__law_word_in : GFn P w K mg base CX0 3 "_law_word_in" ["_law_row", "_law_at", "_law_last", "_law_figures"] spWordIn := ok__law_word_in T
  have g__law_postings_in : GFn P w K mg base CX0 3 "_law_postings_in" ["_law_row", "_law_at"] spPostsIn := ok__law_postings_in T
  refine ⟨f, fd, hm, F.kp, hb, F.ok sc__law_words_in (fun vs H Q E h => ?_) (fun cdv A outer s H vs Q E hr h => ?_)⟩
  · obtain ⟨a, row, re, rfl, _⟩ := h
    rfl
  · obtain ⟨a, row, re, rfl, S0, q1, q2⟩ := h
    have nd := sc__law_words_in.nd
    have hu := hu_of hr
    refine ⟨_, (pss_cons (ps_set (i := 2) nd rfl (.inl rfl) (pe_g g__law_number_in hr (by rfl) pass0 (pa_cons (pv 0) (pa_cons (pv 1) pa_nil))))
      (pss_cons (ps_if (PW.pt (pw_or (pt_cmpR op_isN (pv 2) pe_non (nomark _)) (pw_or1 (pt_cmpR op_eq (pe_ix ix_tup (pv 2) pe_int (fun _ _ => rfl)) pe_int (nomark _)))))
        (pss_one (ps_ret pe_non))
        pss_nil)
      (pss_cons (ps_set (i := 1) nd rfl (.inl rfl) (pe_ix ix_tup (pv 2) pe_int (fun _ _ => rfl)))
      (pss_cons (ps_set (i := 3) nd rfl (.inl rfl) pe_dnewK)
      (pss_cons (ps_set (i := 4) nd rfl (.inl rfl) pe_str)
      (pss_cons (ps_while PassesOwn.never (pt_cmpR op_lt (pe_callB call_lenD (by rfl) T.b_len boot_len (pa_cons (pv 3) pa_nil)) (pe_ix ix_tup (pv 2) pe_int (fun _ _ => rfl)) (nomark _))
        (pss_cons (ps_set (i := 5) nd rfl (.inl rfl) (pe_g g__law_word_in hr (by rfl) pass0 (pa_cons (pv 0) (pa_cons (pv 1) (pa_cons (pv 4) (pa_cons pe_bl pa_nil))))))
        (pss_cons (ps_if (pt_cmpR op_isN (pv 5) pe_non (nomark _))
          (pss_one (ps_ret pe_non))
          pss_nil)
        (pss_cons (ps_set (i := 6) nd rfl (.inl rfl) (pe_g g__law_postings_in hr (by rfl) pass0 (pa_cons (pv 0) (pa_cons (pe_ix ix_tup (pv 5) pe_int (fun _ _ => rfl)) pa_nil))))
        (pss_cons (ps_if (PW.pt (pw_or (pt_cmpR op_isN (pv 6) pe_non (nomark _)) (pw_or1 (pt_cmpR (op_eqD hr.units) (pe_ix ix_tup (pv 6) pe_int (fun _ _ => rfl)) (pe_lst pa_nil) (nomark _)))))
          (pss_one (ps_ret pe_non))
          pss_nil)
        (pss_cons (ps_set (i := 4) nd rfl (.inl rfl) (pe_ix ix_tup (pv 5) pe_int (fun _ _ => rfl)))
        (pss_cons (ps_dput hu (pv 3) (pv 4) (pe_ix ix_tup (pv 6) pe_int (fun _ _ => rfl)) rfl)
        (pss_one (ps_set (i := 1) nd rfl (.inl rfl) (pe_ix ix_tup (pv 6) pe_int (fun _ _ => rfl)))))))))))
      (pss_one (ps_ret (pe_tup (pa_cons (pv 3) (pa_cons (pv 1) pa_nil))))))))))), ?_⟩
    have hlen := S0.len
    have hsuf := S0.suf.length_le
    refine ⟨_, rfl, _, rfl, a, row, re, rfl, S0, fun many r0 e0 tm v H1 s1 htm hv => ?_, fun e0 H1 s1 => ?_⟩
    · subst hv
      have hr0 := numR_len e0
      have m0 := (numR_ok e0).1
      have suf0 := (numR_suf e0).trans S0.suf
      have hA := s1 _ _ S0.lst
      dsimp only
      refine seq_tst (Tst.or (p := false) (q := decide (many = 0)) (fun Q q => ⟨_, rfl, rfl, _, rfl, q _ (Same.refl _)⟩) fun _ H6 s6 Q q => ⟨_, rfl, tm, _, _, _, rfl, rfl, SqT.of (s6 _ _ htm), at0 _ _, rfl, _, rfl, ?_⟩) fun H1' s1' => ?_
      · have : decide (V.int many = V.int 0) = decide (many = 0) := by simp
        rw [this]
        exact q _ (Same.refl _)
      replace hA := s1' _ _ hA
      replace htm := s1' _ _ htm
      replace s1 := s1.trans s1'
      clear s1'
      by_cases hm0 : many = 0
      · refine bT (by simp [hm0]) (q2 ?_ _ s1)
        unfold wordsR
        rw [e0]
        exact if_pos hm0
      refine bF (by simp [hm0]) ?_
      have et : wordsR re = wordsK many.toNat [] r0 := by
        unfold wordsR
        rw [e0]
        exact if_neg hm0
      refine ⟨_, rfl, tm, _, _, _, rfl, rfl, SqT.of htm, at1 _ _, ?_⟩
      intro l hl
      have hl0 : H l = none := s1.free hl
      have ntl : tm ≠ l := ne_of_none htm hl
      refine ⟨fun m σ H' => ∃ (f : Words) (kvs : List (Key × V)) (r : List Int) (y5 y6 : Option V), σ = [some (.ref a), some (.int (posR row r)), some (.ref tm), some (.ref l), some (.str (S (lastW f))), y5, y6] ∧ m = r.length ∧ Same H1' H' ∧ H' l = some (.dK kvs) ∧
        KvsAt H' kvs f ∧ r <:+ row ∧ f.length + r.length ≤ 360 ∧ f.length ≤ many.toNat ∧ (∀ v, lastW f < v → ∀ p ∈ f, p.1 < v) ∧ wordsR re = (wordsK (many.toNat - f.length) (lastW f) r).map fun p => (f ++ p.1, p.2),
        ⟨r0.length, [], [], r0, none, none, rfl, rfl, Same.upd_new hl, upd_same, .nil, suf0, (by simp only [List.length_nil]; omega), Nat.zero_le _, (fun _ _ _ z => nomatch z), ?_⟩, ?_⟩
      · rw [et]
        show _ = (wordsK many.toNat [] r0).map fun p => (p.1, p.2)
        cases wordsK many.toNat [] r0 <;> rfl
      · rintro m σ H2 ⟨f, kvs, r, y5, y6, rfl, rfl, s2, h2, it, suf2, hsz, hfl, hlt, en⟩
        have htl : kvs.length = f.length := Paired.length it
        have htm2 := s2 _ _ htm
        have s02 := s1.trans s2
        refine ⟨_, rfl, l, _, rfl, h2, _, rfl, tm, _, _, _, rfl, rfl, SqT.of htm2, at0 _ _, _, _, rfl, rfl, _, rfl, ite2 (fun e1 => ?_) (fun e1 => ?_)⟩
        · have e1' : (f.length : Int) < many := by
            have := of_decide_eq_true e1
            rwa [htl] at this
          obtain ⟨k, hk⟩ : ∃ k, many.toNat - f.length = k + 1 := ⟨many.toNat - f.length - 1, by omega⟩
          rw [hk] at en
          refine ⟨fun σ' H' => ∃ (wd : List Nat) (ps : Posts) (kvs' : List (Key × V)) (r' : List Int) (y5 y6 : Option V), lastW f < wd ∧ σ' = [some (.ref a), some (.int (posR row r')), some (.ref tm), some (.ref l), some (.str (S wd)), y5, y6] ∧ r'.length < r.length ∧ r' <:+ row ∧ Same H1' H' ∧
            H' l = some (.dK kvs') ∧ KvsAt H' kvs' (f ++ [(wd, ps)]) ∧ wordsR re = (wordsK k wd r').map fun p => ((f ++ [(wd, ps)]) ++ p.1, p.2), ?_, ?_⟩
          · rintro σ' H' ⟨wd, ps, kvs', r', y5, y6, hw, rfl, hr', suf', s3, h3, it3, en3⟩
            refine ⟨r'.length, hr', f ++ [(wd, ps)], kvs', r', y5, y6, ?_, rfl, s3, h3, it3, suf', ?_, ?_, ?_, ?_⟩
            · rw [lastW_snoc]
            · simp only [List.length_append, List.length_cons, List.length_nil]
              omega
            · simp only [List.length_append, List.length_cons, List.length_nil]
              omega
            · intro v hv p hp
              rw [lastW_snoc] at hv
              rcases List.mem_append.mp hp with hp | hp
              · exact nlt_trans (hlt wd hw p hp) hv
              · have : p = (wd, ps) := by simpa using hp
                rw [this]
                exact hv
            · have : many.toNat - (f ++ [(wd, ps)]).length = k := by
                simp only [List.length_append, List.length_cons, List.length_nil]
                omega
              rw [this, lastW_snoc]
              exact en3
          · -- word
            refine ⟨_, rfl, _, rfl, _, rfl, a, row, r, lastW f, true, rfl, ⟨s2 _ _ hA, suf2, S0.len⟩, fun wd r1 e t v H3 s3 ht hv => ?_, fun e H3 s3 => ?_⟩
            · subst hv
              have h3 := s3 _ _ h2
              obtain ⟨r1', et1, hw1⟩ : ∃ r1', textR r = some (wd, r1') ∧ (wordB wd = true ∧ lastW f < wd) ∧ r1' = r1 := by
                unfold wordQ at e
                cases e2 : textR r with
                | none => rw [e2] at e; cases e
                | some p =>
                  obtain ⟨w', r'⟩ := p
                  rw [e2] at e
                  by_cases hc : wordB w' = true ∧ lastW f < w'
                  · have e' : (if wordB w' = true ∧ lastW f < w' then some (w', r') else none) = some (wd, r1) := e
                    rw [if_pos hc] at e'
                    cases Option.some.inj e'
                    exact ⟨_, rfl, hc, rfl⟩
                  · have e' : (if wordB w' = true ∧ lastW f < w' then some (w', r') else none) = some (wd, r1) := e
                    rw [if_neg hc] at e'
                    cases e'
              obtain ⟨hw, rfl⟩ := hw1
              have l1 := textR_len et1
              have suf3 := (show r1' <:+ r from ⟨_, (textR_ok et1).1.symm⟩).trans suf2
              rw [wordsK_go et1 hw] at en
              refine ⟨_, rfl, rfl, _, rfl, bF (by rfl) ?_⟩
              refine ⟨_, rfl, _, rfl, t, _, _, _, rfl, rfl, SqT.of ht, at1 _ _, a, row, r1', rfl, ⟨s3 _ _ (s2 _ _ hA), suf3, S0.len⟩, fun ps r2 e' tp v H4 s4 htp hv => ?_, fun e' H4 s4 => ?_⟩
              · obtain ⟨q0, rfl, hq⟩ := hv
                rw [e'] at en
                have l2 := postsR_len e'
                have s34 := s3.trans s4
                dsimp only
                obtain ⟨tsq, hq1, hq2⟩ := id hq
                refine seq_tst (Tst.or (p := false) (q := decide (ps = [])) (fun Q q => ⟨_, rfl, rfl, _, rfl, q _ (Same.refl _)⟩) fun _ H6 s6 Q q => ⟨_, rfl, tp, _, _, _, rfl, rfl, SqT.of (s6 _ _ htp), at0 _ _, sl_line (Nat.zero_le _), fun p hp => ⟨_, _, dp_posts (upd_old (s6 _ _ hq1) hp) ((hq2.same s6).same (Same.upd_new hp)), dp_ints (a := []) (SqL.of upd_same), shaped_posts _, shaped_intL _, _, rfl, ?_⟩⟩) fun H5 s5 => ?_
                · rw [eqv_posts_nil]
                  exact q _ (Same.upd_new (o := .lst []) hp)
                have s05 := (s02.trans s34).trans s5
                by_cases hps : ps = []
                · refine bT (by simp [hps]) (q2 ?_ _ s05)
                  rw [en]
                  show Option.map _ (if ps = [] then none else _) = _
                  rw [if_pos hps]
                  rfl
                · refine bF (by simp [hps]) ?_
                  have h5 := s5 _ _ (s4 _ _ h3)
                  have ht5 := s5 _ _ (s4 _ _ ht)
                  have htp5 := s5 _ _ htp
                  have it5 := it.same (s34.trans s5)
                  have hq5 := hq.same s5
                  have hvn : valV kvs (Sum.inr (S wd) : Key) = none := KvsAt.none it fun p hp z => by
                    have := hlt wd hw.2 p hp
                    rw [z] at this
                    exact nlt_irrefl _ this
                  have ntp : tp ≠ l := ne_of htp5 h5 (by intro z; cases z)
                  refine ⟨_, rfl, t, _, _, _, rfl, rfl, SqT.of ht5, at0 _ _, ?_⟩
                  refine ⟨_, rfl, tp, _, _, _, rfl, rfl, SqT.of htp5, at0 _ _, _, rfl, _, rfl, l, _, rfl, DPut.k (k := Sum.inr (S wd)) h5 (sl_lt (by omega)), ?_⟩
                  refine ⟨_, rfl, tp, _, _, _, rfl, rfl, SqT.of (by rw [upd_ne ntp]; exact htp5), at1 _ _, wd, ps, kvs ++ [(Sum.inr (S wd), V.ref q0)], r2, _, _, hw.2, rfl, by omega, (postsR_suf e').trans suf3, Same.mut ((s2.trans s34).trans s5) hl, ?_, ?_, ?_⟩
                  · rw [upd_same, putK_new _ hvn]
                  · refine paired_snoc (it5.updD h5) ⟨rfl, q0, rfl, hq5.kp (xs := [l]) (Kp.refl.at (by simp)) fun b hb' => ?_⟩
                    have : b = l := by simpa using hb'
                    subst this
                    exact ⟨fun vs z => (by rw [h5] at z; cases z), fun vs z => (by rw [h5] at z; cases z)⟩
                  · rw [en]
                    show Option.map _ (if ps = [] then none else _) = _
                    rw [if_neg hps]
                    cases wordsK k wd r2 with
                    | none => rfl
                    | some p => simp
              · refine ⟨_, rfl, rfl, _, rfl, bT (by rfl) (bT (by rfl) (q2 ?_ _ ((s02.trans s3).trans s4)))⟩
                rw [en, e']
                rfl
            · refine ⟨_, rfl, rfl, _, rfl, bT (by rfl) (q2 ?_ _ (s02.trans s3))⟩
              rw [en]
              have : wordsK (k + 1) (lastW f) r = none := by
                unfold wordQ at e
                cases e2 : textR r with
                | none => exact wordsK_text e2
                | some p =>
                  obtain ⟨w', r'⟩ := p
                  rw [e2] at e
                  refine wordsK_word e2 fun hc => ?_
                  have e' : (if wordB w' = true ∧ lastW f < w' then some (w', r') else none) = none := e
                  rw [if_pos hc] at e'
                  cases e'
              rw [this]
              rfl
        · have e1' : ¬ (f.length : Int) < many := by
            have := of_decide_eq_false (Bool.eq_false_iff.mpr e1)
            rwa [htl] at this
          rw [show many.toNat - f.length = 0 by omega] at en
          refine ⟨_, rfl, _, rfl, by show 2 ≤ sizeLine; decide, fun t ht => ?_⟩
          refine q1 f r ?_ t (.ref l) _ (Same.new s02 ht) upd_same ⟨l, rfl, hl0, kvs, upd_old h2 ht, it.same (Same.upd_new ht)⟩
          rw [en]
          show some (f ++ [], r) = _
          rw [List.append_nil]
    · refine ⟨_, rfl, rfl, _, rfl, bT (by rfl) (bT (by rfl) (q2 ?_ _ s1))⟩
      unfold wordsR
      rw [e0]
end
end FC
/-! W29: the law's field_in. -/
namespace FC
open PySem PySem.Spec PyProof.Rows L2
theorem putK_len_same {κ : Type} [DecidableEq κ] {kvs : List (κ × V)} {k : κ} {x v : V} (h : valV kvs k = some x) : (putK kvs k v).length = kvs.length := by
  have : (kvs.any fun kv => decide (kv.1 = k)) = true := by
    rw [valV_any, h]
    rfl
  unfold putK
  rw [if_pos this, List.length_map]
/-- the places of each make, in a dict of lists -/
def PlAt (H : Hp) (hd : Addr) (N : Nat) (P : Int → Prop) (g : Int → List Int) : Prop := ∃ kvs : List (Key × V), H hd = some (.dK kvs) ∧ kvs.length ≤ N ∧ ∀ m, (P m → ∃ l, valV kvs (Sum.inl m : Key) = some (V.ref l) ∧ H l = some (.lst ((g m).map V.int))) ∧ (¬ P m → valV kvs (Sum.inl m : Key) = none)
theorem PlAt.same {H H' : Hp} {hd : Addr} {N : Nat} {P : Int → Prop} {g : Int → List Int} (h : PlAt H hd N P g) (k : Same H H') : PlAt H' hd N P g := by
  obtain ⟨kvs, h1, h2, h3⟩ := h
  exact ⟨kvs, k _ _ h1, h2, fun m => ⟨fun hp => let ⟨l, e1, e2⟩ := (h3 m).1 hp; ⟨l, e1, k _ _ e2⟩, (h3 m).2⟩⟩
/-- another dict changes -/
theorem PlAt.oth {H : Hp} {hd d : Addr} {N : Nat} {P : Int → Prop} {g : Int → List Int} {o u : HO} (h : PlAt H hd N P g) (n : d ≠ hd) (e : H d = some u) (hu : ∀ vs, u ≠ .lst vs) : PlAt (upd H d o) hd N P g := by
  obtain ⟨kvs, h1, h2, h3⟩ := h
  refine ⟨kvs, by rw [upd_ne n.symm]; exact h1, h2, fun m => ⟨fun hp => let ⟨l, e1, e2⟩ := (h3 m).1 hp; ⟨l, e1, ?_⟩, (h3 m).2⟩⟩
  rw [upd_ne (fun z => by rw [z, e] at e2; exact hu _ (Option.some.inj e2))]
  exact e2
/-- a make more, a make anew -/
theorem PlAt.put {H : Hp} {hd q : Addr} {N N' : Nat} {P P' : Int → Prop} {g g' : Int → List Int} {m : Int} {kvs : List (Key × V)} (h : H hd = some (.dK kvs)) (hN : (putK kvs (Sum.inl m) (V.ref q)).length ≤ N')
    (h3 : ∀ m', m' ≠ m → (P' m' → ∃ l, valV kvs (Sum.inl m' : Key) = some (V.ref l) ∧ H l = some (.lst ((g' m').map V.int))) ∧ (¬ P' m' → valV kvs (Sum.inl m' : Key) = none)) (hm : P' m) (hq : H q = some (.lst ((g' m).map V.int))) :
    PlAt (upd H hd (.dK (putK kvs (Sum.inl m) (V.ref q)))) hd N' P' g' := by
  have hl : ∀ {l : Addr} {vs : List V}, H l = some (.lst vs) → upd H hd (.dK (putK kvs (Sum.inl m) (V.ref q))) l = some (.lst vs) := fun e => by
    rw [upd_ne (ne_of e h (by intro z; cases z))]
    exact e
  refine ⟨_, upd_same, hN, fun m' => ?_⟩
  by_cases e : m' = m
  · subst e
    refine ⟨fun _ => ⟨q, by rw [valV_put, if_pos rfl], hl hq⟩, fun z => absurd hm z⟩
  · have hk : ¬ (Sum.inl m' : Key) = Sum.inl m := fun z => e (Sum.inl.inj z)
    refine ⟨fun hp => ?_, fun hp => ?_⟩
    · obtain ⟨l, e1, e2⟩ := (h3 m' e).1 hp
      exact ⟨l, by rw [valV_put, if_neg hk]; exact e1, hl e2⟩
    · rw [valV_put, if_neg hk]
      exact (h3 m' e).2 hp
def spFieldIn : Sp := fun vs H Q _ => ∃ (a ml : Addr) (row re ms : List Int) (last : List Nat), vs = [.ref a, .int (posR row re), .str (S last), .ref ml] ∧ Suf H a row re ∧ H ml = some (.lst (ms.map V.int)) ∧ ms.Nodup ∧ ms.length ≤ 360 ∧
  (∀ f r, fieldR ms last re = some (f, r) → ∀ t dw H', Same H H' → H dw = none → H' t = some (.tup [.str (S f.1), .ref dw, .int (posR row r)]) → WordsAt H' dw f.2.2 → Q (.ref t) H') ∧ (fieldR ms last re = none → ∀ H', Same H H' → Q .non H')
section
variable {P : Program} {w : World} {K : PySem.W.Frag} {mg : Str → Option Value} {base : Heap} {c : Cl}
theorem ok__law_field_in (T : Txt K mg c) : GFn P w K mg base CX0 5 "_law_field_in" ["_law_row", "_law_at", "_law_last", "_law_makes"] spFieldIn := by
  obtain ⟨f, fd, F, hm, hb⟩ := T.d__law_field_in
  have g__law_number_in : GFn P w K mg base CX0 1 "_law_number_in" ["_law_row", "_law_at"] spNumIn := ok__law_number_in T
  have g__law_word_in : GFn P w K mg base CX0 3 "_law_word_in" ["_law_row", "_law_at", "_law_last", "_law_figures"] spWordIn := ok__law_word_in T
  have g__law_words_in : GFn P w K mg base CX0 4 "_law_words_in" ["_law_row", "_law_at"] spWordsIn := ok__law_words_in T
  refine ⟨f, fd, hm, F.kp, hb, F.ok sc__law_field_in (fun vs H Q E h => ?_) (fun cdv A outer s H vs Q E hr h => ?_)⟩
  · obtain ⟨a, ml, row, re, ms, last, rfl, _⟩ := h
    rfl
  · obtain ⟨a, ml, row, re, ms, last, rfl, S0, hml, hmn, hms, q1, q2⟩ := h
    have nd := sc__law_field_in.nd
    have hu := hu_of hr
    refine ⟨_, (pss_cons (ps_set (i := 4) nd rfl (.inl rfl) (pe_g g__law_word_in hr (by rfl) pass0 (pa_cons (pv 0) (pa_cons (pv 1) (pa_cons (pv 2) (pa_cons pe_bl pa_nil))))))
      (pss_cons (ps_if (pt_cmpR op_isN (pv 4) pe_non (nomark _))
        (pss_one (ps_ret pe_non))
        pss_nil)
      (pss_cons (ps_set (i := 1) nd rfl (.inl rfl) (pe_ix ix_tup (pv 4) pe_int (fun _ _ => rfl)))
      (pss_cons (ps_set (i := 5) nd rfl (.inl rfl) pe_dnewK)
      (pss_cons (ps_set (i := 6) nd rfl (.inl rfl) pe_dnewK)
      (pss_cons (ps_for PassesOwn.never rfl (pi_list (pv 3)) (pg_name (i := 7) nd rfl (.inl rfl))
        (pss_cons (ps_set (i := 8) nd rfl (.inl rfl) (pe_g g__law_number_in hr (by rfl) pass0 (pa_cons (pv 0) (pa_cons (pv 1) pa_nil))))
        (pss_cons (ps_if (pt_cmpR op_isN (pv 8) pe_non (nomark _))
          (pss_one (ps_ret pe_non))
          pss_nil)
        (pss_cons (ps_dput hu (pv 6) (pv 7) (pe_ix ix_tup (pv 8) pe_int (fun _ _ => rfl)) rfl)
        (pss_cons (ps_dput hu (pv 5) (pv 7) (pe_lst pa_nil) rfl)
        (pss_one (ps_set (i := 1) nd rfl (.inl rfl) (pe_ix ix_tup (pv 8) pe_int (fun _ _ => rfl)))))))))
      (pss_cons (ps_set (i := 9) nd rfl (.inl rfl) (pe_g g__law_words_in hr (by rfl) pass0 (pa_cons (pv 0) (pa_cons (pv 1) pa_nil))))
      (pss_cons (ps_if (pt_cmpR op_isN (pv 9) pe_non (nomark _))
        (pss_one (ps_ret pe_non))
        pss_nil)
      (pss_cons (ps_lock (ps_for PassesOwn.never rfl (pi_items (pe_ix ix_tup (pv 9) pe_int (fun _ _ => rfl))) (pg_tup rfl (pgs_cons (pg_name (i := 10) nd rfl (.inl rfl)) (pgs_cons (pg_name (i := 11) nd rfl (.inl rfl)) pgs_nil)))
        (pss_one (ps_for PassesOwn.never rfl (pi_list (pv 11)) (pg_tup rfl (pgs_cons (pg_name (i := 7) nd rfl (.inl rfl)) (pgs_cons (pg_name (i := 12) nd rfl (.inl rfl)) pgs_nil)))
          (pss_cons (ps_if (pt_cmp (pc_dnotin hu (pv 7) (pv 5)))
            (pss_one (ps_ret pe_non))
            pss_nil)
          (pss_one (ps_dput hu (pv 5) (pv 7) (pe_op op_cat (pe_dget hu (pv 5) (pv 7) (fun _ _ => rfl)) (pv 12)) rfl)))))))
      (pss_cons (ps_for PassesOwn.never rfl (pi_list (pv 3)) (pg_name (i := 7) nd rfl (.inl rfl))
        (pss_one (ps_if (PW.pt (pw_or (pt_cmpR op_ne (pe_dget hu (pv 6) (pv 7) (fun _ _ => rfl)) (pe_callB call_len_seq (by rfl) T.b_len boot_len (pa_cons (pe_dget hu (pv 5) (pv 7) (fun _ _ => rfl)) pa_nil)) (nomark _)) (pw_or1 (pt_cmpR (op_neD hr.units) (pe_callB cr_sortedI (by rfl) T.b_sorted boot_sorted (pa_cons (pe_dget hu (pv 5) (pv 7) (fun _ _ => rfl)) pa_nil)) (pe_callTy (cr_listRng rfl) (by rfl) T.b_list boot_list (pa_cons (pe_callTy cr_rng1 (by rfl) T.b_range boot_range (pa_cons (pe_callB call_len_seq (by rfl) T.b_len boot_len (pa_cons (pe_dget hu (pv 5) (pv 7) (fun _ _ => rfl)) pa_nil)) pa_nil)) pa_nil)) (nomark _)))))
          (pss_one (ps_ret pe_non))
          pss_nil)))
      (pss_one (ps_ret (pe_tup (pa_cons (pe_ix ix_tup (pv 4) pe_int (fun _ _ => rfl)) (pa_cons (pe_ix ix_tup (pv 9) pe_int (fun _ _ => rfl)) (pa_cons (pe_ix ix_tup (pv 9) pe_int (fun _ _ => rfl)) pa_nil)))))))))))))))), ?_⟩
    have hlen := S0.len
    have hsuf := S0.suf.length_le
    -- the name
    refine ⟨_, rfl, _, rfl, _, rfl, a, row, re, last, false, rfl, S0, fun nm r1 e0 tf v H1 s1 htf hv => ?_, fun e0 H1 s1 => ?_⟩
    · subst hv
      obtain ⟨r1', et1, hw1, rfl⟩ : ∃ r1', textR re = some (nm, r1') ∧ (nameB nm = true ∧ last < nm) ∧ r1' = r1 := by
        unfold wordQ at e0
        cases e2 : textR re with
        | none => rw [e2] at e0; cases e0
        | some p =>
          obtain ⟨w', r'⟩ := p
          rw [e2] at e0
          by_cases hc : nameB w' = true ∧ last < w'
          · have e' : (if nameB w' = true ∧ last < w' then some (w', r') else none) = some (nm, r1) := e0
            rw [if_pos hc] at e'
            cases Option.some.inj e'
            exact ⟨_, rfl, hc, rfl⟩
          · have e' : (if nameB w' = true ∧ last < w' then some (w', r') else none) = some (nm, r1) := e0
            rw [if_neg hc] at e'
            cases e'
      have l1 := textR_len et1
      have suf1 := (show r1' <:+ re from ⟨_, (textR_ok et1).1.symm⟩).trans S0.suf
      have ef : fieldR ms last re = (match lensR ms.length r1' with
          | none => none
          | some (ns, r1) =>
            match wordsR r1 with
            | none => none
            | some (ws, r2) => @ite _ (Filled ms ns ws) (Classical.propDecidable _) (some ((nm, ns, ws), r2)) none) := by
        unfold fieldR
        rw [et1]
        exact if_pos hw1
      refine ⟨_, rfl, rfl, _, rfl, bF (by rfl) ?_⟩
      refine ⟨_, rfl, tf, _, _, _, rfl, rfl, SqT.of htf, at1 _ _, ?_⟩
      -- places, lengths
      intro pd hpd ld hld
      have npl : pd ≠ ld := (free_ne hld).1.symm
      have hld1 := (free_ne hld).2
      have hpd0 : H pd = none := s1.free hpd
      have hld0 : H ld = none := s1.free hld1
      have hml1 := s1 _ _ hml
      have s12 : Same H1 (upd (upd H1 pd (.dK [])) ld (.dK [])) := Same.new (Same.upd_new hpd) hld
      refine ⟨_, rfl, ml, rfl, ⟨_, SqL.of (s12 _ _ hml1)⟩, for_list (xs := ms.map V.int) (fun i σ H' => ∃ (nsf r : List Int) (y7 y8 : Option V), σ = [some (.ref a), some (.int (posR row r)), some (.str (S last)), some (.ref ml), some (.ref tf), some (.ref pd), some (.ref ld), y7, y8, none, none, none, none] ∧ nsf.length = i ∧ H' ld = some (.dK (lkv (ms.take i) nsf)) ∧
          PlAt H' pd i (fun m => m ∈ ms.take i) (fun _ => []) ∧ Same H1 H' ∧ r <:+ row ∧ lensR ms.length r1' = (lensR (ms.length - i) r).map fun q => (nsf ++ q.1, q.2))
        ⟨[], r1', none, none, rfl, rfl, upd_same, ⟨[], by rw [upd_ne npl]; exact upd_same, Nat.le_refl _, fun m => ⟨fun z => (nomatch z), fun _ => rfl⟩⟩, s12, suf1, ?_⟩ (fun i σ H' _ ⟨_, _, _, _, _, _, _, _, s, _⟩ => SqL.of (s _ _ hml1)) ?_ ?_⟩
      · show _ = (lensR ms.length r1').map fun q => (q.1, q.2)
        cases lensR ms.length r1' <;> rfl
      · rintro i v σ H2 hv ⟨nsf, r, y7, y8, rfl, hnsf, hl2, hp2, s2, suf2, en⟩
        rw [List.getElem?_map] at hv
        cases em : ms[i]? with
        | none => rw [em] at hv; cases hv
        | some m =>
          rw [em] at hv
          cases Option.some.inj hv
          have hi := (List.getElem?_eq_some_iff.mp em).1
          obtain ⟨k, hk⟩ : ∃ k, ms.length - i = k + 1 := ⟨ms.length - i - 1, by omega⟩
          rw [hk] at en
          refine ⟨_, rfl, _, rfl, a, row, r, rfl, ⟨s2 _ _ (s1 _ _ S0.lst), suf2, S0.len⟩, fun n r' e3 tn v H3 s3 htn hv => ?_, fun e3 H3 s3 => ?_⟩
          · subst hv
            refine ⟨_, rfl, rfl, _, rfl, bF (by rfl) ?_⟩
            have hl3 := s3 _ _ hl2
            have hp3 := hp2.same s3
            have s13 := s2.trans s3
            -- the next step
            refine ⟨_, rfl, tn, _, _, _, rfl, rfl, SqT.of htn, at0 _ _, _, rfl, _, rfl, ld, _, rfl, DPut.k (k := Sum.inl m) hl3 ?_, ?_⟩
            · unfold lkv
              rw [List.length_map, List.length_zip]
              exact sl_lt (by omega)
            have hp4 : PlAt (upd H3 ld (.dK (putK (lkv (ms.take i) nsf) (Sum.inl m) (.int n)))) pd i (fun m => m ∈ ms.take i) (fun _ => []) := hp3.oth npl.symm hl3 fun vs z => by cases z
            have ntl : tn ≠ ld := ne_of htn hl3 (by intro z; cases z)
            obtain ⟨kvs, k1, k2, k3⟩ := hp4
            have ntp : tn ≠ pd := fun z => by
              rw [← z, upd_ne ntl, htn] at k1
              cases k1
            -- the next step
            refine ⟨sl_line (Nat.zero_le _), fun q0 hq0 => ⟨_, rfl, _, rfl, pd, _, rfl, DPut.k (k := Sum.inl m) (upd_old k1 hq0) (sl_lt (by omega)), ?_⟩⟩
            have k1' := upd_old (u := .lst []) k1 hq0
            refine ⟨_, rfl, tn, _, _, _, rfl, rfl, SqT.of (by rw [upd_ne ntp]; exact upd_old (by rw [upd_ne ntl]; exact htn) hq0), at1 _ _, nsf ++ [n], r', some (.int m), some (.ref tn), rfl, by rw [List.length_append, hnsf]; rfl, ?_, ?_, ?_, (numR_suf e3).trans suf2, ?_⟩
            · rw [upd_ne npl.symm]
              refine upd_old ?_ hq0
              rw [upd_same, putK_new _ (lkv_new hmn em), lkv_snoc ms nsf i m n em hnsf]
            · refine PlAt.put (N := 0) (P := fun m => m ∈ ms.take i) (g := fun _ => []) k1' ?_ (fun m' hm' => ⟨fun hp => ?_, fun hp => ?_⟩) ?_ ?_
              · have := putK_len1 kvs (Sum.inl m : Key) (V.ref q0)
                omega
              · have hp' : m' ∈ ms.take i := by
                  rw [List.take_add_one, em] at hp
                  rcases List.mem_append.mp hp with hp | hp
                  · exact hp
                  · exact absurd (by simpa using hp) hm'
                obtain ⟨l, e1, e2⟩ := (k3 m').1 hp'
                exact ⟨l, e1, upd_old e2 hq0⟩
              · refine (k3 m').2 fun z => hp ?_
                rw [List.take_add_one]
                exact List.mem_append.mpr (.inl z)
              · show m ∈ ms.take (i + 1)
                rw [List.take_add_one, em]
                simp
              · exact upd_same
            · exact Same.mut (Same.new (Same.mut s13 hld1) hq0) hpd
            · rw [show ms.length - (i + 1) = k by omega]
              exact lensR_step e3 _ en
          · refine ⟨_, rfl, rfl, _, rfl, bT (by rfl) (q2 ?_ _ ((s1.trans s2).trans s3))⟩
            rw [ef, en, lensR_bad e3]
            rfl
      rintro σ H2 ⟨ns, r2, y7, y8, rfl, hns, hl2, hp2, s2, suf2, en⟩
      rw [List.length_map] at hns hl2 hp2 en
      rw [List.take_length] at hl2 hp2
      have en' : lensR ms.length r1' = some (ns, r2) := by
        rw [en, Nat.sub_self]
        show some (ns ++ [], r2) = _
        rw [List.append_nil]
      rw [en'] at ef
      dsimp only at ef
      have s02 := s1.trans s2
      -- the words
      refine ⟨_, rfl, _, rfl, a, row, r2, rfl, ⟨s02 _ _ S0.lst, suf2, S0.len⟩, fun ws r3 e3 tw v H3 s3 htw hv => ?_, fun e3 H3 s3 => ?_⟩
      · obtain ⟨dw, rfl, hdw0, wk, hw1, hw2⟩ := hv
        rw [e3] at ef
        dsimp only at ef
        obtain ⟨w1, w2, w3, w4⟩ := wordsR_ok e3
        have hgl : ∀ m, (gath ws m).length ≤ 360 := fun m => Nat.le_trans (wordsR_gath e3 m) (Nat.le_trans suf2.length_le hlen)
        have s03 := s02.trans s3
        have hl3 := s3 _ _ hl2
        have hp3 := hp2.same s3
        have hwl : wk.length = ws.length := Paired.length hw2
        have npd : pd ≠ dw := by
          obtain ⟨pk, k1, _⟩ := hp2
          exact ne_of_none k1 hdw0
        have nld : ld ≠ dw := ne_of_none hl2 hdw0
        have ntd : tf ≠ dw := ne_of_none (s2 _ _ htf) hdw0
        have ntw : tw ≠ dw := ne_of htw hw1 (by intro z; cases z)
        have hdw00 : H dw = none := s02.free hdw0
        refine ⟨_, rfl, rfl, _, rfl, bF (by rfl) ?_⟩
        -- the next step
        refine ⟨dw, .dK wk, hw1, trivial, fun od => ?_⟩
        have up : ∀ {H' : Hp}, Kp [dw] H H' → H' dw = some (.frz od (.dK wk)) → Same H (upd H' dw (.dK wk)) := fun k _ b o hb' => by
          have : b ≠ dw := ne_of_none hb' hdw00
          rw [upd_ne this]
          exact k b o hb' (by simpa using this)
        refine ⟨_, rfl, tw, _, _, _, rfl, rfl, SqT.of (by rw [upd_ne ntw]; exact htw), at0 _ _, dw, od, wk, rfl, upd_same, for_it walk_items (fun i σ H' => ∃ y7 y10 y11 y12, σ = [some (.ref a), some (.int (posR row r2)), some (.str (S last)), some (.ref ml), some (.ref tf), some (.ref pd), some (.ref ld), y7, y8, some (.ref tw), y10, y11, y12] ∧ H' dw = some (.frz od (.dK wk)) ∧ Kp [dw, pd] H3 H' ∧ Kp [dw] H H' ∧
            PlAt H' pd ms.length (fun m => m ∈ ms) (fun m => gath (ws.take i) m) ∧ ∀ wp ∈ ws.take i, ∀ p ∈ wp.2, p.1 ∈ ms)
          ⟨y7, none, none, none, rfl, upd_same, Kp.refl.at (by simp), (Kp.same s03).at (by simp), hp3.oth npd.symm hw1 (fun vs z => by cases z), fun _ z => nomatch z⟩ (fun i σ H' _ ⟨_, _, _, _, _, z, _⟩ => z) ?_ ?_⟩
        · rintro i v σ H4 H4' hi ⟨y7, y10, y11, y12, rfl, h4d, k4, k40, hp4, hin4⟩ ⟨t, u1, u2, rfl, ht, rfl, e1, e2⟩
          dsimp only at e1 e2
          cases ek : wk[i]? with
          | none => rw [ek] at e1; cases e1
          | some kv =>
            rw [ek] at e1 e2
            cases Option.some.inj e1
            cases Option.some.inj e2
            obtain ⟨k, v⟩ := kv
            obtain ⟨wp, ew, rfl, rl, rfl, ts, p1, p2⟩ := hw2.at ek
            have hrl : rl ∉ [dw, pd] := by
              have h1 : rl ≠ dw := ne_of p1 hw1 (by intro z; cases z)
              have h2 : rl ≠ pd := by
                obtain ⟨pk, g1, _⟩ := hp3
                exact ne_of p1 g1 (by intro z; cases z)
              simp [h1, h2]
            have p1' : upd H4 t (.tup [kV (Sum.inr (S wp.1)), .ref rl]) rl = some (.lst (ts.map fun t => V.ref t.1)) := upd_old (k4 _ _ p1 hrl) ht
            have hpl : ts.length = wp.2.length := Paired.length p2
            refine ⟨t, [kV (Sum.inr (S wp.1)), .ref rl], rfl, SqT.of upd_same, rfl, .str (S wp.1), [.ref rl], rfl, .ref rl, [], rfl, rfl, ?_⟩
            -- the next step
            refine ⟨_, rfl, rl, rfl, ⟨_, SqL.of p1'⟩, for_list (xs := ts.map fun t => V.ref t.1) (fun j σ H' => ∃ y7 y12, σ = [some (.ref a), some (.int (posR row r2)), some (.str (S last)), some (.ref ml), some (.ref tf), some (.ref pd), some (.ref ld), y7, y8, some (.ref tw), some (.str (S wp.1)), some (.ref rl), y12] ∧ H' dw = some (.frz od (.dK wk)) ∧ Kp [dw, pd] H3 H' ∧ Kp [dw] H H' ∧
                PlAt H' pd ms.length (fun m => m ∈ ms) (fun m => gath (ws.take i) m ++ gathP (wp.2.take j) m) ∧ ∀ p ∈ wp.2.take j, p.1 ∈ ms)
              ⟨y7, y12, rfl, upd_old h4d ht, k4.new ht, k40.new ht, ?_, fun _ z => nomatch z⟩ (fun j σ H' _ ⟨_, _, _, _, k, _⟩ => SqL.of (k _ _ p1 hrl)) ?_ ?_⟩
            · obtain ⟨pk, g1, g2, g3⟩ := hp4.same (Same.upd_new (o := .tup [kV (Sum.inr (S wp.1)), .ref rl]) ht)
              refine ⟨pk, g1, g2, fun m => ⟨fun hp => ?_, (g3 m).2⟩⟩
              obtain ⟨l, f1, f2⟩ := (g3 m).1 hp
              refine ⟨l, f1, ?_⟩
              show _ = some (HO.lst ((gath (ws.take i) m ++ []).map V.int))
              rw [List.append_nil]
              exact f2
            · rintro j v σ H5 hv ⟨y7, y12, rfl, h5d, k5, k50, hp5, hin5⟩
              rw [List.getElem?_map] at hv
              cases et : ts[j]? with
              | none => rw [et] at hv; cases hv
              | some tt =>
                rw [et] at hv
                cases Option.some.inj hv
                obtain ⟨p, hpp, a1, a2⟩ := p2.at et
                obtain ⟨pk, g1, g2, g3⟩ := hp5
                have n1 : tt.1 ∉ [dw, pd] := by
                  have h1 : tt.1 ≠ dw := ne_of a1 hw1 (by intro z; cases z)
                  have h2 : tt.1 ≠ pd := by
                    obtain ⟨pk, g1, _⟩ := hp3
                    exact ne_of a1 g1 (by intro z; cases z)
                  simp [h1, h2]
                have n2 : tt.2 ∉ [dw, pd] := by
                  have h1 : tt.2 ≠ dw := ne_of a2 hw1 (by intro z; cases z)
                  have h2 : tt.2 ≠ pd := by
                    obtain ⟨pk, g1, _⟩ := hp3
                    exact ne_of a2 g1 (by intro z; cases z)
                  simp [h1, h2]
                have b1 := k5 _ _ a1 n1
                have b2 := k5 _ _ a2 n2
                refine ⟨tt.1, [.int p.1, .ref tt.2], rfl, SqT.of b1, rfl, .int p.1, [.ref tt.2], rfl, .ref tt.2, [], rfl, rfl, ?_⟩
                have gd := DGet.k (k := Sum.inl p.1) g1
                by_cases hmem : p.1 ∈ ms
                · obtain ⟨l0, f1, f2⟩ := (g3 p.1).1 hmem
                  rw [f1] at gd
                  refine ⟨_, rfl, _, rfl, pd, _, rfl, gd, _, rfl, bF (by rfl) ?_⟩
                  refine ⟨_, rfl, _, rfl, pd, _, rfl, gd, _, rfl, l0, tt.2, _, _, rfl, rfl, f2, b2, ?_, fun q0 hq0 => ?_⟩
                  · rw [List.length_map, List.length_map]
                    have h1 := gathP_snoc wp.2 j p hpp p.1
                    rw [if_pos rfl] at h1
                    have h2 := congrArg List.length h1
                    rw [List.length_append] at h2
                    have h3 := gathP_pre wp.2 (j + 1) p.1
                    have h4 := gath_snoc ws i wp ew p.1
                    have h5 := congrArg List.length h4
                    rw [List.length_append] at h5
                    have h6 := gath_pre ws (i + 1) p.1
                    have h7 := hgl p.1
                    rw [List.length_append]
                    exact sl_line (by omega)
                  · have g1' := upd_old (u := .lst ((gath (ws.take i) p.1 ++ gathP (wp.2.take j) p.1).map V.int ++ p.2.map V.int)) g1 hq0
                    refine ⟨_, rfl, _, rfl, pd, _, rfl, DPut.k (k := Sum.inl p.1) g1' (sl_lt (by omega)), some (.int p.1), some (.ref tt.2), rfl, ?_, (k5.new hq0).at (by simp), ?_, ?_, ?_⟩
                    · rw [upd_ne npd.symm]
                      exact upd_old h5d hq0
                    · exact (k50.new hq0).mut hpd0
                    · refine PlAt.put (N := 0) (P := fun m => m ∈ ms) (g := fun _ => []) g1' (by rw [putK_len_same f1]; exact g2) (fun m' hm' => ⟨fun hp => ?_, (g3 m').2⟩) hmem ?_
                      · obtain ⟨l, c1, c2⟩ := (g3 m').1 hp
                        refine ⟨l, c1, upd_old ?_ hq0⟩
                        rw [c2, gathP_snoc wp.2 j p hpp, if_neg (fun z => hm' z.symm), List.append_nil]
                      · rw [upd_same, gathP_snoc wp.2 j p hpp, if_pos rfl]
                        simp only [List.map_append, List.append_assoc]
                    · intro p' hp'
                      rw [List.take_add_one, hpp] at hp'
                      rcases List.mem_append.mp hp' with z | z
                      · exact hin5 p' z
                      · have : p' = p := by simpa using z
                        rw [this]
                        exact hmem
                · rw [(g3 p.1).2 hmem] at gd
                  refine ⟨_, rfl, _, rfl, pd, _, rfl, gd, _, rfl, bT (by rfl) ⟨h5d, q2 ?_ _ (up k50 h5d)⟩⟩
                  rw [ef]
                  exact if_neg fun hf => hmem (hf.1 wp (List.mem_of_getElem? ew) p (List.mem_of_getElem? hpp))
            · rintro σ H5 ⟨y7, y12, rfl, h5d, k5, k50, hp5, hin5⟩
              rw [List.length_map, hpl] at hp5 hin5
              refine ⟨y7, _, _, y12, rfl, h5d, k5, k50, ?_, ?_⟩
              · obtain ⟨pk, g1, g2, g3⟩ := hp5
                refine ⟨pk, g1, g2, fun m => ⟨fun hp => ?_, (g3 m).2⟩⟩
                obtain ⟨l, f1, f2⟩ := (g3 m).1 hp
                refine ⟨l, f1, ?_⟩
                rw [f2]
                dsimp only
                rw [gath_snoc ws i wp ew, List.take_length]
              · intro wq hwq
                rw [List.take_add_one, ew] at hwq
                rcases List.mem_append.mp hwq with z | z
                · exact hin4 wq z
                · have : wq = wp := by simpa using z
                  subst this
                  rw [List.take_length] at hin5
                  exact hin5
        · rintro σ H4 ⟨y7', y10, y11, y12, rfl, h4d, k4, k40, hp4, hin4⟩
          rw [hwl, List.take_length] at hp4 hin4
          refine ⟨h4d, ?_⟩
          have s4 : Same H (upd H4 dw (.dK wk)) := up k40 h4d
          have hp5 : PlAt (upd H4 dw (.dK wk)) pd ms.length (fun m => m ∈ ms) (gath ws) := hp4.oth npd.symm h4d fun vs z => by cases z
          have hl5 : upd H4 dw (.dK wk) ld = some (.dK (lkv ms ns)) := by
            rw [upd_ne nld]
            exact k4 _ _ hl3 (by simp [nld, npl.symm])
          have tf5 : upd H4 dw (.dK wk) tf = some (.tup [.str (S nm), .int (posR row r1')]) := by
            rw [upd_ne ntd]
            have h1 : tf ≠ pd := ne_of_none htf hpd
            exact k4 _ _ (s3 _ _ (s2 _ _ htf)) (by simp [ntd, h1])
          have tw5 : upd H4 dw (.dK wk) tw = some (.tup [.ref dw, .int (posR row r3)]) := by
            rw [upd_ne ntw]
            have h1 : tw ≠ pd := by
              obtain ⟨pk, g1, _⟩ := hp3
              exact ne_of htw g1 (by intro z; cases z)
            exact k4 _ _ htw (by simp [ntw, h1])
          have wd5 : WordsAt (upd H4 dw (.dK wk)) dw ws := by
            refine ⟨wk, upd_same, Paired.mapP hw2 fun kv wp z => ⟨z.1, let ⟨l, e1, p⟩ := z.2; ⟨l, e1, p.kp (xs := [dw, pd]) (fun b o hb' nb => ?_) fun b hb' => ?_⟩⟩⟩
            · rw [upd_ne (fun z => nb (by simp [z]))]
              exact k4 b o hb' nb
            · obtain ⟨pk, g1, _⟩ := hp3
              simp at hb'
              rcases hb' with z | z
              · subst z
                exact ⟨fun vs z => (by rw [hw1] at z; cases z), fun vs z => (by rw [hw1] at z; cases z)⟩
              · subst z
                exact ⟨fun vs z => (by rw [g1] at z; cases z), fun vs z => (by rw [g1] at z; cases z)⟩
          generalize upd H4 dw (.dK wk) = H5 at s4 hp5 hl5 tf5 tw5 wd5
          -- the check
          refine ⟨_, rfl, ml, rfl, ⟨_, SqL.of (s4 _ _ hml)⟩, for_list (xs := ms.map V.int) (fun i σ H' => ∃ y7 y10 y11 y12, σ = [some (.ref a), some (.int (posR row r2)), some (.str (S last)), some (.ref ml), some (.ref tf), some (.ref pd), some (.ref ld), y7, y8, some (.ref tw), y10, y11, y12] ∧ Same H5 H' ∧
              ∀ (j : Nat) (m n : Int), j < i → ms[j]? = some m → ns[j]? = some n → n = ((gath ws m).length : Int) ∧ (gath ws m).Perm (iota (gath ws m).length))
            ⟨y7', y10, y11, y12, rfl, Same.refl _, fun j _ _ z => absurd z (Nat.not_lt_zero j)⟩ (fun i σ H' _ ⟨_, _, _, _, _, k, _⟩ => SqL.of (k _ _ (s4 _ _ hml))) ?_ ?_⟩
          · rintro i v σ H6 hv ⟨y7, y10, y11, y12, rfl, s6, ok6⟩
            rw [List.getElem?_map] at hv
            cases em : ms[i]? with
            | none => rw [em] at hv; cases hv
            | some m =>
              rw [em] at hv
              cases Option.some.inj hv
              have hi := (List.getElem?_eq_some_iff.mp em).1
              have en : ns[i]? = some ns[i] := List.getElem?_eq_getElem (by omega)
              obtain ⟨n, hn⟩ : ∃ n, n = ns[i] := ⟨_, rfl⟩
              rw [← hn] at en
              obtain ⟨pk, g1, g2, g3⟩ := hp5.same s6
              obtain ⟨l0, f1, f2⟩ := (g3 m).1 (List.mem_of_getElem? em)
              have gl : ∀ {H' : Hp}, Same H6 H' → DGet H' ld (kV (Sum.inl m)) (some (V.int n)) := fun k => by
                have g := DGet.k (k := Sum.inl m) (k _ _ (s6 _ _ hl5))
                have : valV (lkv ms ns) (Sum.inl m : Key) = some (V.int n) := zip_some (fun _ => rfl) hmn em en
                rw [this] at g
                exact g
              have gp : ∀ {H' : Hp}, Same H6 H' → DGet H' pd (kV (Sum.inl m)) (some (V.ref l0)) := fun k => by
                have g := DGet.k (k := Sum.inl m) (k _ _ g1)
                rw [f1] at g
                exact g
              have bad : ¬ (n = ((gath ws m).length : Int) ∧ (gath ws m).Perm (iota (gath ws m).length)) → fieldR ms last re = none := fun nz => by
                rw [ef]
                refine if_neg fun hf => nz (hf.2 (m, n) ?_)
                refine List.mem_of_getElem? (i := i) ?_
                rw [List.getElem?_zip_eq_some]
                exact ⟨em, en⟩
              refine ifs_tst (p := !decide (n = ((gath ws m).length : Int) ∧ (gath ws m).Perm (iota (gath ws m).length))) (fun Q q => Tst.or (p := !decide (n = ((gath ws m).length : Int))) (q := !decide ((gath ws m).Perm (iota (gath ws m).length))) (fun Q q => ⟨_, rfl, _, rfl, ld, _, rfl, gl (Same.refl _), _, rfl, _, rfl, pd, _, rfl, gp (Same.refl _), l0, _, rfl, .inl (SqL.of f2), rfl, _, rfl, ?_⟩)
                (fun _ H7 s7 Q q => ⟨_, rfl, _, rfl, pd, _, rfl, gp s7, l0, gath ws m, rfl, SqL.of (s7 _ _ f2), fun sr p1 hp1 hs1 f3 => ⟨_, rfl, _, rfl, pd, _, rfl, gp (Same.new s7 f3), l0, _, rfl, .inl (SqL.of (upd_old (s7 _ _ f2) f3)), _, rfl, fun p2 f4 => ⟨p2, (gath ws m).length, rfl, by rw [upd_same, List.length_map], Nat.le_trans (hgl m) (by decide), fun p3 f5 => ⟨_, _, dp_ints (SqL.of (upd_old (upd_old upd_same f4) f5)), dp_ints (SqL.of upd_same), shaped_intL _, shaped_intL _, _, rfl, ?_⟩⟩⟩⟩) Q ?_) fun H7 s7 => ?_
              · have : (!decide (n = ((gath ws m).length : Int) ∧ (gath ws m).Perm (iota (gath ws m).length))) = (!decide (n = ((gath ws m).length : Int)) || !decide ((gath ws m).Perm (iota (gath ws m).length))) := by
                  rw [Bool.decide_and, Bool.not_and]
                rw [← this]
                exact q
              · by_cases hok : n = ((gath ws m).length : Int) ∧ (gath ws m).Perm (iota (gath ws m).length)
                · refine bF (by rw [decide_eq_true hok]; rfl) ⟨_, _, _, _, rfl, s6.trans s7, fun j m' n' hj c1 c2 => ?_⟩
                  by_cases ej : j = i
                  · subst ej
                    rw [em] at c1
                    rw [en] at c2
                    cases c1
                    cases c2
                    exact hok
                  · exact ok6 j m' n' (by omega) c1 c2
                · exact bT (by rw [decide_eq_false hok]; rfl) (q2 (bad hok) _ ((s4.trans s6).trans s7))
              · have : decide (V.int n = V.int (((gath ws m).map V.int).length : Int)) = decide (n = ((gath ws m).length : Int)) := by simp
                rw [this]
                exact q _ (Same.refl _)
              · rw [eqv_ints]
                have : decide (sr = iota (gath ws m).length) = decide ((gath ws m).Perm (iota (gath ws m).length)) := by
                  by_cases h : (gath ws m).Perm (iota (gath ws m).length)
                  · rw [decide_eq_true h, decide_eq_true ((sorted_iota hp1 hs1).mpr h)]
                  · rw [decide_eq_false h, decide_eq_false fun z => h ((sorted_iota hp1 hs1).mp z)]
                rw [this]
                exact q _ (Same.new (Same.new (Same.upd_new f3) f4) f5)
          · rintro σ H6 ⟨y7, y10, y11, y12, rfl, s6, ok6⟩
            rw [List.length_map] at ok6
            have hfil : Filled ms ns ws := by
              refine ⟨hin4, fun mn hmn' => ?_⟩
              obtain ⟨j, hj⟩ := List.getElem?_of_mem hmn'
              rw [List.getElem?_zip_eq_some] at hj
              exact ok6 j mn.1 mn.2 (List.getElem?_eq_some_iff.mp hj.1).1 hj.1 hj.2
            rw [if_pos hfil] at ef
            have tf6 := s6 _ _ tf5
            have tw6 := s6 _ _ tw5
            refine ⟨_, rfl, tf, _, _, _, rfl, rfl, SqT.of tf6, at0 _ _, _, rfl, tw, _, _, _, rfl, rfl, SqT.of tw6, at0 _ _, _, rfl, tw, _, _, _, rfl, rfl, SqT.of tw6, at1 _ _, by show 3 ≤ sizeLine; decide, fun t ht => ?_⟩
            exact q1 (nm, ns, ws) r3 ef t dw _ (Same.new (s4.trans s6) ht) hdw00 upd_same ((wd5.same s6).same (Same.upd_new ht))
      · refine ⟨_, rfl, rfl, _, rfl, bT (by rfl) (q2 ?_ _ (s02.trans s3))⟩
        rw [ef, e3]
    · refine ⟨_, rfl, rfl, _, rfl, bT (by rfl) (q2 ?_ _ s1)⟩
      unfold fieldR
      unfold wordQ at e0
      cases e2 : textR re with
      | none => rfl
      | some p =>
        obtain ⟨w', r'⟩ := p
        rw [e2] at e0
        refine if_neg fun hc => ?_
        have e' : (if nameB w' = true ∧ last < w' then some (w', r') else none) = none := e0
        rw [if_pos hc] at e'
        cases e'
end
end FC
/-! W30: the law's piece_in. -/
namespace FC
open PySem PySem.Spec PyProof.Rows L2
theorem KA.updD {H : Hp} {kvs x : List (Key × V)} {ws : Tab} {d : Addr} {o : HO} (h : KA (fun l a => WordsAt H l a ∧ l ≠ d) kvs ws) (e : H d = some (.dK x)) : KA (fun l a => WordsAt (upd H d o) l a ∧ l ≠ d) kvs ws := h.mono fun l a z => by
  obtain ⟨⟨wk, h1, h2⟩, h3⟩ := z
  exact ⟨⟨wk, by rw [upd_ne h3]; exact h1, KvsAt.updD h2 e⟩, h3⟩
theorem KA.sameW {H H' : Hp} {kvs : List (Key × V)} {ws : Tab} {d : Addr} (h : KA (fun l a => WordsAt H l a ∧ l ≠ d) kvs ws) (k : Same H H') : KA (fun l a => WordsAt H' l a ∧ l ≠ d) kvs ws := h.mono fun l a z => ⟨z.1.same k, z.2⟩
def spPieceIn : Sp := fun vs H Q _ => ∃ (a : Addr) (row : List Int), vs = [.ref a] ∧ H a = some (.lst (row.map V.int)) ∧ row.length ≤ 360 ∧
  (∀ ms fs, pieceR row = some (ms, fs) → ∀ t ml tb H', Same H H' → H' t = some (.tup [.ref ml, .ref tb]) → H' ml = some (.lst (ms.map V.int)) → TabAt H' tb (tabOf fs) → Q (.ref t) H') ∧ (pieceR row = none → ∀ H', Same H H' → Q .non H')
section
variable {P : Program} {w : World} {K : PySem.W.Frag} {mg : Str → Option Value} {base : Heap} {c : Cl}
theorem ok__law_piece_in (T : Txt K mg c) : GFn P w K mg base CX0 6 "_law_piece_in" ["_law_row"] spPieceIn := by
  obtain ⟨f, fd, F, hm, hb⟩ := T.d__law_piece_in
  have g__law_number_in : GFn P w K mg base CX0 1 "_law_number_in" ["_law_row", "_law_at"] spNumIn := ok__law_number_in T
  have g__law_rising_in : GFn P w K mg base CX0 2 "_law_rising_in" ["_law_row", "_law_at", "_law_many"] spRisIn := ok__law_rising_in T
  have g__law_field_in : GFn P w K mg base CX0 5 "_law_field_in" ["_law_row", "_law_at", "_law_last", "_law_makes"] spFieldIn := ok__law_field_in T
  refine ⟨f, fd, hm, F.kp, hb, F.ok sc__law_piece_in (fun vs H Q E h => ?_) (fun cdv A outer s H vs Q E hr h => ?_)⟩
  · obtain ⟨a, row, rfl, _⟩ := h
    rfl
  · obtain ⟨a, row, rfl, hA, hlen, q1, q2⟩ := h
    have nd := sc__law_piece_in.nd
    have hu := hu_of hr
    refine ⟨_, (pss_cons (ps_set (i := 1) nd rfl (.inl rfl) (pe_g g__law_number_in hr (by rfl) pass0 (pa_cons (pv 0) (pa_cons pe_int pa_nil))))
      (pss_cons (ps_if (pt_cmpR op_isN (pv 1) pe_non (nomark _))
        (pss_one (ps_ret pe_non))
        pss_nil)
      (pss_cons (ps_set (i := 2) nd rfl (.inl rfl) (pe_g g__law_rising_in hr (by rfl) pass0 (pa_cons (pv 0) (pa_cons (pe_ix ix_tup (pv 1) pe_int (fun _ _ => rfl)) (pa_cons (pe_ix ix_tup (pv 1) pe_int (fun _ _ => rfl)) pa_nil)))))
      (pss_cons (ps_if (pt_cmpR op_isN (pv 2) pe_non (nomark _))
        (pss_one (ps_ret pe_non))
        pss_nil)
      (pss_cons (ps_set (i := 3) nd rfl (.inl rfl) (pe_g g__law_number_in hr (by rfl) pass0 (pa_cons (pv 0) (pa_cons (pe_ix ix_tup (pv 2) pe_int (fun _ _ => rfl)) pa_nil))))
      (pss_cons (ps_if (pt_cmpR op_isN (pv 3) pe_non (nomark _))
        (pss_one (ps_ret pe_non))
        pss_nil)
      (pss_cons (ps_set (i := 4) nd rfl (.inl rfl) (pe_ix ix_tup (pv 3) pe_int (fun _ _ => rfl)))
      (pss_cons (ps_set (i := 5) nd rfl (.inl rfl) pe_str)
      (pss_cons (ps_set (i := 6) nd rfl (.inl rfl) pe_dnewK)
      (pss_cons (ps_while PassesOwn.never (pt_cmpR op_lt (pe_callB call_lenD (by rfl) T.b_len boot_len (pa_cons (pv 6) pa_nil)) (pe_ix ix_tup (pv 3) pe_int (fun _ _ => rfl)) (nomark _))
        (pss_cons (ps_set (i := 7) nd rfl (.inl rfl) (pe_g g__law_field_in hr (by rfl) pass0 (pa_cons (pv 0) (pa_cons (pv 4) (pa_cons (pv 5) (pa_cons (pe_ix ix_tup (pv 2) pe_int (fun _ _ => rfl)) pa_nil))))))
        (pss_cons (ps_if (pt_cmpR op_isN (pv 7) pe_non (nomark _))
          (pss_one (ps_ret pe_non))
          pss_nil)
        (pss_cons (ps_asg (pv 7) (pg_tup rfl (pgs_cons (pg_name (i := 5) nd rfl (.inl rfl)) (pgs_cons (pg_name (i := 8) nd rfl (.inl rfl)) (pgs_cons (pg_name (i := 4) nd rfl (.inl rfl)) pgs_nil)))))
        (pss_one (ps_dput hu (pv 6) (pv 5) (pv 8) rfl))))))
      (pss_cons (ps_if (pt_cmpR op_ne (pv 4) (pe_callB call_len_seq (by rfl) T.b_len boot_len (pa_cons (pv 0) pa_nil)) (nomark _))
        (pss_one (ps_ret pe_non))
        pss_nil)
      (pss_one (ps_ret (pe_tup (pa_cons (pe_ix ix_tup (pv 2) pe_int (fun _ _ => rfl)) (pa_cons (pv 6) pa_nil)))))))))))))))), ?_⟩
    have S0 : Suf H a row row := ⟨hA, List.suffix_refl _, hlen⟩
    have pos0 : posR row row = 0 := by unfold posR; rw [Nat.sub_self]; rfl
    -- number of makes
    refine ⟨_, rfl, a, row, row, by rw [pos0]; rfl, S0, fun m r0 e0 t1 v H1 s1 ht1 hv => ?_, fun e0 H1 s1 => ?_⟩
    · subst hv
      have suf0 := numR_suf e0
      refine ⟨_, rfl, rfl, _, rfl, bF (by rfl) ?_⟩
      -- the makes
      refine ⟨_, rfl, _, rfl, t1, _, _, _, rfl, rfl, SqT.of ht1, at1 _ _, _, rfl, t1, _, _, _, rfl, rfl, SqT.of ht1, at0 _ _, a, row, r0, m, rfl, (S0.same s1).to suf0, fun ms r1 e1 t2 v H2 s2 ht2 hv => ?_, fun e1 H2 s2 => ?_⟩
      · obtain ⟨ml, rfl, hml⟩ := hv
        have suf1 := (risR_suf e1).trans suf0
        refine ⟨_, rfl, rfl, _, rfl, bF (by rfl) ?_⟩
        have s02 := s1.trans s2
        obtain ⟨p1, p2, p3, p4⟩ := risR_ok e1
        have hmn : ms.Nodup := p4.imp fun h z => by rw [z] at h; exact absurd h (Int.lt_irrefl _)
        have hms : ms.length ≤ 360 := by
          have h1 := placesB_len 0 ms
          have h2 := suf0.length_le
          have h3 := congrArg List.length p2
          rw [List.length_append] at h3
          have h4 : placesB ((none : Option Int).getD 0) ms = placesB 0 ms := rfl
          rw [h4] at h3
          omega
        -- number of fields
        refine ⟨_, rfl, _, rfl, t2, _, _, _, rfl, rfl, SqT.of ht2, at1 _ _, a, row, r1, rfl, (S0.same s02).to suf1, fun many r2 e2 t3 v H3 s3 ht3 hv => ?_, fun e2 H3 s3 => ?_⟩
        · subst hv
          have suf2 := (numR_suf e2).trans suf1
          refine ⟨_, rfl, rfl, _, rfl, bF (by rfl) ?_⟩
          have s03 := s02.trans s3
          have ep : pieceP row = (fieldsK ms many.toNat [] r2).map fun p => ((ms, p.1), p.2) := by
            unfold pieceP
            rw [e0]
            dsimp only
            rw [e1]
            dsimp only
            rw [e2]
          refine ⟨_, rfl, t3, _, _, _, rfl, rfl, SqT.of ht3, at1 _ _, ?_⟩
          intro tb htb
          have htb0 : H tb = none := s03.free htb
          have ht2' := s3 _ _ ht2
          have hml3 := s3 _ _ hml
          have l2 := suf2.length_le
          refine ⟨fun m σ H' => ∃ (f : List Field) (kvs : List (Key × V)) (r : List Int) (y7 y8 : Option V), σ = [some (.ref a), some (.ref t1), some (.ref t2), some (.ref t3), some (.int (posR row r)), some (.str (S (lastF f))), some (.ref tb), y7, y8] ∧ m = r.length ∧ Same H3 H' ∧ H' tb = some (.dK kvs) ∧
              KA (fun l a => WordsAt H' l a ∧ l ≠ tb) kvs (tabOf f) ∧ r <:+ row ∧ f.length + r.length ≤ 360 ∧ f.length ≤ many.toNat ∧ (∀ v, lastF f < v → ∀ p ∈ f, p.1 < v) ∧
              pieceP row = (fieldsK ms (many.toNat - f.length) (lastF f) r).map fun p => ((ms, f ++ p.1), p.2),
              ⟨r2.length, [], [], r2, none, none, rfl, rfl, Same.upd_new htb, upd_same, .nil, suf2, (by simp only [List.length_nil]; omega), Nat.zero_le _, (fun _ _ _ z => nomatch z), ep⟩, ?_⟩
          rintro mm σ H4 ⟨f, kvs, r, y7, y8, rfl, rfl, s4, h4, ka, sufr, hsz, hfl, hri, en⟩
          have htl : kvs.length = f.length := by
            have := Paired.length ka
            rwa [List.length_map] at this
          have s04 := s03.trans s4
          refine ⟨_, rfl, tb, _, rfl, h4, _, rfl, t3, _, _, _, rfl, rfl, SqT.of (s4 _ _ ht3), at0 _ _, _, _, rfl, rfl, _, rfl, ite2 (fun e3 => ?_) (fun e3 => ?_)⟩
          · have e3' : (f.length : Int) < many := by
              have := of_decide_eq_true e3
              rwa [htl] at this
            obtain ⟨k, hk⟩ : ∃ k, many.toNat - f.length = k + 1 := ⟨many.toNat - f.length - 1, by omega⟩
            rw [hk] at en
            refine ⟨fun σ' H' => ∃ (g : Field) (r' : List Int) (dw : Addr) (y7 y8 : Option V), fieldR ms (lastF f) r = some (g, r') ∧ σ' = [some (.ref a), some (.ref t1), some (.ref t2), some (.ref t3), some (.int (posR row r')), some (.str (S g.1)), some (.ref tb), y7, y8] ∧ Same H3 H' ∧ H' tb = some (.dK (putK kvs (Sum.inr (S g.1)) (.ref dw))) ∧
                KA (fun l a => WordsAt H' l a ∧ l ≠ tb) kvs (tabOf f) ∧ WordsAt H' dw g.2.2 ∧ dw ≠ tb, ?_, ?_⟩
            · rintro σ' H' ⟨g, r', dw, y7, y8, eg, rfl, s5, h5, ka5, wd5, nd5⟩
              obtain ⟨o1, o2, o3⟩ := fieldR_ok eg
              have hr' : r'.length < r.length := by
                have h1 := fieldB_pos g
                have h2 := congrArg List.length o1
                rw [List.length_append] at h2
                omega
              have hnw : findA (tabOf f) g.1 = none := by
                refine findA_none fun p hp z => ?_
                obtain ⟨p', hp', rfl⟩ := List.mem_map.mp hp
                have := hri _ o2 p' hp'
                rw [show p'.1 = g.1 from z] at this
                exact nlt_irrefl _ this
              have hvn : valV kvs (Sum.inr (S g.1) : Key) = none := by
                rcases ka.get (f := g.1) with ⟨_, z⟩ | ⟨_, _, z, _⟩
                · exact z
                · rw [hnw] at z
                  cases z
              rw [putK_new _ hvn] at h5
              refine ⟨r'.length, hr', f ++ [g], _, r', y7, y8, ?_, rfl, s5, h5, ?_, (show r' <:+ r from ⟨_, o1.symm⟩).trans sufr, ?_, ?_, ?_, ?_⟩
              · rw [lastF_snoc]
              · unfold tabOf
                rw [List.map_append]
                exact paired_snoc ka5 ⟨rfl, dw, rfl, wd5, nd5⟩
              · rw [List.length_append]
                show f.length + 1 + r'.length ≤ 360
                omega
              · rw [List.length_append]
                show f.length + 1 ≤ _
                omega
              · intro v hv p hp
                rw [lastF_snoc] at hv
                rcases List.mem_append.mp hp with hp | hp
                · exact nlt_trans (hri _ o2 p hp) hv
                · have : p = g := by simpa using hp
                  rw [this]
                  exact hv
              · rw [show many.toNat - (f ++ [g]).length = k by rw [List.length_append]; show _ - (f.length + 1) = k; omega, lastF_snoc]
                exact fieldsK_step (j := fun z => (ms, z)) eg _ en
            · refine ⟨_, rfl, _, rfl, _, rfl, _, rfl, t2, _, _, _, rfl, rfl, SqT.of (s4 _ _ ht2'), at0 _ _, a, ml, row, r, ms, lastF f, rfl, (S0.same s04).to sufr, s4 _ _ hml3, hmn, hms, fun g r' eg t dw H5 s5 hdw0 ht hwd => ?_, fun eg H5 s5 => ?_⟩
              · refine ⟨_, rfl, rfl, _, rfl, bF (by rfl) ?_⟩
                have h5 := s5 _ _ h4
                have ndt : dw ≠ tb := (ne_of_none h4 hdw0).symm
                refine ⟨_, rfl, t, _, rfl, SqT.of ht, rfl, _, _, rfl, _, _, rfl, _, _, rfl, rfl, ?_⟩
                refine ⟨_, rfl, _, rfl, _, rfl, tb, _, rfl, DPut.k (k := Sum.inr (S g.1)) h5 (sl_lt (by omega)), g, r', dw, _, _, eg, rfl, ?_, upd_same, ?_, ?_, ndt⟩
                · exact Same.mut (s4.trans s5) htb
                · exact (ka.sameW s5).updD h5
                · obtain ⟨wk, c1, c2⟩ := hwd
                  exact ⟨wk, by rw [upd_ne ndt]; exact c1, KvsAt.updD c2 h5⟩
              · refine ⟨_, rfl, rfl, _, rfl, bT (by rfl) (q2 ?_ _ (s04.trans s5))⟩
                rw [pieceR_eq, en, fieldsK_bad eg]
                rfl
          · have e3' : ¬ (f.length : Int) < many := by
              have := of_decide_eq_false (Bool.eq_false_iff.mpr e3)
              rwa [htl] at this
            rw [show many.toNat - f.length = 0 by omega] at en
            have er : pieceP row = some ((ms, f), r) := by
              rw [en]
              show some ((ms, f ++ []), r) = _
              rw [List.append_nil]
            have hle := sufr.length_le
            refine ⟨_, rfl, _, rfl, a, _, rfl, .inl (SqL.of (s04 _ _ hA)), rfl, _, rfl, ite2 (fun e5 => ?_) (fun e5 => ?_)⟩
            · refine q2 ?_ _ s04
              rw [pieceR_eq, er]
              refine if_neg fun z => ?_
              rw [z, posR_nil, List.length_map] at e5
              simp at e5
            · have hr0 : r = [] := by
                have h1 : decide (V.int (posR row r) = V.int ((row.map V.int).length : Int)) = true := by
                  cases h : decide (V.int (posR row r) = V.int ((row.map V.int).length : Int)) with
                  | true => rfl
                  | false => exact absurd (by rw [h]; rfl) e5
                have h2 := V.int.inj (of_decide_eq_true h1)
                rw [List.length_map] at h2
                unfold posR at h2
                exact List.length_eq_zero_iff.mp (by omega)
              refine ⟨_, rfl, t2, _, _, _, rfl, rfl, SqT.of (s4 _ _ ht2'), at0 _ _, _, rfl, by show 2 ≤ sizeLine; decide, fun t ht => ?_⟩
              refine q1 ms f ?_ t ml tb _ (Same.new s04 ht) upd_same (upd_old (s4 _ _ hml3) ht) ⟨kvs, upd_old h4 ht, ka.mono fun l a z => z.1.same (Same.upd_new ht)⟩
              rw [pieceR_eq, er]
              exact if_pos hr0
        · refine ⟨_, rfl, rfl, _, rfl, bT (by rfl) (q2 ?_ _ (s02.trans s3))⟩
          unfold pieceR
          rw [e0]
          dsimp only
          rw [e1]
          dsimp only
          rw [e2]
      · refine ⟨_, rfl, rfl, _, rfl, bT (by rfl) (q2 ?_ _ (s1.trans s2))⟩
        unfold pieceR
        rw [e0]
        dsimp only
        rw [e1]
    · refine ⟨_, rfl, rfl, _, rfl, bT (by rfl) (q2 ?_ _ s1)⟩
      unfold pieceR
      rw [e0]
end
end FC
/-! W31: the law's bent. -/
namespace FC
open PySem PySem.Spec PyProof.Rows L2
/-- a row, bent once -/
inductive Bend (R : List Int) : List Int → Prop where
  | cut (a : Nat) (h : a ≤ R.length) : Bend R (R.take a)
  | del (a : Nat) (h : a ≤ R.length) : Bend R (R.take a ++ R.drop (a + 1))
  | ins (a : Nat) (b : Int) (h : a ≤ R.length) : Bend R ((R.take a ++ [b]) ++ R.drop a)
  | app (b : Int) : Bend R (R ++ [b])
  | swp (a : Nat) (h : a ≤ R.length) : Bend R ((R.take a ++ ((R.drop (a + 1)).take 1 ++ (R.drop a).take 1)) ++ R.drop (a + 2))
  | chg (a : Nat) (b : Int) (h : a ≤ R.length) : Bend R ((R.take a ++ [b]) ++ R.drop (a + 1))
  | non : Bend R R
theorem Bend.len {R R' : List Int} (h : Bend R R') : R'.length ≤ R.length + 1 := by
  cases h <;> simp <;> omega
theorem cut_to (R : List Int) (a : Nat) (v : Int) (h : v = (a : Int)) : cutV (R.map V.int) none (some v) = (R.take a).map V.int := by
  subst h
  unfold cutV
  rw [HT.sIx_none, HT.sIx_nat, List.length_map, List.drop_zero, Nat.sub_zero, ← List.map_take]
  congr 1
  by_cases h : a ≤ R.length
  · rw [Nat.min_eq_left h]
  · rw [Nat.min_eq_right (by omega), List.take_of_length_le (Nat.le_refl _), List.take_of_length_le (by omega)]
theorem cut_fro (R : List Int) (a : Nat) (v : Int) (h : v = (a : Int)) : cutV (R.map V.int) (some v) none = (R.drop a).map V.int := by
  subst h
  unfold cutV
  rw [HT.sIx_none, HT.sIx_nat, List.length_map, ← List.map_drop, ← List.map_take]
  congr 1
  by_cases h : a ≤ R.length
  · rw [Nat.min_eq_left h, List.take_of_length_le (by rw [List.length_drop]; omega)]
  · rw [Nat.min_eq_right (by omega), Nat.sub_self, List.take_zero, List.drop_of_length_le (by omega)]
theorem cut_one (R : List Int) (a : Nat) (v w : Int) (h : v = (a : Int)) (h2 : w = ((a + 1 : Nat) : Int)) : cutV (R.map V.int) (some v) (some w) = ((R.drop a).take 1).map V.int := by
  subst h
  subst h2
  unfold cutV
  rw [HT.sIx_nat, HT.sIx_nat, List.length_map, ← List.map_drop, ← List.map_take]
  congr 1
  by_cases h : a < R.length
  · rw [Nat.min_eq_left (by omega), Nat.min_eq_left (by omega), Nat.add_sub_cancel_left]
  · rw [Nat.min_eq_right (by omega), Nat.min_eq_right (by omega), Nat.sub_self, List.take_zero, List.drop_of_length_le (by omega)]
    rfl
theorem DrawsAt.new {H : Hp} {l p : Addr} {o : HO} (h : DrawsAt H l) (hp : H p = none) : DrawsAt (upd H p o) l := by
  obtain ⟨ds, d1, d2⟩ := h
  exact ⟨ds, upd_old d1 hp, d2⟩
theorem DrawsAt.ne {H : Hp} {l p : Addr} (h : DrawsAt H l) (hp : H p = none) : p ≠ l := by
  obtain ⟨ds, d1, d2⟩ := h
  exact (ne_of_none d1 hp).symm
def spBent : Sp := fun vs H Q _ => ∃ (a l : Addr) (row : List Int), vs = [.ref a, .ref l] ∧ a ≠ l ∧ H a = some (.lst (row.map V.int)) ∧ DrawsAt H l ∧ row.length ≤ 1000 ∧
  ∀ row' p H', Bend row row' → Kp [l] H H' → DrawsAt H' l → H' p = some (.lst (row'.map V.int)) → p ≠ l → Q (.ref p) H'
section
variable {P : Program} {w : World} {K : PySem.W.Frag} {mg : Str → Option Value} {base : Heap} {c : Cl}
theorem ok__law_bent (T : Txt K mg c) : GFn P w K mg base CX0 2 "_law_bent" ["_law_row", "_law_draws_here"] spBent := by
  obtain ⟨f, fd, F, hm, hb⟩ := T.d__law_bent
  have g__law_pop : GFn P w K mg base CX0 1 "_law_pop" ["_law_draws_here"] spPop := ok__law_pop T
  refine ⟨f, fd, hm, F.kp, hb, F.ok sc__law_bent (fun vs H Q E h => ?_) (fun cdv A outer s H vs Q E hr h => ?_)⟩
  · obtain ⟨a, l, row, rfl, _⟩ := h
    rfl
  · obtain ⟨a, l, row, rfl, hal, hA, hD, hlen, q⟩ := h
    have nd := sc__law_bent.nd
    refine ⟨_, (pss_cons (ps_set (i := 2) nd rfl (.inl rfl) (pe_g g__law_pop hr (by rfl) pass0 (pa_cons (pv 1) pa_nil)))
      (pss_cons (ps_set (i := 3) nd rfl (.inl rfl) (pe_op op_mod (pe_g g__law_pop hr (by rfl) pass0 (pa_cons (pv 1) pa_nil)) (pe_op op_add (pe_callB call_len_seq (by rfl) T.b_len boot_len (pa_cons (pv 0) pa_nil)) pe_int)))
      (pss_cons (ps_set (i := 4) nd rfl (.inl rfl) (pe_g g__law_pop hr (by rfl) pass0 (pa_cons (pv 1) pa_nil)))
      (pss_cons (ps_set (i := 5) nd rfl (.inl rfl) (pe_ix ix_list (pe_lst (pa_cons pe_int (pa_cons pe_int (pa_cons pe_int (pa_cons pe_int (pa_cons pe_int (pa_cons pe_int (pa_cons (pe_un un_neg pe_int) (pa_cons pe_int (pa_cons pe_int (pa_cons pe_int (pa_cons (pe_op op_mod (pe_op op_fdiv (pv 4) pe_int) pe_int) (pa_cons (pe_op op_mod (pe_op op_fdiv (pv 4) pe_int) pe_int) (pa_cons pe_int (pa_cons pe_int (pa_cons pe_int (pa_cons (pe_op op_pow pe_int pe_int) pa_nil))))))))))))))))) (pe_op op_mod (pv 4) pe_int) (fun _ _ => rfl)))
      (pss_cons (ps_set (i := 6) nd rfl (.inl rfl) (pe_op op_mod (pv 2) pe_int))
      (pss_cons (ps_if (pt_cmpR op_eq (pv 6) pe_int (nomark _))
        (pss_one (ps_ret (pe_slice sl_list (pv 0) po_none (po_some (pv 3)))))
        pss_nil)
      (pss_cons (ps_if (pt_cmpR op_eq (pv 6) pe_int (nomark _))
        (pss_one (ps_ret (pe_op op_cat (pe_slice sl_list (pv 0) po_none (po_some (pv 3))) (pe_slice sl_list (pv 0) (po_some (pe_op op_add (pv 3) pe_int)) po_none))))
        pss_nil)
      (pss_cons (ps_if (pt_cmpR op_eq (pv 6) pe_int (nomark _))
        (pss_one (ps_ret (pe_op op_cat (pe_op op_cat (pe_slice sl_list (pv 0) po_none (po_some (pv 3))) (pe_lst (pa_cons (pv 5) pa_nil))) (pe_slice sl_list (pv 0) (po_some (pv 3)) po_none))))
        pss_nil)
      (pss_cons (ps_if (pt_cmpR op_eq (pv 6) pe_int (nomark _))
        (pss_one (ps_ret (pe_op op_cat (pv 0) (pe_lst (pa_cons (pv 5) pa_nil)))))
        pss_nil)
      (pss_cons (ps_if (pt_cmpR op_eq (pv 6) pe_int (nomark _))
        (pss_cons (ps_set (i := 7) nd rfl (.inl rfl) (pe_op op_cat (pe_slice sl_list (pv 0) (po_some (pe_op op_add (pv 3) pe_int)) (po_some (pe_op op_add (pv 3) pe_int))) (pe_slice sl_list (pv 0) (po_some (pv 3)) (po_some (pe_op op_add (pv 3) pe_int)))))
        (pss_one (ps_ret (pe_op op_cat (pe_op op_cat (pe_slice sl_list (pv 0) po_none (po_some (pv 3))) (pv 7)) (pe_slice sl_list (pv 0) (po_some (pe_op op_add (pv 3) pe_int)) po_none)))))
        pss_nil)
      (pss_cons (ps_if (pt_cmpR op_lt (pv 6) pe_int (nomark _))
        (pss_one (ps_ret (pe_op op_cat (pe_op op_cat (pe_slice sl_list (pv 0) po_none (po_some (pv 3))) (pe_lst (pa_cons (pv 5) pa_nil))) (pe_slice sl_list (pv 0) (po_some (pe_op op_add (pv 3) pe_int)) po_none))))
        pss_nil)
      (pss_one (ps_ret (pv 0)))))))))))))), ?_⟩
    have nal : a ∉ [l] := by simpa using hal
    -- the three draws
    refine ⟨_, rfl, l, rfl, hD, fun v1 H1 hv1 k1 hD1 => ?_⟩
    refine ⟨_, rfl, l, rfl, hD1, fun v2 H2 hv2 k2 hD2 => ?_⟩
    have k02 := k1.trans k2
    refine ⟨_, rfl, a, _, rfl, .inl (SqL.of (k02 _ _ hA nal)), _, _, rfl, rfl, _, _, rfl, rfl, ?_, ?_⟩
    · rw [List.length_map]
      show (0 : Int) < (row.length : Int) + 1
      omega
    rw [List.length_map]
    obtain ⟨at', hat, hat2⟩ : ∃ n : Nat, v2 % ((row.length : Int) + 1) = (n : Int) ∧ n ≤ row.length := by
      have h1 := Int.emod_nonneg v2 (show (row.length : Int) + 1 ≠ 0 by omega)
      have h2 := Int.emod_lt_of_pos v2 (show (0 : Int) < (row.length : Int) + 1 by omega)
      exact ⟨(v2 % ((row.length : Int) + 1)).toNat, by omega, by omega⟩
    refine ⟨_, rfl, l, rfl, hD2, fun v3 H3 hv3 k3 hD3 => ?_⟩
    have k03 := k02.trans k3
    -- the byte
    obtain ⟨b, hb⟩ : ∃ b, atI (([0, 1, 127, 128, 255, 256, -1, 32, 126, 37, v3 / 16 % 260, v3 / 16 % 10, 129, 2, 31, (10 : Int) ^ (50 : Int).toNat] : List Int).map V.int) (v3 % 16) = some (.int b) := by
      obtain ⟨n, hn, hn2⟩ : ∃ n : Nat, v3 % 16 = (n : Int) ∧ n < 16 := by
        have h1 := Int.emod_nonneg v3 (show (16 : Int) ≠ 0 by decide)
        have h2 := Int.emod_lt_of_pos v3 (show (0 : Int) < 16 by decide)
        exact ⟨(v3 % 16).toNat, by omega, by omega⟩
      generalize (10 : Int) ^ (50 : Int).toNat = big
      generalize v3 / 16 % 260 = x1
      generalize v3 / 16 % 10 = x2
      obtain ⟨bs, ebs, lbs⟩ : ∃ bs : List Int, bs = [0, 1, 127, 128, 255, 256, -1, 32, 126, 37, x1, x2, 129, 2, 31, big] ∧ bs.length = 16 := ⟨_, rfl, rfl⟩
      rw [← ebs, hn]
      refine ⟨bs[n], atI_nat ?_⟩
      rw [List.getElem?_map, List.getElem?_eq_getElem (by omega)]
      rfl
    refine ⟨_, rfl, _, rfl, _, _, rfl, rfl, ⟨(by decide : (0 : Int) < 16), (by decide : (16 : Int) < 1073741824)⟩, _, _, rfl, rfl, (by decide : (0 : Int) < 260), _, rfl, _, _, rfl, rfl, ⟨(by decide : (0 : Int) < 16), (by decide : (16 : Int) < 1073741824)⟩, _, _, rfl, rfl, (by decide : (0 : Int) < 10), _, _, rfl, rfl, ⟨by decide, by decide, by decide⟩, sl_line (by show 16 ≤ 100000; decide), fun p0 hp0 => ⟨_, rfl, _, _, rfl, rfl, (by decide : (0 : Int) < 16), p0, _, _, _, rfl, rfl, SqL.of upd_same, hb, ?_⟩⟩
    have k04 := fun o => k03.new (o := o) hp0
    have hD4 := fun o => hD3.new (o := o) hp0
    have hA4 : ∀ o, upd H3 p0 o a = some (.lst (row.map V.int)) := fun o => k04 o _ _ hA nal
    have szt : ∀ n, n ≤ 100000 → n ≤ sizeLine := fun n h => sl_line h
    have l1 : (row.take at').length ≤ 1000 := by rw [List.length_take]; omega
    have l2 : (row.drop at').length ≤ 1000 := by rw [List.length_drop]; omega
    have l3 : (row.drop (at' + 1)).length ≤ 1000 := by rw [List.length_drop]; omega
    have l4 : (row.drop (at' + 2)).length ≤ 1000 := by rw [List.length_drop]; omega
    have l5 : ((row.drop at').take 1).length ≤ 1 := by rw [List.length_take]; omega
    have l6 : ((row.drop (at' + 1)).take 1).length ≤ 1 := by rw [List.length_take]; omega
    have c0 := cut_to row at' _ hat
    have c1 := cut_fro row at' _ hat
    have c2 := cut_fro row (at' + 1) (v2 % ((row.length : Int) + 1) + 1) (by omega)
    have c3 := cut_fro row (at' + 2) (v2 % ((row.length : Int) + 1) + 2) (by omega)
    have c4 := cut_one row at' (v2 % ((row.length : Int) + 1)) (v2 % ((row.length : Int) + 1) + 1) (by omega) (by omega)
    have c5 := cut_one row (at' + 1) (v2 % ((row.length : Int) + 1) + 1) (v2 % ((row.length : Int) + 1) + 2) (by omega) (by omega)
    refine ⟨_, rfl, _, _, rfl, rfl, (by decide : (0 : Int) < 8), ?_⟩
    -- cut
    refine ⟨_, rfl, rfl, _, rfl, ite2 (fun _ => ?_) (fun _ => ?_)⟩
    · refine ⟨_, rfl, _, rfl, _, rfl, a, _, rfl, SqL.of (hA4 _), fun p hp => ?_⟩
      refine q _ p _ (.cut at' hat2) ((k04 _).new hp) ((hD4 _).new hp) ?_ ((hD4 _).ne hp)
      rw [upd_same, c0]
    -- delete
    refine ⟨_, rfl, rfl, _, rfl, ite2 (fun _ => ?_) (fun _ => ?_)⟩
    · refine ⟨_, rfl, _, rfl, _, rfl, a, _, rfl, SqL.of (hA4 _), fun p hp => ?_⟩
      refine ⟨_, rfl, _, rfl, _, _, rfl, rfl, _, rfl, a, _, rfl, SqL.of (upd_old (hA4 _) hp), fun p2 hp2 => ⟨p, p2, _, _, rfl, rfl, upd_old upd_same hp2, upd_same, ?_, fun r hr => ?_⟩⟩
      · rw [c0, c2, List.length_map, List.length_map]
        exact szt _ (by omega)
      · refine q _ r _ (.del at' hat2) ((((k04 _).new hp).new hp2).new hr) ((((hD4 _).new hp).new hp2).new hr) ?_ ((((hD4 _).new hp).new hp2).ne hr)
        rw [upd_same, c0, c2, ← List.map_append]
    -- insert
    refine ⟨_, rfl, rfl, _, rfl, ite2 (fun _ => ?_) (fun _ => ?_)⟩
    · refine ⟨_, rfl, _, rfl, _, rfl, a, _, rfl, SqL.of (hA4 _), fun p hp => ?_⟩
      refine ⟨_, rfl, sl_line (by show 1 ≤ 100000; decide), fun p2 hp2 => ⟨p, p2, _, _, rfl, rfl, upd_old upd_same hp2, upd_same, ?_, fun p3 hp3 => ?_⟩⟩
      · rw [c0, List.length_map]
        exact szt _ (by show (row.take at').length + 1 ≤ _; omega)
      · refine ⟨_, rfl, _, rfl, _, rfl, a, _, rfl, SqL.of (upd_old (upd_old (upd_old (hA4 _) hp) hp2) hp3), fun p4 hp4 => ⟨p3, p4, _, _, rfl, rfl, upd_old upd_same hp4, upd_same, ?_, fun r hr => ?_⟩⟩
        · rw [c0, c1, List.length_append, List.length_map, List.length_map]
          exact szt _ (by show (row.take at').length + 1 + (row.drop at').length ≤ _; omega)
        · refine q _ r _ (.ins at' b hat2) ((((((k04 _).new hp).new hp2).new hp3).new hp4).new hr) ((((((hD4 _).new hp).new hp2).new hp3).new hp4).new hr) ?_ ((((((hD4 _).new hp).new hp2).new hp3).new hp4).ne hr)
          rw [upd_same, c0, c1, List.map_append, List.map_append]
          rfl
    -- append
    refine ⟨_, rfl, rfl, _, rfl, ite2 (fun _ => ?_) (fun _ => ?_)⟩
    · refine ⟨_, rfl, _, rfl, sl_line (by show 1 ≤ 100000; decide), fun p2 hp2 => ⟨a, p2, _, _, rfl, rfl, upd_old (hA4 _) hp2, upd_same, ?_, fun r hr => ?_⟩⟩
      · rw [List.length_map]
        exact szt _ (by show row.length + 1 ≤ _; omega)
      · refine q _ r _ (.app b) (((k04 _).new hp2).new hr) (((hD4 _).new hp2).new hr) ?_ (((hD4 _).new hp2).ne hr)
        rw [upd_same, List.map_append]
        rfl
    -- swap
    refine ⟨_, rfl, rfl, _, rfl, ite2 (fun _ => ?_) (fun _ => ?_)⟩
    · refine ⟨_, rfl, _, rfl, _, _, rfl, rfl, _, rfl, _, rfl, _, _, rfl, rfl, _, rfl, a, _, rfl, SqL.of (hA4 _), fun p hp => ?_⟩
      refine ⟨_, rfl, _, rfl, _, rfl, _, rfl, _, _, rfl, rfl, _, rfl, a, _, rfl, SqL.of (upd_old (hA4 _) hp), fun p2 hp2 => ⟨p, p2, _, _, rfl, rfl, upd_old upd_same hp2, upd_same, ?_, fun p3 hp3 => ?_⟩⟩
      · rw [c5, c4, List.length_map, List.length_map]
        exact szt _ (by omega)
      · refine ⟨_, rfl, _, rfl, _, rfl, a, _, rfl, SqL.of (upd_old (upd_old (upd_old (hA4 _) hp) hp2) hp3), fun p4 hp4 => ?_⟩
        refine ⟨_, rfl, p4, p3, _, _, rfl, rfl, upd_same, upd_old upd_same hp4, ?_, fun p5 hp5 => ?_⟩
        · rw [c0, c5, c4, List.length_append, List.length_map, List.length_map, List.length_map]
          exact szt _ (by omega)
        · refine ⟨_, rfl, _, rfl, _, _, rfl, rfl, _, rfl, a, _, rfl, SqL.of (upd_old (upd_old (upd_old (upd_old (upd_old (hA4 _) hp) hp2) hp3) hp4) hp5), fun p6 hp6 => ⟨p5, p6, _, _, rfl, rfl, upd_old upd_same hp6, upd_same, ?_, fun r hr => ?_⟩⟩
          · rw [c0, c5, c4, c3]
            simp only [List.length_append, List.length_map]
            exact szt _ (by omega)
          · refine q _ r _ (.swp at' hat2) ((((((((k04 _).new hp).new hp2).new hp3).new hp4).new hp5).new hp6).new hr) ((((((((hD4 _).new hp).new hp2).new hp3).new hp4).new hp5).new hp6).new hr) ?_ ((((((((hD4 _).new hp).new hp2).new hp3).new hp4).new hp5).new hp6).ne hr)
            rw [upd_same, c0, c5, c4, c3]
            simp only [List.map_append]
    -- change
    refine ⟨_, rfl, _, _, rfl, rfl, _, rfl, ite2 (fun _ => ?_) (fun _ => ?_)⟩
    · refine ⟨_, rfl, _, rfl, _, rfl, a, _, rfl, SqL.of (hA4 _), fun p hp => ?_⟩
      refine ⟨_, rfl, sl_line (by show 1 ≤ 100000; decide), fun p2 hp2 => ⟨p, p2, _, _, rfl, rfl, upd_old upd_same hp2, upd_same, ?_, fun p3 hp3 => ?_⟩⟩
      · rw [c0, List.length_map]
        exact szt _ (by show (row.take at').length + 1 ≤ _; omega)
      · refine ⟨_, rfl, _, rfl, _, _, rfl, rfl, _, rfl, a, _, rfl, SqL.of (upd_old (upd_old (upd_old (hA4 _) hp) hp2) hp3), fun p4 hp4 => ⟨p3, p4, _, _, rfl, rfl, upd_old upd_same hp4, upd_same, ?_, fun r hr => ?_⟩⟩
        · rw [c0, c2, List.length_append, List.length_map, List.length_map]
          exact szt _ (by show (row.take at').length + 1 + (row.drop (at' + 1)).length ≤ _; omega)
        · refine q _ r _ (.chg at' b hat2) ((((((k04 _).new hp).new hp2).new hp3).new hp4).new hr) ((((((hD4 _).new hp).new hp2).new hp3).new hp4).new hr) ?_ ((((((hD4 _).new hp).new hp2).new hp3).new hp4).ne hr)
          rw [upd_same, c0, c2, List.map_append, List.map_append]
          rfl
    exact ⟨_, rfl, q row a _ .non (k04 _) (hD4 _) (hA4 _) hal⟩
end
end FC
/-! W32: a caught error that is kept behind its suite; isinstance of it. -/
namespace FC
open PySem PySem.Spec PyProof.Rows L2
/-- an error of the class cls that stands at a -/
def EO (a : Addr) (cls : Value) (d : Option Addr) : HO := .ext fun h => ∃ (oe : Obj) (vs : Array Value), h.get? a = some oe ∧ Zc cls d oe ∧ oe.data = .fields vs
/-- an object of the heap that no one follows is followed from here on -/
theorem track {X : Cx} {pins : List (Addr × Obj)} {σ : L2.St} {H : Hp} {s : Shared} {a : Addr} {oe : Obj} {vs : Array Value} {cls : Value} {d : Option Addr} (I : Inv X pins σ H s) (na : H a = none) (he : s.heap.get? a = some oe) (hz : Zc cls d oe) (hd : oe.data = .fields vs)
    (nL : a ≠ X.env.locals) (nP : ∀ p ∈ X.pn ++ pins, p.1 ≠ a) (n0 : X.s_0.heap.get? a = none) : Inv X pins σ (upd H a (EO a cls d)) s := by
  obtain ⟨b1, b2, b3, b4, b5, b6, b7⟩ := I.base
  have old : ∀ {b : Addr} {u : HO}, H b = some u → upd H a (EO a cls d) b = some u := fun e => by
    rw [upd_ne (ne_of_none e na)]
    exact e
  refine ⟨I.ok, I.os, I.bare, ⟨b1, b2, fun b o e n hx => ?_, b4, fun b xs e => old (b5 b xs e), fun b o u e => old (b6 b o u e), fun b ps e => ?_⟩, I.loc, I.cell, ?_, fun x c e => ?_, fun p hp => ?_, fun b u e => ?_, I.len⟩
  · have nb : b ≠ a := fun z => by
      rw [z, n0] at e
      cases e
    rw [upd_ne nb]
    exact b3 b o e n hx
  · obtain ⟨more, q⟩ := b7 b ps e
    exact ⟨more, old q⟩
  · rw [upd_ne nL.symm]
    exact I.free
  · have nc : c ≠ a := fun z => by
      obtain ⟨v, ob, q1, q2⟩ := I.cell x c e
      rw [z, he] at q1
      cases q1
      rw [hd] at q2
      cases q2
    rw [upd_ne nc]
    exact I.freeC x c e
  · obtain ⟨p1, p2, p3⟩ := I.pin p hp
    exact ⟨p1, by rw [upd_ne (nP p hp)]; exact p2, p3⟩
  · by_cases hb : b = a
    · subst hb
      rw [upd_same] at e
      cases e
      exact ⟨⟨oe, vs, he, hz, hd⟩, ⟨oe, he⟩, fun h1 h2 ⟨o1, w1, q1, q2, q3⟩ k => ⟨o1, w1, k _ q1, q2, q3⟩⟩
    · rw [upd_ne hb] at e
      exact (I.hok b u e).stay (fun c v _ q => q) (fun c q => old q) fun c xs q => old q
section
variable {X : Cx} {x n : Str} {c : Value} {i : Nat} {body suite : List Stmt} {b₀ : Stmt} {np pos pos' : Pos} {tb : WX → TS} {ts : Addr → TS}
/-- try: body / except x as n: suite, where the clause takes every error of the body; the error is followed behind it -/
theorem ps_try_kept (hs : X.stack = X.env :: X.outer) (hf : X.env.frame = some X.env.locals) (hN : X.N.Nodup) (hi : X.N[i]? = some n) (hln : X.env.kindOf n = some .local) (hc : Names X x c) (hex : X.ex = [])
    (hb : ∀ (W : WX) (pn : List (Addr × Obj)) (xe : Value → Shared → Prop), Takes (X.tr pn xe) W → PassesOwn (model X.prog X.w) X.A X.env xe → PSs (X.tr pn xe) body (tb W))
    (hsu : ∀ (a : Addr) (pn : List (Addr × Obj)), PSs (X.suite a pn) (b₀ :: suite) (ts a)) :
    PS X (.Try body [.ExceptHandler (some (.Name x np)) (some n) (b₀ :: suite) pos'] [] [] pos) (fun D σ H =>
      tb (fun cls d σ1 H1 => PySem.W.exmOne X.K cls c = some true ∧ ∀ a, H1 a = none → ts a { nx := fun σ2 H2 => D.nx (σ2.set i none) (upd H2 a (EO a cls d)), rt := fun _ _ => False } (σ1.set i (some (.ref a))) H1) D σ H) := by
  constructor
  intro pins s σ H D I h
  have ok := I.ok
  refine wpAny_Try_except (wpAny_mono ((hb _ (X.pn ++ pins) (fun e s1 => wpAny (model X.prog X.w) X.A (noteFrame e X.env) (fun _ s2 => wpAny (model X.prog X.w) X.A (setFlight e none) (fun _ s3 =>
    wpAny (model X.prog X.w) X.A (handleBy e X.env [.ExceptHandler (some (.Name x np)) (some n) (b₀ :: suite) pos']) (SP X pins D) X.xe s3) X.xe s2) X.xe s1) ?fly PassesOwn.looking).run [] s σ H D (I.toTry _) h) ?fine fun e s1 q => q)
  case fine =>
    intro f s1 q
    cases f with
    | next =>
      obtain ⟨σ', H', J, q⟩ := q
      exact wpAny_execs_nil ⟨σ', H', J.ofTry ok, q⟩
    | brk =>
      obtain ⟨σ', H', J, q⟩ := q
      exact ⟨σ', H', J.ofTry ok, q⟩
    | cont =>
      obtain ⟨σ', H', J, q⟩ := q
      exact ⟨σ', H', J.ofTry ok, q⟩
    | ret u =>
      obtain ⟨v, σ', H', J, r, q⟩ := q
      exact ⟨v, σ', H', J.ofTry ok, r, q⟩
  case fly =>
    rintro u s' ⟨a, B, sI, pins', σ', H', cls, d, rfl, J', nb, up, sky, na, os, ag, hm, hq⟩
    have J : Inv X pins σ' H' sI := J'.ofTry ok
    have hfr : X.A.frames = some (X.env :: X.outer) := by rw [ok.frames, hs]
    have hB : B.get? a = none := by
      rcases sky with ⟨_, z, _⟩ | z | z
      · exact z
      · exact z.2.1
      · exact z.2.1
    have sky' : Sky B (X.env :: X.outer) a (Zc cls d) X.env.locals s'.heap := hs ▸ sky
    show wpAny (model X.prog X.w) X.A (noteFrame (.ref a) X.env) _ _ _
    refine sky'.land Zc.steady hfr hf fun h3 fl3 up3 => ?_
    obtain ⟨oe3, vs3, he3, hz3, hd3⟩ := fl3.there
    have nfr : a ∉ frs X.stack := fun hmm => by
      rw [hs] at hmm
      obtain ⟨_, o', e', hnf⟩ := fl3.2.2.1.mem hmm
      rw [he3] at e'
      cases e'
      exact hnf _ hd3
    -- the error is not of the state ahead
    have nI : sI.heap.get? a = none := by
      cases e : sI.heap.get? a with
      | none => rfl
      | some o =>
        have := nb a o e nfr
        rw [hB] at this
        cases this
    have n0 : X.s_0.heap.get? a = none := by
      cases e : X.s_0.heap.get? a with
      | none => rfl
      | some o =>
        obtain ⟨o', q⟩ := J.base.there a o e (by rw [hex]; exact fun z => nomatch z)
        rw [nI] at q
        cases q
    have nP : ∀ p ∈ X.pn ++ pins, p.1 ≠ a := fun p hp z => by
      have q := (J.pin p hp).1
      rw [z, nI] at q
      cases q
    have nL : a ≠ X.env.locals := fun z => nfr (by
      rw [hs]
      exact List.mem_filterMap.mpr ⟨X.env, List.mem_cons_self, by rw [hf, z]⟩)
    have nF : a ∉ X.fs := fun hmm => nfr (by
      obtain ⟨e, he, q⟩ := List.mem_filterMap.mp hmm
      rw [hs]
      exact List.mem_filterMap.mpr ⟨e, List.mem_cons_of_mem _ he, q⟩)
    have J3 : Inv X pins σ' H' { s' with heap := h3 } := J.landed nb fl3.1 (up.trans up3) os ag
    have S3 := J3.suite he3 hd3 na nL nF
    refine wpAny_handleBy_cons (codeAny_handlers_test ?_) (by intro q; cases q)
    have LM := PySem.W.exm_one (M := model X.prog X.w) J3.kIn (fun A Q E s k q => wpAny_typeOf_ref (k _ _ he3) (by rw [hz3.1]; exact q)) hm
    have test : ∀ {Q : Value → Shared → Prop} {E : Value → Shared → Prop}, Q c { s' with heap := h3 } → wpAny (model X.prog X.w) (X.A.mark (some (.ref a))) (eval (.Name x np) X.env) Q E { s' with heap := h3 } := fun {Q E} q => by
      obtain ⟨g1, g2, g3 | ⟨g3, g4, g5⟩⟩ := hc
      · exact ld_glob (X := X.suite a ((a, oe3) :: (X.pn ++ pins))) S3 g1 g3 q g2
      · exact ld_blt (X := X.suite a ((a, oe3) :: (X.pn ++ pins))) S3 g1 g3 g4 q g5 g2
    refine test (LM.here (codeAny_handlers_suite_as (HandSPX.lands_againZ fl3 fun h4 fl4 up4 => ?_)))
    obtain ⟨oe4, vs4, he4, hz4, hd4⟩ := fl4.there
    have J4 : Inv X pins σ' H' { s' with heap := h4 } := J.landed nb fl4.1 ((up.trans up3).trans up4) os ag
    have S4 := J4.suite he4 hd4 na nL nF
    refine store_ok (X := X.suite a ((a, oe4) :: (X.pn ++ pins))) (v := .ref a) S4 hN hi (.inl hln) rfl (fun s5 S5 => ?_) (.inr hln)
    refine wpAny_mono ((hsu a ((a, oe4) :: (X.pn ++ pins))).run [] s5 _ H' _ S5 (hq a na)) (fun f s6 q => ?_) fun _ _ z => z.elim
    cases f with
    | next =>
      obtain ⟨σ6, H6, S6, q6⟩ := q
      obtain ⟨p1, p2, _⟩ := S6.pin (a, oe4) (List.mem_append_left _ List.mem_cons_self)
      exact gone_ok (track (S6.unsuite ok) p2 p1 hz4 hd4 nL nP n0) hN hi hln fun s7 J7 => ⟨_, _, J7, q6⟩
    | brk =>
      obtain ⟨σ6, H6, S6, q6⟩ := q
      exact q6.elim
    | cont =>
      obtain ⟨σ6, H6, S6, q6⟩ := q
      exact q6.elim
    | ret u =>
      obtain ⟨v6, σ6, H6, S6, r6, q6⟩ := q
      exact q6.elim
end
/-- isinstance of such an error, or of what call_isi knows -/
def rIsK (K : PySem.W.Frag) : List V → Hp → VK → Prop := fun xs H Q => (∃ (a D : Addr) (cc : V) (cv : Value) (b : Bool), xs = [.ref a, cc] ∧ ClsV cc cv ∧ H a = some (EO a (.ref D) none) ∧ ExcC K D ∧ PySem.W.kitOne K (.ref D) cv = some b ∧ Q (.bl b) H) ∨ rIsi K xs H Q
theorem call_isK {X : Cx} : CallR X (.builtin "isinstance") (rIsK X.K) := by
  intro pins s σ H xs us Q I r h
  rcases h with ⟨a, D, cc, cv, b, rfl, hcc, ha, C, hk, q⟩ | h
  · obtain ⟨u1, u2, rfl, r1, r2⟩ := vals2 r
    have e2 := hcc.eq r2
    subst e2
    cases (show u1 = Value.ref a from r1)
    obtain ⟨⟨oe, vs, he, hz, hd⟩, _, _⟩ := I.hok a _ ha
    have J : PySem.W.InstAt s.heap a oe D none := by
      obtain ⟨oc, od, oda, osl⟩ := oe
      obtain ⟨h1, h2⟩ := hz
      dsimp only at h1 h2 hd
      subst h1 h2 hd
      exact ⟨he, rfl, rfl, trivial⟩
    exact PySem.W.kia_one (PySem.W.handS_kitx_exc C.hg C.hk C.hs C.hd C.ha C.hn C.ht C.hm) I.kIn J hk (fun z => nomatch z) fun tk => ⟨.bl b, H, I.tok tk, rfl, q⟩
  · exact call_isi pins s σ H xs us Q I r h
end FC
/-! W33: the law's kind, refused. -/
namespace FC
open PySem PySem.Spec PyProof.Rows L2
def spKind (c : Cl) : Sp := fun vs H Q _ => ∃ v : V, vs = [v] ∧ ((v = .non ∧ ∀ H' p, Same H H' → H' p = some (.lst []) → Q (.ref p) H') ∨
  ∃ a : Addr, v = .ref a ∧ H a = some (EO a (.ref c.NoBytes) none) ∧ ∀ H' p, Same H H' → H' p = some (.lst [V.str "bytes"]) → Q (.ref p) H')
def spRefused : Sp := fun vs H Q _ => ∃ (a : Addr) (row : List Int), vs = [.ref a] ∧ H a = some (.lst (row.map V.int)) ∧ row.length ≤ 360 ∧
  (pieceR row = none → ∀ H' p, Same H H' → H' p = some (.lst [V.str "bytes"]) → Q (.ref p) H') ∧ (pieceR row ≠ none → ∀ H' p, Same H H' → H' p = some (.lst []) → Q (.ref p) H')
section
variable {P : Program} {w : World} {K : PySem.W.Frag} {mg : Str → Option Value} {base : Heap} {c : Cl}
theorem ok__law_kind (T : Txt K mg c) : GFn P w K mg base CX0 1 "_law_kind" ["_law_error"] (spKind c) := by
  obtain ⟨f, fd, F, hm, hb⟩ := T.d__law_kind
  refine ⟨f, fd, hm, F.kp, hb, F.ok sc__law_kind (fun vs H Q E h => ?_) (fun cdv A outer s H vs Q E hr h => ?_)⟩
  · obtain ⟨v, rfl, _⟩ := h
    rfl
  · obtain ⟨v, rfl, h⟩ := h
    have nd := sc__law_kind.nd
    refine ⟨_, (pss_cons (ps_set (i := 1) nd rfl (.inl rfl) (pe_lst pa_nil))
      (pss_cons (ps_if (pt_val (pe_callB call_isK (by rfl) T.b_isinstance boot_isinstance (pa_cons (pv 0) (pa_cons (pe_gref (by rfl) T.c_NoField) pa_nil))))
        (pss_one (ps_set (i := 1) nd rfl (.inl rfl) (pe_op op_cat (pv 1) (pe_lst (pa_cons pe_str (pa_cons (pe_fld (pv 0) rfl) pa_nil))))))
        pss_nil)
      (pss_cons (ps_if (pt_val (pe_callB call_isK (by rfl) T.b_isinstance boot_isinstance (pa_cons (pv 0) (pa_cons (pe_gref (by rfl) T.c_NoMake) pa_nil))))
        (pss_one (ps_set (i := 1) nd rfl (.inl rfl) (pe_op op_cat (pv 1) (pe_lst (pa_cons pe_str (pa_cons (pe_fld (pv 0) rfl) pa_nil))))))
        pss_nil)
      (pss_cons (ps_if (pt_val (pe_callB call_isK (by rfl) T.b_isinstance boot_isinstance (pa_cons (pv 0) (pa_cons (pe_gref (by rfl) T.c_NoBytes) pa_nil))))
        (pss_one (ps_expr (pe_bm PySem.F.plainAttrs_list PySem.F.slot_list_append PySem.F.type_list_append mt_append (pv 1) (pa_cons pe_str pa_nil))))
        pss_nil)
      (pss_cons (ps_if (pt_val (pe_callB call_isK (by rfl) T.b_isinstance boot_isinstance (pa_cons (pv 0) (pa_cons (pe_gref (by rfl) T.c_NoDocument) pa_nil))))
        (pss_one (ps_expr (pe_bm PySem.F.plainAttrs_list PySem.F.slot_list_append PySem.F.type_list_append mt_append (pv 1) (pa_cons pe_str pa_nil))))
        pss_nil)
      (pss_cons (ps_if (pt_val (pe_callB call_isK (by rfl) T.b_isinstance boot_isinstance (pa_cons (pv 0) (pa_cons (pe_gref (by rfl) T.c_NoStamp) pa_nil))))
        (pss_one (ps_expr (pe_bm PySem.F.plainAttrs_list PySem.F.slot_list_append PySem.F.type_list_append mt_append (pv 1) (pa_cons pe_str pa_nil))))
        pss_nil)
      (pss_cons (ps_if (pt_val (pe_callB call_isK (by rfl) T.b_isinstance boot_isinstance (pa_cons (pv 0) (pa_cons (pe_gref (by rfl) T.c_NoPiece) pa_nil))))
        (pss_one (ps_expr (pe_bm PySem.F.plainAttrs_list PySem.F.slot_list_append PySem.F.type_list_append mt_append (pv 1) (pa_cons pe_str pa_nil))))
        pss_nil)
      (pss_cons (ps_if (pt_val (pe_callB call_isK (by rfl) T.b_isinstance boot_isinstance (pa_cons (pv 0) (pa_cons (pe_gref (by rfl) T.c_NoPattern) pa_nil))))
        (pss_one (ps_expr (pe_bm PySem.F.plainAttrs_list PySem.F.slot_list_append PySem.F.type_list_append mt_append (pv 1) (pa_cons pe_str pa_nil))))
        pss_nil)
      (pss_cons (ps_if (pt_val (pe_callB call_isK (by rfl) T.b_isinstance boot_isinstance (pa_cons (pv 0) (pa_cons (pe_gref (by rfl) T.c_NoLine) pa_nil))))
        (pss_one (ps_expr (pe_bm PySem.F.plainAttrs_list PySem.F.slot_list_append PySem.F.type_list_append mt_append (pv 1) (pa_cons pe_str pa_nil))))
        pss_nil)
      (pss_cons (ps_if (pt_val (pe_callB call_isK (by rfl) T.b_isinstance boot_isinstance (pa_cons (pv 0) (pa_cons (pe_gref (by rfl) T.c_NoText) pa_nil))))
        (pss_one (ps_expr (pe_bm PySem.F.plainAttrs_list PySem.F.slot_list_append PySem.F.type_list_append mt_append (pv 1) (pa_cons pe_str pa_nil))))
        pss_nil)
      (pss_cons (ps_if (PW.pt (pw_and (pt_cmpR op_notN (pv 0) pe_non (nomark _)) (pw_and1 (pt_not (pt_val (pe_callB call_isK (by rfl) T.b_isinstance boot_isinstance (pa_cons (pv 0) (pa_cons (pe_bltn (v := .ty "ValueError") (by rfl) T.b_ValueError boot_ValueError rfl) pa_nil))))))))
        (pss_one (ps_expr (pe_bm PySem.F.plainAttrs_list PySem.F.slot_list_append PySem.F.type_list_append mt_append (pv 1) (pa_cons pe_str pa_nil))))
        pss_nil)
      (pss_cons (ps_if (PW.pt (pw_and (pt_cmpR op_eq (pe_callB call_len_seq (by rfl) T.b_len boot_len (pa_cons (pv 1) pa_nil)) pe_int (nomark _)) (pw_and1 (pt_val (pe_callB call_isi (by rfl) T.b_isinstance boot_isinstance (pa_cons (pe_ix ix_list (pv 1) pe_int (fun _ _ => rfl)) (pa_cons (pe_bltn (v := .ty "bool") (by rfl) T.b_bool boot_bool rfl) pa_nil)))))))
        (pss_one (ps_expr (pe_bm PySem.F.plainAttrs_list PySem.F.slot_list_append PySem.F.type_list_append mt_append (pv 1) (pa_cons pe_str pa_nil))))
        pss_nil)
      (pss_one (ps_ret (pv 1))))))))))))))), ?_⟩
    refine ⟨sl_line (Nat.zero_le _), fun l hl => ?_⟩
    rcases h with ⟨rfl, q⟩ | ⟨a, rfl, ha, q⟩
    · -- None
      refine ⟨_, rfl, .inr ⟨_, _, _, _, false, rfl, .own _, .base .non, T.n_NoField, _, rfl, ?_⟩⟩
      refine ⟨_, rfl, .inr ⟨_, _, _, _, false, rfl, .own _, .base .non, T.n_NoMake, _, rfl, ?_⟩⟩
      refine ⟨_, rfl, .inr ⟨_, _, _, _, false, rfl, .own _, .base .non, T.n_NoBytes, _, rfl, ?_⟩⟩
      refine ⟨_, rfl, .inr ⟨_, _, _, _, false, rfl, .own _, .base .non, T.n_NoDocument, _, rfl, ?_⟩⟩
      refine ⟨_, rfl, .inr ⟨_, _, _, _, false, rfl, .own _, .base .non, T.n_NoStamp, _, rfl, ?_⟩⟩
      refine ⟨_, rfl, .inr ⟨_, _, _, _, false, rfl, .own _, .base .non, T.n_NoPiece, _, rfl, ?_⟩⟩
      refine ⟨_, rfl, .inr ⟨_, _, _, _, false, rfl, .own _, .base .non, T.n_NoPattern, _, rfl, ?_⟩⟩
      refine ⟨_, rfl, .inr ⟨_, _, _, _, false, rfl, .own _, .base .non, T.n_NoLine, _, rfl, ?_⟩⟩
      refine ⟨_, rfl, .inr ⟨_, _, _, _, false, rfl, .own _, .base .non, T.n_NoText, _, rfl, ?_⟩⟩
      refine ⟨_, rfl, rfl, _, rfl, ?_⟩
      refine ⟨_, rfl, l, _, rfl, .inl (SqL.of upd_same), rfl, _, rfl, ?_⟩
      exact ⟨_, rfl, q _ l (Same.upd_new hl) upd_same⟩
    · have nal := ne_of_none ha hl
      have ha0 := ha
      replace ha := upd_old (u := .lst []) ha hl
      refine ⟨_, rfl, .inl ⟨a, c.NoBytes, _, _, false, rfl, .own _, ha, T.e_NoBytes, T.i_NoField, _, rfl, ?_⟩⟩
      refine ⟨_, rfl, .inl ⟨a, c.NoBytes, _, _, false, rfl, .own _, ha, T.e_NoBytes, T.i_NoMake, _, rfl, ?_⟩⟩
      refine ⟨_, rfl, .inl ⟨a, c.NoBytes, _, _, true, rfl, .own _, ha, T.e_NoBytes, T.i_NoBytes, _, rfl, ?_⟩⟩
      refine ⟨_, rfl, .inl ⟨rfl, _, SqL.of upd_same⟩, l, _, _, rfl, rfl, upd_same, (by decide), ?_⟩
      replace ha : upd (upd H l (.lst [])) l (.lst ([] ++ [V.str "bytes"])) a = some (EO a (.ref c.NoBytes) none) := by
        rw [upd_ne nal]
        exact ha
      refine ⟨_, rfl, .inl ⟨a, c.NoBytes, _, _, false, rfl, .own _, ha, T.e_NoBytes, T.i_NoDocument, _, rfl, ?_⟩⟩
      refine ⟨_, rfl, .inl ⟨a, c.NoBytes, _, _, false, rfl, .own _, ha, T.e_NoBytes, T.i_NoStamp, _, rfl, ?_⟩⟩
      refine ⟨_, rfl, .inl ⟨a, c.NoBytes, _, _, false, rfl, .own _, ha, T.e_NoBytes, T.i_NoPiece, _, rfl, ?_⟩⟩
      refine ⟨_, rfl, .inl ⟨a, c.NoBytes, _, _, false, rfl, .own _, ha, T.e_NoBytes, T.i_NoPattern, _, rfl, ?_⟩⟩
      refine ⟨_, rfl, .inl ⟨a, c.NoBytes, _, _, false, rfl, .own _, ha, T.e_NoBytes, T.i_NoLine, _, rfl, ?_⟩⟩
      refine ⟨_, rfl, .inl ⟨a, c.NoBytes, _, _, false, rfl, .own _, ha, T.e_NoBytes, T.i_NoText, _, rfl, ?_⟩⟩
      refine ⟨_, rfl, rfl, _, rfl, ?_⟩
      refine ⟨_, rfl, .inl ⟨a, c.NoBytes, _, _, true, rfl, .ty _, ha, T.e_NoBytes, T.i_ValueError, _, rfl, ?_⟩⟩
      refine ⟨_, rfl, l, _, rfl, .inl (SqL.of upd_same), rfl, _, rfl, ?_⟩
      exact ⟨_, rfl, q _ l (Same.mut (Same.upd_new hl) hl) upd_same⟩
theorem ok__law_refused (T : Txt K mg c) : GFn P w K mg base CX0 10 "_law_refused" ["_law_row"] spRefused := by
  obtain ⟨f, fd, F, hm, hb⟩ := T.d__law_refused
  obtain ⟨fr, fdr, mr, kr, br, Fr⟩ : GFn P w K mg base (L2.CX P w) 9 "read_piece" ["row"] (spRead c) := ok_read_piece T
  have g__law_kind : GFn P w K mg base CX0 1 "_law_kind" ["_law_error"] (spKind c) := ok__law_kind T
  refine ⟨f, fd, hm, F.kp, hb, F.ok sc__law_refused (fun vs H Q E h => ?_) (fun cdv A outer s H vs Q E hr h => ?_)⟩
  · obtain ⟨a, row, rfl, _⟩ := h
    rfl
  · obtain ⟨a, row, rfl, ha, hl, q1, q2⟩ := h
    have nd := sc__law_refused.nd
    refine ⟨_, (pss_cons (ps_set (i := 1) nd rfl (.inl rfl) pe_non)
      (pss_cons (ps_try_kept (i := 2) (tb := fun W => tDrop (tCallS (spRead c) (WE W) (tCons (tVar 0) tNil))) (ts := fun _ => tAsg (tVar 2) (gName 1)) rfl rfl nd rfl rfl ⟨rfl, by decide, .inl T.c_FindError⟩ rfl
          (fun W pn xe tk _ => pss_one (ps_expr (by exact (pe_callS Fr hr rfl mr kr br (fun σ => passAt tk σ) (by exact (pa_cons (pv 0) pa_nil))))))
          (fun a pn => pss_one (ps_set (i := 1) nd rfl (.inl rfl) (by exact (pv 2)))))
      (pss_one (ps_ret (pe_g g__law_kind hr (by rfl) pass0 (pa_cons (pv 1) pa_nil)))))), ?_⟩
    refine ⟨_, rfl, a, row, rfl, ha, hl, fun ms fs ep y H1 s1 hy => ?_, fun ep H1 s1 => ?_⟩
    · exact ⟨_, rfl, .non, rfl, .inl ⟨rfl, fun H' p s' hp => q2 (by rw [ep]; exact fun z => nomatch z) H' p (s1.trans s') hp⟩⟩
    · refine ⟨T.em_NoBytes, fun e he => ⟨_, rfl, _, rfl, .ref e, rfl, .inr ⟨e, rfl, upd_same, fun H' p s' hp => q1 ep H' p ((Same.new s1 he).trans s') hp⟩⟩⟩
end
end FC
/-! W34: the law's tells. -/
namespace FC
open PySem PySem.Spec PyProof.Rows L2
theorem strOk_S {w : List Nat} (h : ∀ ch ∈ w, okB (ch : Int)) : PyData.strOk (S w) = true := by
  unfold PyData.strOk
  rw [Array.all_eq_true]
  intro i hi
  have hm : (S w).cps[i] ∈ w := by
    show w.toArray[i] ∈ w
    rw [List.getElem_toArray]
    exact List.getElem_mem _
  have := h _ hm
  unfold okB at this
  exact decide_eq_true (by omega)
theorem al_ints {H : Hp} {n : Nat} {a b : Addr} {xs : List Int} (ha : H a = some (.lst (xs.map V.int))) (hb : H b = some (.lst (xs.map V.int))) (hl : xs.length ≤ 10000) : Al H (n + 1) (.ref a) (.ref b) := by
  refine .inr ⟨a, b, _, _, rfl, rfl, .inl ⟨ha, hb⟩, ?_, by rw [List.length_map]; exact hl⟩
  clear ha hb hl
  induction xs with
  | nil => exact .nil
  | cons x xs ih => exact .cons (Al.atom (.i x)) ih
theorem al_strs {H : Hp} {n : Nat} {a b : Addr} {xs : List Str} (hs : ∀ x ∈ xs, PyData.strOk x = true) (ha : H a = some (.lst (xs.map V.str))) (hb : H b = some (.lst (xs.map V.str))) (hl : xs.length ≤ 10000) : Al H (n + 1) (.ref a) (.ref b) := by
  refine .inr ⟨a, b, _, _, rfl, rfl, .inl ⟨ha, hb⟩, ?_, by rw [List.length_map]; exact hl⟩
  clear ha hb hl
  induction xs with
  | nil => exact .nil
  | cons x xs ih => exact .cons (Al.atom (.s x (hs x List.mem_cons_self))) (ih fun y hy => hs y (List.mem_cons_of_mem _ hy))
theorem al_posts {H : Hp} {a b : Addr} {ps : Posts} (ha : PostsAt H a ps) (hb : PostsAt H b ps) (hl : ps.length ≤ 10000) (hp : ∀ p ∈ ps, p.2.length ≤ 10000) : Al H 3 (.ref a) (.ref b) := by
  obtain ⟨ts, h1, i1⟩ := ha
  obtain ⟨us, h2, i2⟩ := hb
  have l2 : us.length = ps.length := Paired.length i2
  refine .inr ⟨a, b, _, _, rfl, rfl, .inl ⟨h1, h2⟩, ?_, by rw [List.length_map, l2]; exact hl⟩
  clear h1 h2 hl l2
  induction i1 generalizing us with
  | nil =>
    cases i2
    exact .nil
  | cons h1 t1 ih =>
    cases i2 with
    | cons h2 t2 =>
      refine .cons ?_ (ih (fun p hm => hp p (List.mem_cons_of_mem _ hm)) _ t2)
      exact .inr ⟨_, _, _, _, rfl, rfl, .inr ⟨h1.1, h2.1⟩, .cons (Al.atom (.i _)) (.cons (al_ints h1.2 h2.2 (hp _ List.mem_cons_self)) .nil), (by show 2 ≤ 10000; decide)⟩
abbrev oddW : List Nat := [111, 100, 100]
/-- what tells needs of a table -/
structure TabTell (tab : Tab) : Prop where
  ok : TabOk tab
  good : TabGood tab
  odd : ∀ f ∈ tab, ∀ wp ∈ f.2, wp.1 ≠ oddW
  small : ∀ f ∈ tab, ∀ wp ∈ f.2, wp.2.length ≤ 1000 ∧ ∀ p ∈ wp.2, p.2.length ≤ 1000
theorem findA_some {α : Type} {ps : List (List Nat × α)} {f : List Nat} {a : α} (h : findA ps f = some a) : (f, a) ∈ ps := by
  unfold findA at h
  cases e : ps.find? fun p => decide (p.1 = f) with
  | none => rw [e] at h; cases h
  | some p =>
    rw [e] at h
    have h1 := List.mem_of_find?_eq_some e
    have h2 : p.1 = f := of_decide_eq_true (List.find?_some (p := fun (p : List Nat × α) => decide (p.1 = f)) e)
    have h3 : p.2 = a := Option.some.inj h
    obtain ⟨p1, p2⟩ := p
    cases h2
    cases h3
    exact h1
structure WsTell (ws : Words) : Prop where
  len : ws.length < 64
  ris : ws.Pairwise fun a b => a.1 < b.1
  okb : ∀ wp ∈ ws, ∀ ch ∈ wp.1, okB (ch : Int)
  odd : ∀ wp ∈ ws, wp.1 ≠ oddW
  small : ∀ wp ∈ ws, wp.2.length ≤ 1000 ∧ ∀ p ∈ wp.2, p.2.length ≤ 1000
theorem TabTell.ws {tab : Tab} (h : TabTell tab) (f : List Nat) : WsTell (wordsIn tab f) := by
  unfold wordsIn
  cases e : findA tab f with
  | none => exact ⟨by decide, .nil, fun _ z => (nomatch z), fun _ z => (nomatch z), fun _ z => (nomatch z)⟩
  | some ws =>
    have hm := findA_some e
    exact ⟨(h.ok.2.2 _ hm).1, (h.ok.2.2 _ hm).2, fun wp hw => ((h.good _ hm).2.1 wp hw).2.1, h.odd _ hm, h.small _ hm⟩
def spTells (c : Cl) : Sp := fun vs H Q _ => ∃ (y ml tb : Addr) (ms : List Int) (tab : Tab), vs = [.ref y, .ref ml, .ref tb] ∧ PceAt c H y ms tab ∧ H ml = some (.lst (ms.map V.int)) ∧ TabAt H tb tab ∧ TabTell tab ∧ ms.length ≤ 1000 ∧ ∀ H', Same H H' → Q (.bl true) H'
section
variable {P : Program} {w : World} {K : PySem.W.Frag} {mg : Str → Option Value} {base : Heap} {c : Cl}
theorem ok__law_tells (T : Txt K mg c) : GFn P w K mg base CX0 5 "_law_tells" ["_law_piece", "_law_makes", "_law_table"] (spTells c) := by
  obtain ⟨f, fd, F, hm, hb⟩ := T.d__law_tells
  have g__law_alike : GFn P w K mg base CX0 4 "_law_alike" ["_law_found", "_law_due"] (spAlike 3) := ok__law_alike T 3
  have g__law_length : GFn P w K mg base CX0 1 "_law_length" ["_law_table", "_law_make", "_law_field"] spLLen := ok__law_length T
  have g_makes : GMt P w K mg base CX0 1 c.Piece "makes" ["self"] (spMakes c) := ok_makes T
  have g_fields : GMt P w K mg base CX0 1 c.Piece "fields" ["self"] (spFields c) := ok_fields T
  have g_words : GMt P w K mg base CX0 1 c.Piece "words" ["self", "field"] (spPWords c) := ok_words T
  have g_postings : GMt P w K mg base CX0 2 c.Piece "postings" ["self", "field", "word"] (spPPosts c) := ok_postings T
  have g_length : GMt P w K mg base CX0 1 c.Piece "length" ["self", "make", "field"] (spPLen c) := ok_length T
  refine ⟨f, fd, hm, F.kp, hb, F.ok sc__law_tells (fun vs H Q E h => ?_) (fun cdv A outer s H vs Q E hr h => ?_)⟩
  · obtain ⟨y, ml, tb, ms, tab, rfl, _⟩ := h
    rfl
  · obtain ⟨y, ml, tb, ms, tab, rfl, hP, hml, hT, ht, hms, q⟩ := h
    have nd := sc__law_tells.nd
    have hu := hu_of hr
    refine ⟨_, (pss_cons (ps_if (PW.pt (pw_or (pt_not (pt_val (pe_g g__law_alike hr (by rfl) pass0 (pa_cons (pe_gm0 (pv 0) T.k_Piece g_makes hr pass0) (pa_cons (pv 1) pa_nil))))) (pw_or1 (pt_not (pt_val (pe_g g__law_alike hr (by rfl) pass0 (pa_cons (pe_gm0 (pv 0) T.k_Piece g_fields hr pass0) (pa_cons (pe_callB (call_sortedD rfl) (by rfl) T.b_sorted boot_sorted (pa_cons (pv 2) pa_nil)) pa_nil))))))))
        (pss_one (ps_ret pe_bl))
        pss_nil)
      (pss_cons (ps_for PassesOwn.never rfl (pi_list (pe_op op_cat (pe_callB (call_sortedD rfl) (by rfl) T.b_sorted boot_sorted (pa_cons (pv 2) pa_nil)) (pe_lst (pa_cons pe_str pa_nil)))) (pg_name (i := 3) nd rfl (.inl rfl))
        (pss_cons (ps_set (i := 4) nd rfl (.inl rfl) (pe_dget2 hu (pv 2) (pv 3) pe_dnewK ⟨rfl, rfl, rfl, rfl⟩))
        (pss_cons (ps_if (PW.pt (pw_or (pt_not (pt_val (pe_g g__law_alike hr (by rfl) pass0 (pa_cons (pe_gm (pv 0) T.k_Piece g_words hr pass0 (pa_cons (pv 3) pa_nil)) (pa_cons (pe_callB (call_sortedD rfl) (by rfl) T.b_sorted boot_sorted (pa_cons (pv 4) pa_nil)) pa_nil))))) (pw_or1 (pt_cmpR (op_neD hr.units) (pe_gm (pv 0) T.k_Piece g_postings hr pass0 (pa_cons (pv 3) (pa_cons pe_str pa_nil))) (pe_lst pa_nil) (nomark _)))))
          (pss_one (ps_ret pe_bl))
          pss_nil)
        (pss_cons (ps_for PassesOwn.never rfl (pi_list (pe_callB (call_sortedD rfl) (by rfl) T.b_sorted boot_sorted (pa_cons (pv 4) pa_nil))) (pg_name (i := 5) nd rfl (.inl rfl))
          (pss_one (ps_if (pt_not (pt_val (pe_g g__law_alike hr (by rfl) pass0 (pa_cons (pe_gm (pv 0) T.k_Piece g_postings hr pass0 (pa_cons (pv 3) (pa_cons (pv 5) pa_nil))) (pa_cons (pe_dget hu (pv 4) (pv 5) (fun _ _ => rfl)) pa_nil)))))
            (pss_one (ps_ret pe_bl))
            pss_nil)))
        (pss_one (ps_for PassesOwn.never rfl (pi_list (pe_op op_cat (pv 1) (pe_lst (pa_cons (pe_op op_pow pe_int pe_int) pa_nil)))) (pg_name (i := 6) nd rfl (.inl rfl))
          (pss_one (ps_if (pt_not (pt_val (pe_g g__law_alike hr (by rfl) pass0 (pa_cons (pe_gm (pv 0) T.k_Piece g_length hr pass0 (pa_cons (pv 6) (pa_cons (pv 3) pa_nil))) (pa_cons (pe_g g__law_length hr (by rfl) pass0 (pa_cons (pv 2) (pa_cons (pv 6) (pa_cons (pv 3) pa_nil)))) pa_nil)))))
            (pss_one (ps_ret pe_bl))
            pss_nil))))))))
      (pss_one (ps_ret pe_bl)))), ?_⟩
    obtain ⟨dx, hmk, ln, tbl, p1, p2⟩ := hP.parts
    obtain ⟨kvs, t1, t2⟩ := id hT
    have srt : (tab.map (·.1)).map S = tab.map fun p => S p.1 := by rw [List.map_map]; rfl
    have hfo : ∀ x ∈ (tab.map (·.1)).map S, PyData.strOk x = true := fun x hx => by
      rw [srt] at hx
      obtain ⟨p, hp, rfl⟩ := List.mem_map.mp hx
      exact strOk_S (ht.good _ hp).1
    have h64 := ht.ok.1
    have sortT : ∀ {ys : List Str}, ys.Perm (tab.map fun p => S p.1) → sortedS ys = true → ys = (tab.map (·.1)).map S := fun y1 y2 => by
      rw [← srt] at y1
      exact sorted_same y1 y2 (List.pairwise_map.mpr ht.ok.2.1)
    -- makes, fields
    refine seq_tst (Tst.or (p := false) (q := false) (fun Q q => ⟨_, rfl, y, dx, _, rfl, p1, rfl, y, dx, hmk, _, ms, rfl, p1, fsP_hm _ _ _, p2, fun H1 a1 s1 ha0 ha => ⟨_, rfl, _, _, rfl, al_ints ha (s1 _ _ hml) (by omega), fun H2 s2 => ⟨true, rfl, q _ (s1.trans s2)⟩⟩⟩)
      fun _ H1 s1 Q q => ⟨_, rfl, y, dx, _, rfl, s1 _ _ p1, rfl, y, ms, tab, rfl, hP.same s1, ht.ok, fun H3 a3 s3 h30 h3 => ⟨_, rfl, tb, kvs, tab.map fun p => S p.1, rfl, .inl (s3 _ _ (s1 _ _ t1)), t2.keys, by rw [List.length_map]; exact h64, fun ys q1 y1 y2 hq0 => ⟨_, _, rfl, al_strs (xs := (tab.map (·.1)).map S) hfo ?_ ?_ (by rw [List.length_map, List.length_map]; omega), fun H4 s4 => ⟨true, rfl, q _ ((s3.trans (Same.upd_new hq0)).trans s4)⟩⟩⟩⟩) fun H1 s1 => ?_
    · rw [srt]
      exact upd_old h3 hq0
    · rw [upd_same, sortT y1 y2]
    refine bF rfl ?_
    -- the next step
    refine ⟨_, rfl, tb, kvs, tab.map fun p => S p.1, rfl, .inl (s1 _ _ t1), t2.keys, by rw [List.length_map]; exact h64, fun ys q1 y1 y2 hq0 => ⟨sl_line (by show 1 ≤ 100000; decide), fun q2 hq2 => ⟨q1, q2, _, _, rfl, rfl, upd_old upd_same hq2, upd_same, ?_, fun r hr' => ?_⟩⟩⟩
    · rw [sortT y1 y2]
      simp only [List.length_map]
      exact sl_line (by show tab.length + 1 ≤ _; omega)
    have ey := sortT y1 y2
    subst ey
    have eL : ((tab.map (·.1)).map S).map V.str ++ [V.str "odd"] = ((tab.map (·.1) ++ [oddW]).map S).map V.str := by
      rw [List.map_append, List.map_append]
      rfl
    have s2 : Same H (upd (upd (upd H1 q1 (.lst (((tab.map (·.1)).map S).map V.str))) q2 (.lst [V.str "odd"])) r (.lst (((tab.map (·.1)).map S).map V.str ++ [V.str "odd"]))) := Same.new (Same.new (Same.new s1 hq0) hq2) hr'
    have hr2 : ∀ {H' : Hp}, Same (upd (upd (upd H1 q1 (.lst (((tab.map (·.1)).map S).map V.str))) q2 (.lst [V.str "odd"])) r (.lst (((tab.map (·.1)).map S).map V.str ++ [V.str "odd"]))) H' → H' r = some (.lst (((tab.map (·.1) ++ [oddW]).map S).map V.str)) := fun k => by
      rw [← eL]
      exact k _ _ upd_same
    generalize (upd (upd (upd H1 q1 (.lst (((tab.map (·.1)).map S).map V.str))) q2 (.lst [V.str "odd"])) r (.lst (((tab.map (·.1)).map S).map V.str ++ [V.str "odd"]))) = H2 at s2 hr2
    refine ⟨r, rfl, ⟨_, SqL.of (hr2 (Same.refl _))⟩, for_list (xs := ((tab.map (·.1) ++ [oddW]).map S).map V.str) (fun i σ H' => ∃ y3 y4 y5 y6, σ = [some (.ref y), some (.ref ml), some (.ref tb), y3, y4, y5, y6] ∧ Same H2 H') ⟨none, none, none, none, rfl, Same.refl _⟩ (fun i σ H' _ ⟨_, _, _, _, _, k⟩ => SqL.of (hr2 k)) ?_ ?_⟩
    · rintro i v σ H3 hv ⟨y3, y4, y5, y6, rfl, s3⟩
      obtain ⟨nm, rfl⟩ : ∃ nm : List Nat, v = .str (S nm) := by
        rw [List.getElem?_map, List.getElem?_map] at hv
        cases e : (tab.map (·.1) ++ [oddW])[i]? with
        | none => rw [e] at hv; cases hv
        | some nm =>
          rw [e] at hv
          exact ⟨nm, (Option.some.inj hv).symm⟩
      have s03 := s2.trans s3
      have hws := ht.ws nm
      have t13 := s03 _ _ t1
      obtain ⟨ws, ews⟩ : ∃ ws, ws = wordsIn tab nm := ⟨_, rfl⟩
      have sortW : ∀ {ys : List Str}, ys.Perm (ws.map fun p => S p.1) → sortedS ys = true → ys = (ws.map (·.1)).map S := fun y1 y2 => by
        refine sorted_same ?_ y2 (List.pairwise_map.mpr (by rw [ews]; exact hws.ris))
        rw [List.map_map]
        exact y1
      have hwo : ∀ x ∈ (ws.map (·.1)).map S, PyData.strOk x = true := fun x hx => by
        rw [List.map_map] at hx
        obtain ⟨p, hp, rfl⟩ := List.mem_map.mp hx
        exact strOk_S (hws.okb _ (by rw [← ews]; exact hp))
      have hw64 : ws.length < 64 := by rw [ews]; exact hws.len
      -- the next step
      refine ⟨_, rfl, tb, rfl, .inl ⟨_, .inl t13⟩, _, rfl, fun z hz => ⟨_, DGet.k (k := Sum.inr (S nm)) (upd_old t13 hz), ?_⟩⟩
      have hd : ∃ (d : Addr) (wk : List (Key × V)), (valV kvs (Sum.inr (S nm) : Key)).getD (.ref z) = .ref d ∧ upd H3 z (.dK []) d = some (.dK wk) ∧ KvsAt (upd H3 z (.dK [])) wk ws := by
        rcases t2.get (f := nm) with ⟨g1, g2⟩ | ⟨ws', dw, g1, g2, wk, g3, g4⟩
        · rw [g2]
          refine ⟨z, [], rfl, upd_same, ?_⟩
          rw [ews]
          unfold wordsIn
          rw [g1]
          exact .nil
        · rw [g2]
          refine ⟨dw, wk, rfl, upd_old (s03 _ _ g3) hz, ?_⟩
          have : ws = ws' := by
            rw [ews]
            unfold wordsIn
            rw [g1]
            rfl
          rw [this]
          exact (g4.same s03).same (Same.upd_new hz)
      obtain ⟨d, wk, ed, hd1, hd2⟩ := hd
      rw [ed]
      have s4 : Same H2 (upd H3 z (.dK [])) := Same.new s3 hz
      generalize upd H3 z (.dK []) = H4 at s4 hd1 hd2
      have s04 := s2.trans s4
      have hkeys : wk.map (·.1) = (ws.map fun p => S p.1).map Sum.inr := KA.keys (KA.ofKvs hd2)
      -- the next step
      have hodd : postsIn (wordsIn tab nm) oddW = [] := by
        unfold postsIn
        rw [findA_none fun p hp => hws.odd p hp]
        rfl
      dsimp only [gName]
      refine seq_tst (Tst.or (p := false) (q := false) (fun Q q => ⟨_, rfl, y, dx, _, rfl, s04 _ _ p1, rfl, _, rfl, y, ms, tab, nm, rfl, hP.same s04, ht.ok, fun H5 a5 s5 h50 h5 => ⟨_, rfl, d, wk, ws.map fun p => S p.1, rfl, .inl (s5 _ _ hd1), hkeys, by rw [List.length_map]; exact hw64, fun ys q1 y1 y2 hq0 => ⟨_, _, rfl, al_strs (xs := (ws.map (·.1)).map S) hwo ?_ ?_ (by rw [List.length_map, List.length_map]; omega), fun H6 s6 => ⟨true, rfl, q _ ((s5.trans (Same.upd_new hq0)).trans s6)⟩⟩⟩⟩)
        fun _ H5 s5 Q q => ⟨_, rfl, y, dx, _, rfl, s5 _ _ (s04 _ _ p1), rfl, _, rfl, y, ms, tab, nm, oddW, rfl, (hP.same s04).same s5, by rw [hodd]; exact Nat.zero_le _, fun H6 l6 s6 h6 => ⟨sl_line (Nat.zero_le _), fun p hp => ?_⟩⟩) fun H5 s5 => ?_
      · have := upd_old (u := .lst (ys.map V.str)) h5 hq0
        rw [this, ews]
        congr 2
        simp only [List.map_map]
        rfl
      · rw [upd_same, sortW y1 y2]
      · rw [hodd] at h6
        obtain ⟨ts, h61, h62⟩ := h6.same nw_same
        refine ⟨_, _, dp_posts (upd_old h61 hp) (h62.same (Same.upd_new hp)), dp_ints (a := []) (SqL.of upd_same), shaped_posts _, shaped_intL _, _, rfl, ?_⟩
        rw [eqv_posts_nil]
        exact q _ (s6.trans (Same.upd_new hp))
      refine bF rfl ?_
      have s05 := s04.trans s5
      have hd5 := s5 _ _ hd1
      have hk5 := hd2.same s5
      -- the next step
      refine ⟨_, rfl, d, wk, ws.map fun p => S p.1, rfl, .inl hd5, hkeys, by rw [List.length_map]; exact hw64, fun ys q3 y1 y2 hq3 => ?_⟩
      have ey := sortW y1 y2
      subst ey
      refine ⟨q3, rfl, ⟨_, SqL.of upd_same⟩, for_list (xs := ((ws.map (·.1)).map S).map V.str) (fun j σ H' => ∃ y5 y6, σ = [some (.ref y), some (.ref ml), some (.ref tb), some (.str (S nm)), some (.ref d), y5, y6] ∧ Same (upd H5 q3 (.lst (((ws.map (·.1)).map S).map V.str))) H') ⟨y5, y6, rfl, Same.refl _⟩ (fun j σ H' _ ⟨_, _, _, k⟩ => SqL.of (k _ _ upd_same)) ?_ ?_⟩
      · rintro j v σ H6 hv ⟨y5, y6, rfl, s6⟩
        rw [List.getElem?_map, List.getElem?_map, List.getElem?_map] at hv
        cases ew : ws[j]? with
        | none => rw [ew] at hv; cases hv
        | some wp =>
          rw [ew] at hv
          cases Option.some.inj hv
          have hmw := List.mem_of_getElem? ew
          have hmw' : wp ∈ wordsIn tab nm := by rw [← ews]; exact hmw
          have hfw : findA ws wp.1 = some wp.2 := findA_mem (by rw [ews]; exact hws.ris) hmw
          have hpi : postsIn (wordsIn tab nm) wp.1 = wp.2 := by
            unfold postsIn
            rw [← ews, hfw]
            rfl
          obtain ⟨hs1, hs2⟩ := hws.small wp hmw'
          have s56 : Same H5 H6 := (Same.upd_new hq3).trans s6
          refine ifs_tst (p := false) (fun Q q => ⟨_, rfl, y, dx, _, rfl, s56 _ _ (s05 _ _ p1), rfl, _, rfl, _, rfl, y, ms, tab, nm, wp.1, rfl, hP.same (s05.trans s56), by rw [hpi]; exact hs1, fun H7 l7 s7 h7 => ?_⟩) fun H7 s7 => bF rfl ⟨_, _, rfl, s6.trans s7⟩
          rw [hpi] at h7
          obtain ⟨rl, r1, r2⟩ : ∃ rl, valV wk (Sum.inr (S wp.1) : Key) = some (V.ref rl) ∧ PostsAt H5 rl wp.2 := by
            rcases (KA.ofKvs hk5).get (f := wp.1) with ⟨z, _⟩ | ⟨ps, rl, z1, z2, z3⟩
            · rw [hfw] at z
              cases z
            · rw [hfw] at z1
              cases Option.some.inj z1
              exact ⟨rl, z2, z3⟩
          have g := DGet.k (k := Sum.inr (S wp.1)) (s7 _ _ (s56 _ _ hd5))
          rw [r1] at g
          refine ⟨_, rfl, _, rfl, d, _, rfl, g, _, _, rfl, al_posts (h7.same nw_same) ((r2.same s56).same s7) (by omega) (fun p hp => by have := hs2 p hp; omega), fun H8 s8 => ⟨true, rfl, q _ (s7.trans s8)⟩⟩
      · rintro σ H6 ⟨y5, y6, rfl, s6⟩
        have s56 : Same H5 H6 := (Same.upd_new hq3).trans s6
        have s06 := s05.trans s56
        -- the next step
        refine ⟨_, rfl, _, _, rfl, rfl, ⟨by decide, by decide, by decide⟩, sl_line (by show 1 ≤ 100000; decide), fun q4 hq4 => ⟨ml, q4, _, _, rfl, rfl, upd_old (s06 _ _ hml) hq4, upd_same, ?_, fun r2 hr2' => ?_⟩⟩
        · rw [List.length_map]
          exact sl_line (by show ms.length + 1 ≤ _; omega)
        have eM : ms.map V.int ++ [V.int ((10 : Int) ^ (50 : Int).toNat)] = (ms ++ [(10 : Int) ^ (50 : Int).toNat]).map V.int := by
          rw [List.map_append]
          rfl
        have hr3 : upd (upd H6 q4 (.lst [V.int ((10 : Int) ^ (50 : Int).toNat)])) r2 (.lst (ms.map V.int ++ [V.int ((10 : Int) ^ (50 : Int).toNat)])) r2 = some (.lst ((ms ++ [(10 : Int) ^ (50 : Int).toNat]).map V.int)) := by
          rw [upd_same, eM]
        have s67 : Same H6 (upd (upd H6 q4 (.lst [V.int ((10 : Int) ^ (50 : Int).toNat)])) r2 (.lst (ms.map V.int ++ [V.int ((10 : Int) ^ (50 : Int).toNat)]))) := Same.new (Same.upd_new hq4) hr2'
        refine ⟨r2, rfl, ⟨_, SqL.of hr3⟩, for_list (xs := (ms ++ [(10 : Int) ^ (50 : Int).toNat]).map V.int) (fun j σ H' => ∃ y6, σ = [some (.ref y), some (.ref ml), some (.ref tb), some (.str (S nm)), some (.ref d), y5, y6] ∧ Same (upd (upd H6 q4 (.lst [V.int ((10 : Int) ^ (50 : Int).toNat)])) r2 (.lst (ms.map V.int ++ [V.int ((10 : Int) ^ (50 : Int).toNat)]))) H') ⟨y6, rfl, Same.refl _⟩ (fun j σ H' _ ⟨_, _, k⟩ => SqL.of (k _ _ hr3)) ?_ ?_⟩
        · rintro j v σ H7 hv ⟨y6, rfl, s7⟩
          obtain ⟨m, rfl⟩ : ∃ m : Int, v = .int m := by
            rw [List.getElem?_map] at hv
            cases e : (ms ++ [(10 : Int) ^ (50 : Int).toNat])[j]? with
            | none => rw [e] at hv; cases hv
            | some m =>
              rw [e] at hv
              exact ⟨m, (Option.some.inj hv).symm⟩
          have s07 := (s06.trans s67).trans s7
          refine ifs_tst (p := false) (fun Q q => ⟨_, rfl, y, dx, _, rfl, s07 _ _ p1, rfl, _, rfl, _, rfl, y, ms, tab, m, nm, rfl, hP.same s07, fun H8 s8 => ⟨_, rfl, _, rfl, _, rfl, tb, tab, m, nm, rfl, hT.same (s07.trans s8), fun wp hw => by have := (hws.small wp hw).1; omega, fun H9 s9 => ⟨_, _, rfl, Al.atom (.i _), fun H10 s10 => ⟨true, rfl, q _ ((s8.trans s9).trans s10)⟩⟩⟩⟩) fun H8 s8 => bF rfl ⟨_, rfl, s7.trans s8⟩
        · rintro σ H7 ⟨y6, rfl, s7⟩
          exact ⟨_, _, _, _, rfl, ((s4.trans s5).trans s56).trans (s67.trans s7)⟩
    · rintro σ H3 ⟨y3, y4, y5, y6, rfl, s3⟩
      exact q _ (s2.trans s3)
end
end FC
/-! M2: what is drawn; bends; what is so of a row read. -/
namespace FC
open PySem PySem.Spec PyProof.Rows L2
def flds3 : List (List Nat) := [[97], [97, 98], [98, 111, 100, 121]]
def wrds4 : List (List Nat) := [[97, 98], [98], [97, 49], [48]]
/-- what is so of a drawn piece -/
structure DrOk (makes : List Int) (tab : Tab) : Prop where
  ris : Rises makes
  mk3 : makes.length ≤ 3
  mkb : ∀ m ∈ makes, m ≤ 1000
  nd : (tab.map (·.1)).Nodup
  fn : ∀ f ∈ tab, f.1 ∈ flds3
  wnd : ∀ f ∈ tab, (f.2.map (·.1)).Nodup
  wn : ∀ f ∈ tab, ∀ wp ∈ f.2, wp.1 ∈ wrds4
  ps : ∀ f ∈ tab, ∀ wp ∈ f.2, PostsOk wp.2 ∧ wp.2 ≠ [] ∧ wp.2.length ≤ 3 ∧ ∀ p ∈ wp.2, p.1 ≤ 1000 ∧ p.2.length ≤ 3 ∧ ∀ x ∈ p.2, x < 4
inductive BendN (R : List Int) : Nat → List Int → Prop where
  | z : BendN R 0 R
  | s {n : Nat} {R1 R2 : List Int} (h : BendN R n R1) (b : Bend R1 R2) : BendN R (n + 1) R2
theorem BendN.len {R R' : List Int} {n : Nat} (h : BendN R n R') : R'.length ≤ R.length + n := by
  induction h with
  | z => exact Nat.le_refl _
  | s _ b ih => have := b.len; omega
/-! ### sorted -/
/-- sorted by the name -/
theorem sortN {α : Type} : ∀ l : List (List Nat × α), (l.map (·.1)).Nodup → ∃ l' : List (List Nat × α), l'.Perm l ∧ l'.Pairwise fun a b => a.1 < b.1 := by
  have ins : ∀ (p : List Nat × α) (l : List (List Nat × α)), p.1 ∉ l.map (·.1) → l.Pairwise (fun a b => a.1 < b.1) → ∃ l' : List (List Nat × α), l'.Perm (p :: l) ∧ l'.Pairwise fun a b => a.1 < b.1 := by
    intro p l
    induction l with
    | nil => intro _ _; exact ⟨[p], List.Perm.refl _, List.pairwise_singleton _ _⟩
    | cons q l ih =>
      intro hn hp
      have hp' := List.pairwise_cons.mp hp
      have hn1 : p.1 ≠ q.1 := fun z => hn (by rw [z]; exact List.mem_map.mpr ⟨q, List.mem_cons_self, rfl⟩)
      have hn2 : p.1 ∉ l.map (·.1) := fun z => hn (by
        rw [List.map_cons]
        exact List.mem_cons_of_mem _ z)
      by_cases h : p.1 < q.1
      · exact ⟨p :: q :: l, List.Perm.refl _, List.pairwise_cons.mpr ⟨fun r hr => by
          rcases List.mem_cons.mp hr with z | z
          · rw [z]; exact h
          · exact nlt_trans h (hp'.1 r z), hp⟩⟩
      · have h2 : q.1 < p.1 := by
          rcases List.le_total p.1 q.1 with z | z
          · exact absurd (List.le_antisymm z (List.not_lt.mp h)) hn1
          · by_cases h3 : q.1 < p.1
            · exact h3
            · exact absurd (List.le_antisymm (List.not_lt.mp h3) (List.not_lt.mp h)) hn1
        obtain ⟨l', p1, p2⟩ := ih hn2 hp'.2
        refine ⟨q :: l', (List.Perm.cons q p1).trans (List.Perm.swap p q l), List.pairwise_cons.mpr ⟨fun r hr => ?_, p2⟩⟩
        rcases List.mem_cons.mp (p1.mem_iff.mp hr) with z | z
        · rw [z]; exact h2
        · exact hp'.1 r z
  intro l
  induction l with
  | nil => intro _; exact ⟨[], List.Perm.refl _, .nil⟩
  | cons p l ih =>
    intro h
    have h' := List.nodup_cons.mp h
    obtain ⟨l', p1, p2⟩ := ih h'.2
    obtain ⟨l2, q1, q2⟩ := ins p l' (fun z => h'.1 ((p1.map (·.1)).mem_iff.mp z)) p2
    exact ⟨l2, q1.trans (List.Perm.cons p p1), q2⟩
theorem nodup_sub : ∀ {ks l : List (List Nat)}, l.Nodup → (∀ x ∈ l, x ∈ ks) → l.length ≤ ks.length
  | [], l, _, h => by
    cases l with
    | nil => exact Nat.le_refl _
    | cons x l => exact absurd (h x List.mem_cons_self) (fun z => nomatch z)
  | k :: ks, l, hn, h => by
    have h1 := nodup_sub (ks := ks) (l := l.erase k) (hn.erase k) fun x hx => by
      have h2 := hn.mem_erase_iff.mp hx
      rcases List.mem_cons.mp (h x h2.2) with z | z
      · exact absurd z h2.1
      · exact z
    have h3 := List.length_erase (a := k) (l := l)
    rw [List.length_cons]
    split at h3 <;> omega
/-- the drawn piece in order -/
theorem DrOk.srt {makes : List Int} {tab : Tab} (h : DrOk makes tab) : ∃ tab', Srt tab tab' ∧ DrOk makes tab' := by
  -- the words of each field
  have hw : ∀ f ∈ tab, ∃ ws : Words, ws.Perm f.2 ∧ ws.Pairwise fun a b => a.1 < b.1 := fun f hf => sortN f.2 (h.wnd f hf)
  have hT : ∀ t : Tab, (∀ f ∈ t, ∃ ws : Words, ws.Perm f.2 ∧ ws.Pairwise fun a b => a.1 < b.1) → ∃ t' : Tab, Paired (fun (a b : List Nat × Words) => b.1 = a.1 ∧ b.2.Perm a.2 ∧ b.2.Pairwise fun x y => x.1 < y.1) t t' := by
    intro t
    induction t with
    | nil => intro _; exact ⟨[], .nil⟩
    | cons f t ih =>
      intro hh
      obtain ⟨ws, w1, w2⟩ := hh f List.mem_cons_self
      obtain ⟨t', p⟩ := ih fun g hg => hh g (List.mem_cons_of_mem _ hg)
      exact ⟨(f.1, ws) :: t', .cons ⟨rfl, w1, w2⟩ p⟩
  obtain ⟨t1, hp⟩ := hT tab hw
  have hn : ∀ {a b : Tab}, Paired (fun (a b : List Nat × Words) => b.1 = a.1 ∧ b.2.Perm a.2 ∧ b.2.Pairwise fun x y => x.1 < y.1) a b → b.map (·.1) = a.map (·.1) := by
    intro a b hh
    induction hh with
    | nil => rfl
    | cons r _ ih => rw [List.map_cons, List.map_cons, ih, r.1]
  have hm : ∀ {a b : Tab}, Paired (fun (a b : List Nat × Words) => b.1 = a.1 ∧ b.2.Perm a.2 ∧ b.2.Pairwise fun x y => x.1 < y.1) a b → ∀ g ∈ b, ∃ f ∈ a, g.1 = f.1 ∧ g.2.Perm f.2 ∧ g.2.Pairwise fun x y => x.1 < y.1 := by
    intro a b hh
    induction hh with
    | nil => exact fun _ z => nomatch z
    | cons r _ ih =>
      intro g hg
      rcases List.mem_cons.mp hg with z | z
      · exact ⟨_, List.mem_cons_self, by rw [z]; exact r⟩
      · obtain ⟨f, f1, f2⟩ := ih g z
        exact ⟨f, List.mem_cons_of_mem _ f1, f2⟩
  have hn1 := hn hp
  obtain ⟨tab', q1, q2⟩ := sortN t1 (by rw [hn1]; exact h.nd)
  have hmem : ∀ g ∈ tab', ∃ f ∈ tab, g.1 = f.1 ∧ g.2.Perm f.2 ∧ g.2.Pairwise fun x y => x.1 < y.1 := fun g hg => hm hp g (q1.mem_iff.mp hg)
  have len3 : tab'.length ≤ 3 := by
    rw [q1.length_eq, ← Paired.length hp, ← List.length_map (f := (·.1)) (as := tab)]
    exact nodup_sub (ks := flds3) h.nd fun x hx => by
      obtain ⟨f, hf, rfl⟩ := List.mem_map.mp hx
      exact h.fn f hf
  have nd' : (tab'.map (·.1)).Nodup := (q1.map (·.1)).nodup_iff.mpr (by rw [hn1]; exact h.nd)
  have D' : DrOk makes tab' := by
    refine ⟨h.ris, h.mk3, h.mkb, nd', fun g hg => ?_, fun g hg => ?_, fun g hg wp hwp => ?_, fun g hg wp hwp => ?_⟩
    · obtain ⟨f, f1, f2, _⟩ := hmem g hg
      rw [f2]
      exact h.fn f f1
    · obtain ⟨f, f1, f2, f3, _⟩ := hmem g hg
      exact (f3.map (·.1)).nodup_iff.mpr (h.wnd f f1)
    · obtain ⟨f, f1, f2, f3, _⟩ := hmem g hg
      exact h.wn f f1 wp (f3.mem_iff.mp hwp)
    · obtain ⟨f, f1, f2, f3, _⟩ := hmem g hg
      exact h.ps f f1 wp (f3.mem_iff.mp hwp)
  refine ⟨tab', ⟨h.nd, ?_, ⟨by omega, q2, fun g hg => ?_⟩, fun g hg => ?_⟩, D'⟩
  · rw [← hn1]
    exact q1.map (·.1)
  · obtain ⟨f, f1, f2, f3, f4⟩ := hmem g hg
    refine ⟨?_, f4⟩
    rw [← List.length_map (f := (·.1)) (as := g.2)]
    have : (g.2.map (·.1)).length ≤ wrds4.length := nodup_sub (D'.wnd g hg) fun x hx => by
      obtain ⟨wp, hwp, rfl⟩ := List.mem_map.mp hx
      exact D'.wn g hg wp hwp
    exact Nat.lt_of_le_of_lt this (by decide)
  · obtain ⟨f, f1, f2, f3, f4⟩ := hmem g hg
    exact ⟨f.2, by rw [f2]; exact findA_nd h.nd f1, f3, h.wnd f f1⟩
theorem DrOk.good {makes : List Int} {tab : Tab} (h : DrOk makes tab) (hs : TabOk tab) : TabGood tab := by
  intro f hf
  have o1 : ∀ x ∈ flds3, ∀ ch ∈ x, okB ((ch : Nat) : Int) := by decide
  have o2 : ∀ x ∈ wrds4, ∀ ch ∈ x, okB ((ch : Nat) : Int) := by decide
  have o3 : ∀ x ∈ wrds4, wordB x = true := by decide +kernel
  refine ⟨o1 _ (h.fn f hf), fun wp hw => ?_, (hs.2.2 f hf).2⟩
  obtain ⟨p1, p2, _⟩ := h.ps f hf wp hw
  exact ⟨o3 _ (h.wn f hf wp hw), o2 _ (h.wn f hf wp hw), p2, p1⟩
end FC
/-! M3: sizes. -/
namespace FC
open PySem PySem.Spec PyProof.Rows L2
theorem flat_le {α : Type} {g : α → List Int} {k : Nat} : ∀ {xs : List α}, (∀ x ∈ xs, (g x).length ≤ k) → (xs.flatMap g).length ≤ k * xs.length
  | [], _ => by simp
  | x :: xs, h => by
    have h1 := h x List.mem_cons_self
    have h2 := flat_le (xs := xs) fun y hy => h y (List.mem_cons_of_mem _ hy)
    rw [List.flatMap_cons, List.length_append, List.length_cons, Nat.mul_succ]
    omega
theorem flat_ge {α : Type} {g : α → List Int} {k : Nat} : ∀ {xs : List α}, (∀ x ∈ xs, k ≤ (g x).length) → k * xs.length ≤ (xs.flatMap g).length
  | [], _ => by simp
  | x :: xs, h => by
    have h1 := h x List.mem_cons_self
    have h2 := flat_ge (xs := xs) fun y hy => h y (List.mem_cons_of_mem _ hy)
    rw [List.flatMap_cons, List.length_append, List.length_cons, Nat.mul_succ]
    omega
theorem flat_in {α : Type} {g : α → List Int} : ∀ {xs : List α} {x : α}, x ∈ xs → (g x).length ≤ (xs.flatMap g).length
  | y :: xs, x, h => by
    rw [List.flatMap_cons, List.length_append]
    rcases List.mem_cons.mp h with z | z
    · rw [z]
      omega
    · have := flat_in (g := g) z
      omega
theorem numB_one {n : Nat} (h : n < 128) : (numB n).length = 1 := by rw [numB_lt h]; rfl
theorem numB_two {n : Nat} (h : n < 16384) : (numB n).length ≤ 2 := by
  by_cases h1 : n < 128
  · rw [numB_one h1]
    decide
  · rw [numB_ge (by omega), List.length_cons, numB_one (by omega)]
    decide
theorem textB_le {w : List Nat} (h : w.length < 128) : (textB w).length = 1 + w.length := by
  unfold textB lenI codes
  rw [List.length_append, numB_one h, List.length_map]
theorem textB_ge (w : List Nat) : 1 + w.length ≤ (textB w).length := by
  have := numB_pos w.length
  unfold textB lenI codes
  rw [List.length_append, List.length_map]
  omega
theorem placesB_two : ∀ {l : Int} {xs : List Int}, 0 ≤ l → (∀ x ∈ xs, 0 ≤ x ∧ x ≤ 1000) → (placesB l xs).length ≤ 2 * xs.length
  | _, [], _, _ => Nat.le_refl _
  | l, x :: xs, h0, h => by
    have hx := h x List.mem_cons_self
    have h1 := placesB_two (l := x) (xs := xs) hx.1 fun y hy => h y (List.mem_cons_of_mem _ hy)
    have h2 := numB_two (n := (x - l).toNat) (by omega)
    show (numB (x - l).toNat ++ placesB x xs).length ≤ _
    rw [List.length_append, List.length_cons]
    omega
theorem placesB_one : ∀ {l : Int} {xs : List Int}, 0 ≤ l → (∀ x ∈ xs, 0 ≤ x ∧ x < 4) → (placesB l xs).length ≤ xs.length
  | _, [], _, _ => Nat.le_refl _
  | l, x :: xs, h0, h => by
    have hx := h x List.mem_cons_self
    have h1 := placesB_one (l := x) (xs := xs) hx.1 fun y hy => h y (List.mem_cons_of_mem _ hy)
    have h2 := numB_one (n := (x - l).toNat) (by omega)
    show (numB (x - l).toNat ++ placesB x xs).length ≤ _
    rw [List.length_append, List.length_cons]
    omega
theorem postsKB_le : ∀ {l : Int} {ps : Posts}, 0 ≤ l → (∀ p ∈ ps, 0 ≤ p.1 ∧ p.1 ≤ 1000 ∧ p.2.length ≤ 3 ∧ ∀ x ∈ p.2, 0 ≤ x ∧ x < 4) → (postsKB l ps).length ≤ 6 * ps.length
  | _, [], _, _ => Nat.le_refl _
  | l, (m, xs) :: ps, h0, h => by
    obtain ⟨a1, a2, a3, a4⟩ := h (m, xs) List.mem_cons_self
    dsimp only at a1 a2 a3 a4
    have h1 := postsKB_le (l := m) (ps := ps) a1 fun y hy => h y (List.mem_cons_of_mem _ hy)
    have h2 := numB_two (n := (m - l).toNat) (by omega)
    have h3 := placesB_one (l := 0) (xs := xs) (by omega) a4
    have h4 := numB_one (n := xs.length) (by omega)
    show (numB (m - l).toNat ++ (numB xs.length ++ (placesB 0 xs ++ postsKB m ps))).length ≤ _
    simp only [List.length_append, List.length_cons]
    omega
theorem gathP_le {m : Int} {k : Nat} : ∀ {ps : Posts}, (∀ p ∈ ps, p.2.length ≤ k) → (gathP ps m).length ≤ k * ps.length
  | [], _ => by simp [gathP]
  | p :: ps, h => by
    have h1 := h p List.mem_cons_self
    have h2 := gathP_le (m := m) (ps := ps) fun y hy => h y (List.mem_cons_of_mem _ hy)
    show ((if p.1 = m then p.2 else []) ++ gathP ps m).length ≤ _
    rw [List.length_append, List.length_cons, Nat.mul_succ]
    split
    · omega
    · rw [List.length_nil]; omega
theorem gath_le {m : Int} {k : Nat} : ∀ {ws : Words}, (∀ wp ∈ ws, (gathP wp.2 m).length ≤ k) → (gath ws m).length ≤ k * ws.length
  | [], _ => by simp [gath]
  | wp :: ws, h => by
    have h1 := h wp List.mem_cons_self
    have h2 := gath_le (m := m) (ws := ws) fun y hy => h y (List.mem_cons_of_mem _ hy)
    show (gathP wp.2 m ++ gath ws m).length ≤ _
    rw [List.length_append, List.length_cons, Nat.mul_succ]
    omega
section
variable {makes : List Int} {tab : Tab}
theorem DrOk.wl (h : DrOk makes tab) {f : List Nat × Words} (hf : f ∈ tab) : f.2.length ≤ 4 := by
  rw [← List.length_map (f := (·.1)) (as := f.2)]
  exact nodup_sub (ks := wrds4) (h.wnd f hf) fun x hx => by
    obtain ⟨wp, hwp, rfl⟩ := List.mem_map.mp hx
    exact h.wn f hf wp hwp
theorem DrOk.tl (h : DrOk makes tab) : tab.length ≤ 3 := by
  rw [← List.length_map (f := (·.1)) (as := tab)]
  exact nodup_sub (ks := flds3) h.nd fun x hx => by
    obtain ⟨f, hf, rfl⟩ := List.mem_map.mp hx
    exact h.fn f hf
theorem DrOk.post (h : DrOk makes tab) {f : List Nat × Words} (hf : f ∈ tab) {wp : List Nat × Posts} (hw : wp ∈ f.2) : ∀ p ∈ wp.2, 0 ≤ p.1 ∧ p.1 ≤ 1000 ∧ p.2.length ≤ 3 ∧ ∀ x ∈ p.2, 0 ≤ x ∧ x < 4 := fun p hp => by
  obtain ⟨p1, _, _, p4⟩ := h.ps f hf wp hw
  have h1 := p1.1 p hp
  have h2 := p4 p hp
  exact ⟨h1.1, h2.1, h2.2.1, fun x hx => ⟨h1.2.2.1 x hx, h2.2.2 x hx⟩⟩
theorem DrOk.lenOf (h : DrOk makes tab) {f : List Nat × Words} (hf : f ∈ tab) (m : Int) : (gath f.2 m).length ≤ 36 := by
  have h1 := gath_le (m := m) (k := 9) (ws := f.2) fun wp hw => by
    have h2 := gathP_le (m := m) (k := 3) (ps := wp.2) fun p hp => (h.post hf hw p hp).2.2.1
    have h3 := (h.ps f hf wp hw).2.2.1
    omega
  have := h.wl hf
  omega
theorem DrOk.pbLen (h : DrOk makes tab) : (pb makes tab).length ≤ 300 := by
  have h1 : (placesB 0 makes).length ≤ 6 := by
    have := placesB_two (l := 0) (xs := makes) (by omega) fun x hx => ⟨h.ris.1 x hx, h.mkb x hx⟩
    have := h.mk3
    omega
  have h2 := numB_one (n := makes.length) (by have := h.mk3; omega)
  have h3 := numB_one (n := tab.length) (by have := h.tl; omega)
  have h4 : (tab.flatMap fun f => fb makes tab f.1).length ≤ 97 * tab.length := flat_le fun f hf => by
    have hfd : wordsIn tab f.1 = f.2 := by
      unfold wordsIn
      rw [findA_nd h.nd hf]
      rfl
    have o1 : ∀ x ∈ flds3, x.length ≤ 4 := by decide
    have o2 : ∀ x ∈ wrds4, x.length ≤ 2 := by decide
    have t1 := o1 _ (h.fn f hf)
    have t2 := textB_le (w := f.1) (by omega)
    have t3 : (lens2 makes tab f.1).length ≤ 1 * makes.length := flat_le fun m hm => by
      unfold FC.lenOf
      rw [hfd]
      have := h.lenOf hf m
      show (numB _).length ≤ 1
      rw [numB_one]
      · exact Nat.le_refl _
      · omega
    have t4 := numB_one (n := f.2.length) (by have := h.wl hf; omega)
    have t5 : (wordsKB f.2).length ≤ 22 * f.2.length := flat_le fun wp hw => by
      have w1 := o2 _ (h.wn f hf wp hw)
      have w2 := textB_le (w := wp.1) (by omega)
      have w3 := (h.ps f hf wp hw).2.2.1
      have w4 := numB_one (n := wp.2.length) (by omega)
      have w5 := postsKB_le (l := 0) (ps := wp.2) (by omega) (h.post hf hw)
      unfold postsB lenI
      simp only [List.length_append]
      omega
    have t6 := h.wl hf
    have t7 := h.mk3
    show (fb makes tab f.1).length ≤ 97
    unfold fb wordsB lenI
    rw [hfd]
    simp only [List.length_append]
    omega
  have h5 := h.tl
  unfold pb lenI
  simp only [List.length_append]
  omega
end
/-! ### what was read -/
theorem posts_in : ∀ {l : Int} {ps : Posts} {p : Int × List Int}, p ∈ ps → p.2.length ≤ (postsKB l ps).length
  | l, (m, xs) :: ps, p, h => by
    show _ ≤ (numB (m - l).toNat ++ (numB xs.length ++ (placesB 0 xs ++ postsKB m ps))).length
    simp only [List.length_append]
    rcases List.mem_cons.mp h with z | z
    · rw [z]
      have := placesB_len 0 xs
      dsimp only
      omega
    · have := posts_in (l := m) z
      omega
theorem postsKB_ge : ∀ {l : Int} {ps : Posts}, (∀ p ∈ ps, p.2 ≠ []) → 3 * ps.length ≤ (postsKB l ps).length
  | _, [], _ => Nat.le_refl _
  | l, (m, xs) :: ps, h => by
    have h1 := postsKB_ge (l := m) (ps := ps) fun y hy => h y (List.mem_cons_of_mem _ hy)
    have h2 := numB_pos (m - l).toNat
    have h3 := placesB_len 0 xs
    have h4 := numB_pos xs.length
    have h5 : 0 < xs.length := List.length_pos_iff.mpr (h (m, xs) List.mem_cons_self)
    show _ ≤ (numB (m - l).toNat ++ (numB xs.length ++ (placesB 0 xs ++ postsKB m ps))).length
    simp only [List.length_append, List.length_cons]
    omega
structure RowTab (makes : List Int) (fs : List Field) : Prop where
  ok : TabOk (tabOf fs)
  good : TabGood (tabOf fs)
  small : ∀ f ∈ tabOf fs, ∀ wp ∈ f.2, wp.2.length ≤ 1000 ∧ ∀ p ∈ wp.2, p.2.length ≤ 1000
  ml : makes.length ≤ 1000
theorem PieceOk.row {makes : List Int} {fs : List Field} (h : PieceOk makes fs) (hl : (pieceB makes fs).length ≤ 360) : RowTab makes fs := by
  have hz : (numB makes.length).length + ((placesB 0 makes).length + ((numB fs.length).length + (fs.flatMap fieldB).length)) ≤ 360 := by
    unfold pieceB lenI at hl
    simpa only [List.length_append] using hl
  have wge : ∀ f ∈ fs, 6 * f.2.2.length ≤ (wordsKB f.2.2).length := fun f hf => flat_ge fun wp hw => by
    obtain ⟨_, _, _, _, _, w, _⟩ := h.fok f hf
    obtain ⟨a1, a2, a3, a4⟩ := w.1 wp hw
    have hne : wp.1 ≠ [] := by
      rintro z
      rw [z] at a1
      cases a1
    have h1 := textB_ge wp.1
    have h2 : 0 < wp.1.length := List.length_pos_iff.mpr hne
    have h3 : 0 < wp.2.length := List.length_pos_iff.mpr a3
    have h4 := postsKB_ge (l := 0) (ps := wp.2) fun p hp => (a4.1 p hp).2.1
    have h5 := numB_pos wp.2.length
    show 6 ≤ (textB wp.1 ++ postsB wp.2).length
    unfold postsB lenI
    simp only [List.length_append]
    omega
  have fle : ∀ f ∈ fs, (wordsKB f.2.2).length ≤ 360 := fun f hf => by
    have h1 := flat_in (g := fieldB) hf
    have h2 : (wordsKB f.2.2).length ≤ (fieldB f).length := by
      unfold fieldB wordsB
      simp only [List.length_append]
      omega
    omega
  have fge : 6 * fs.length ≤ (fs.flatMap fieldB).length := flat_ge fun f hf => by
    obtain ⟨_, _, _, _, hne, _, _⟩ := h.fok f hf
    have h1 := wge f hf
    have h2 : 0 < f.2.2.length := List.length_pos_iff.mpr hne
    unfold fieldB wordsB
    simp only [List.length_append]
    omega
  refine ⟨⟨?_, List.Pairwise.map _ (fun _ _ z => z) h.frise, fun g hg => ?_⟩, fun g hg => ?_, fun g hg wp hw => ?_, ?_⟩
  · rw [List.length_map]
    omega
  · obtain ⟨f, hf, rfl⟩ := List.mem_map.mp hg
    have h1 := wge f hf
    have h2 := fle f hf
    exact ⟨by show f.2.2.length < 64; omega, (h.fok f hf).2.2.2.2.2.1.2⟩
  · obtain ⟨f, hf, rfl⟩ := List.mem_map.mp hg
    exact ⟨(h.fok f hf).2.1, (h.fok f hf).2.2.2.2.2.1⟩
  · obtain ⟨f, hf, rfl⟩ := List.mem_map.mp hg
    have h2 := fle f hf
    have h3 : (textB wp.1 ++ postsB wp.2).length ≤ (wordsKB f.2.2).length := flat_in (g := fun wp : List Nat × Posts => textB wp.1 ++ postsB wp.2) hw
    have h4 := postsB_len wp.2
    rw [List.length_append] at h3
    refine ⟨by omega, fun p hp => ?_⟩
    have h5 := posts_in (l := 0) hp
    unfold postsB at h3
    rw [List.length_append] at h3
    omega
  · have := placesB_len 0 makes
    omega
end FC
/-! M4: where the signs of "odd" stand in a drawn row. -/
namespace FC
open PySem PySem.Spec PyProof.Rows L2
abbrev nth (L : List Int) (i : Nat) : Int := L.getD i (-7)
def Dd (x : Int) : Prop := x = 100 ∨ x = 111
theorem nth_nil (i : Nat) : nth [] i = -7 := rfl
theorem nth_zero (b : Int) (L : List Int) : nth (b :: L) 0 = b := rfl
theorem nth_succ (b : Int) (L : List Int) (i : Nat) : nth (b :: L) (i + 1) = nth L i := rfl
theorem nth_lt {A B : List Int} {i : Nat} (h : i < A.length) : nth (A ++ B) i = nth A i := by
  unfold nth
  rw [List.getD_eq_getElem?_getD, List.getD_eq_getElem?_getD, List.getElem?_append_left h]
theorem nth_ge {A B : List Int} {i : Nat} (h : A.length ≤ i) : nth (A ++ B) i = nth B (i - A.length) := by
  unfold nth
  rw [List.getD_eq_getElem?_getD, List.getD_eq_getElem?_getD, List.getElem?_append_right h]
theorem nth_out {A : List Int} {i : Nat} (h : A.length ≤ i) : nth A i = -7 := by
  unfold nth
  rw [List.getD_eq_getElem?_getD, List.getElem?_eq_none h]
  rfl
theorem nd_lt {x : Int} (h : x < 100) : ¬ Dd x := by unfold Dd; omega
theorem nd_gt {x : Int} (h : 111 < x) : ¬ Dd x := by unfold Dd; omega
theorem not_d7 : ¬ Dd (-7) := by unfold Dd; omega
/-- g: how many other bytes stand ahead, up to the last such sign -/
inductive Tok : Nat → List Int → Prop where
  | nil (g : Nat) : Tok g []
  | x {g : Nat} {b : Int} {L : List Int} (h : ¬ Dd b) (t : Tok (g + 1) L) : Tok g (b :: L)
  | d {g : Nat} {b : Int} {L : List Int} (hg : 2 ≤ g) (t : Tok 0 L) : Tok g (b :: L)
  | body {g : Nat} {L : List Int} (t : Tok 1 L) : Tok g (4 :: 98 :: 111 :: 100 :: 121 :: L)
structure TokOk (g : Nat) (L : List Int) : Prop where
  c : ∀ j, Dd (nth L j) → 2 ≤ j + g
  a : ∀ j, Dd (nth L j) → Dd (nth L (j + 1)) → ∃ i, j = i + 2 ∧ nth L j = 111 ∧ nth L (j + 1) = 100 ∧ nth L (i + 1) = 98 ∧ nth L i = 4
  b : ∀ j, Dd (nth L j) → ¬ Dd (nth L (j + 2))
theorem Tok.ok {g : Nat} {L : List Int} (h : Tok g L) : TokOk g L := by
  induction h with
  | nil g => exact ⟨fun j h => absurd h not_d7, fun j h => absurd h not_d7, fun j h => absurd h not_d7⟩
  | @x g b L h t ih =>
    refine ⟨fun j hj => ?_, fun j hj hk => ?_, fun j hj => ?_⟩
    · cases j with
      | zero => exact absurd hj h
      | succ j => have := ih.c j hj; omega
    · cases j with
      | zero => exact absurd hj h
      | succ j =>
        obtain ⟨i, rfl, h1, h2, h3, h4⟩ := ih.a j hj hk
        exact ⟨i + 1, rfl, h1, h2, h3, h4⟩
    · cases j with
      | zero => exact absurd hj h
      | succ j => exact ih.b j hj
  | @d g b L hg t ih =>
    refine ⟨fun j hj => ?_, fun j hj hk => ?_, fun j hj => ?_⟩
    · cases j with
      | zero => omega
      | succ j => have := ih.c j hj; omega
    · cases j with
      | zero => have := ih.c 0 hk; omega
      | succ j =>
        obtain ⟨i, rfl, h1, h2, h3, h4⟩ := ih.a j hj hk
        exact ⟨i + 1, rfl, h1, h2, h3, h4⟩
    · cases j with
      | zero => intro z; have := ih.c 1 z; omega
      | succ j => exact ih.b j hj
  | @body g L t ih =>
    have e4 : ¬ Dd 4 := by unfold Dd; omega
    have e98 : ¬ Dd 98 := by unfold Dd; omega
    have e121 : ¬ Dd 121 := by unfold Dd; omega
    refine ⟨fun j hj => ?_, fun j hj hk => ?_, fun j hj => ?_⟩
    · match j, hj with
      | 0, hj => exact absurd hj e4
      | 1, hj => exact absurd hj e98
      | j + 2, _ => omega
    · match j, hj, hk with
      | 0, hj, _ => exact absurd hj e4
      | 1, hj, _ => exact absurd hj e98
      | 2, _, _ => exact ⟨0, rfl, rfl, rfl, rfl, rfl⟩
      | 3, _, hk => exact absurd hk e121
      | 4, hj, _ => exact absurd hj e121
      | j + 5, hj, hk =>
        obtain ⟨i, rfl, h1, h2, h3, h4⟩ := ih.a j hj hk
        exact ⟨i + 5, rfl, h1, h2, h3, h4⟩
    · match j, hj with
      | 0, hj => exact absurd hj e4
      | 1, hj => exact absurd hj e98
      | 2, _ => exact e121
      | 3, _ => intro z; have := ih.c 0 z; omega
      | 4, hj => exact absurd hj e121
      | j + 5, hj => exact ih.b j hj
/-! ### the parts of a drawn row -/
theorem num_one {n : Int} (h : 0 ≤ n) (h2 : n < 128) : numI n = [n] := by
  unfold numI
  rw [numB_lt (by omega), Int.toNat_of_nonneg h]
theorem num_two {n : Int} (h : 0 ≤ n) (h2 : n ≤ 1000) : numI n = [n] ∨ ∃ x y, numI n = [x, y] ∧ 128 ≤ x ∧ 0 ≤ y ∧ y ≤ 7 := by
  by_cases h3 : n < 128
  · exact .inl (num_one h h3)
  · refine .inr ⟨((n.toNat % 128 + 128 : Nat) : Int), ((n.toNat / 128 : Nat) : Int), ?_, by omega, by omega, by omega⟩
    unfold numI
    rw [numB_ge (by omega), numB_lt (by omega)]
theorem Tok.small {g : Nat} {n : Int} {L : List Int} (h : 0 ≤ n) (h2 : n < 100) (t : Tok (g + 1) L) : Tok g (numI n ++ L) := by
  rw [num_one h (by omega)]
  exact .x (by unfold Dd; omega) t
theorem Tok.smallN {g : Nat} {n : Nat} {L : List Int} (h2 : n < 100) (t : Tok (g + 1) L) : Tok g (numB n ++ L) := Tok.small (n := (n : Int)) (by omega) (by omega) t
/-- from far on -/
def Far (L : List Int) : Prop := ∀ g, 2 ≤ g → Tok g L
theorem tok_places {L : List Int} (k : Far L) : ∀ {xs : List Int} {l : Int} {g : Nat}, 0 ≤ l → l < 4 → (∀ x ∈ xs, 0 ≤ x ∧ x < 4) → xs.Pairwise (· < ·) → (∀ x ∈ xs, l ≤ x) → 2 ≤ g + xs.length → Tok g (placesB l xs ++ L)
  | [], l, g, h0, h4, h, hp, hl, hg => k g hg
  | a :: xs, l, g, h0, h4, h, hp, hl, hg => by
    have hx := h a List.mem_cons_self
    have hlx := hl a List.mem_cons_self
    have hp' := List.pairwise_cons.mp hp
    show Tok g ((numI (a - l) ++ placesB a xs) ++ L)
    rw [List.append_assoc]
    refine Tok.small (by omega) (by omega) (tok_places k hx.1 hx.2 (fun y hy => h y (List.mem_cons_of_mem _ hy)) hp'.2 (fun y hy => Int.le_of_lt (hp'.1 y hy)) ?_)
    rw [List.length_cons] at hg
    omega
theorem textB_small {w : List Nat} (h : w.length < 128) : textB w = (w.length : Int) :: codes w := by
  unfold textB lenI
  rw [numB_lt h]
  rfl
theorem Far.posts {L : List Int} (k : Far L) : ∀ {ps : Posts} {l : Int}, 0 ≤ l → (∀ p ∈ ps, l ≤ p.1) → ps.Pairwise (fun p q => p.1 < q.1) → (∀ p ∈ ps, p.1 ≤ 1000 ∧ p.2 ≠ [] ∧ p.2.length ≤ 3 ∧ (∀ x ∈ p.2, 0 ≤ x ∧ x < 4) ∧ p.2.Pairwise (· < ·)) → Far (postsKB l ps ++ L)
  | [], _, _, _, _, _ => k
  | (m, xs) :: ps, l, h0, hl, hp, h => by
    intro g hg
    have hm := hl (m, xs) List.mem_cons_self
    obtain ⟨a1, a2, a3, a4, a5⟩ := h (m, xs) List.mem_cons_self
    dsimp only at hm a1 a2 a3 a4 a5
    have hp' := List.pairwise_cons.mp hp
    have rest := Far.posts k (ps := ps) (l := m) (by omega) (fun p hq => Int.le_of_lt (hp'.1 p hq)) hp'.2 fun p hq => h p (List.mem_cons_of_mem _ hq)
    have hne : 0 < xs.length := List.length_pos_iff.mpr a2
    have tail : ∀ g, Tok g ((lenI xs ++ (placesB 0 xs ++ postsKB m ps)) ++ L) := fun g => by
      rw [List.append_assoc, List.append_assoc]
      exact Tok.smallN (by omega) (tok_places rest (by omega) (by omega) a4 a5 (fun x hx => (a4 x hx).1) (by omega))
    show Tok g ((numI (m - l) ++ (lenI xs ++ (placesB 0 xs ++ postsKB m ps))) ++ L)
    rw [List.append_assoc]
    rcases num_two (n := m - l) (by omega) (by omega) with e | ⟨x, y, e, e1, e2, e3⟩
    · rw [e]
      exact .d hg (tail 0)
    · rw [e]
      exact .x (by unfold Dd; omega) (.x (by unfold Dd; omega) (tail _))
section
variable {makes : List Int} {tab : Tab}
theorem DrOk.posts (h : DrOk makes tab) {f : List Nat × Words} (hf : f ∈ tab) {wp : List Nat × Posts} (hw : wp ∈ f.2) {L : List Int} (k : Far L) : Far (postsKB 0 wp.2 ++ L) := by
  obtain ⟨p1, p2, p3, p4⟩ := h.ps f hf wp hw
  refine k.posts (by omega) (fun p hp => (p1.1 p hp).1) p1.2 fun p hp => ?_
  have h1 := p1.1 p hp
  have h2 := p4 p hp
  exact ⟨h2.1, h1.2.1, h2.2.1, fun x hx => ⟨h1.2.2.1 x hx, h2.2.2 x hx⟩, h1.2.2.2⟩
theorem DrOk.words (h : DrOk makes tab) {f : List Nat × Words} (hf : f ∈ tab) {L : List Int} (k : Far L) : ∀ {ws : Words}, (∀ wp ∈ ws, wp ∈ f.2) → Far (wordsKB ws ++ L)
  | [], _ => k
  | wp :: ws, hs => by
    intro g hg
    have hw := hs wp List.mem_cons_self
    have rest := DrOk.words h hf k (ws := ws) fun q hq => hs q (List.mem_cons_of_mem _ hq)
    obtain ⟨p1, p2, p3, p4⟩ := h.ps f hf wp hw
    have tail : ∀ g, 2 ≤ g → Tok g (postsB wp.2 ++ (wordsKB ws ++ L)) := fun g hg => by
      unfold postsB
      rw [List.append_assoc]
      exact Tok.smallN (by omega) (h.posts hf hw rest _ (by omega))
    have hwn := h.wn f hf wp hw
    show Tok g (((textB wp.1 ++ postsB wp.2) ++ wordsKB ws) ++ L)
    rw [List.append_assoc, List.append_assoc]
    unfold wrds4 at hwn
    simp only [List.mem_cons, List.not_mem_nil, or_false] at hwn
    rcases hwn with e | e | e | e <;> rw [e, textB_small (by decide)]
    · show Tok g (2 :: 97 :: 98 :: _)
      exact .x (nd_lt (by decide)) (.x (nd_lt (by decide)) (.x (nd_lt (by decide)) (tail _ (by omega))))
    · show Tok g (1 :: 98 :: _)
      exact .x (nd_lt (by decide)) (.x (nd_lt (by decide)) (tail _ (by omega)))
    · show Tok g (2 :: 97 :: 49 :: _)
      exact .x (nd_lt (by decide)) (.x (nd_lt (by decide)) (.x (nd_lt (by decide)) (tail _ (by omega))))
    · show Tok g (1 :: 48 :: _)
      exact .x (nd_lt (by decide)) (.x (nd_lt (by decide)) (tail _ (by omega)))
theorem tok_lens {L : List Int} {f : List Nat} : ∀ {ms : List Int} {g : Nat}, (∀ m ∈ ms, 0 ≤ FC.lenOf tab m f ∧ FC.lenOf tab m f < 100) → (∀ g', g ≤ g' → Tok g' L) → Tok g (lens2 ms tab f ++ L)
  | [], g, _, k => k g (Nat.le_refl _)
  | m :: ms, g, h, k => by
    have hm := h m List.mem_cons_self
    show Tok g ((numI (FC.lenOf tab m f) ++ lens2 ms tab f) ++ L)
    rw [List.append_assoc]
    exact Tok.small hm.1 hm.2 (tok_lens (fun q hq => h q (List.mem_cons_of_mem _ hq)) fun g' hg => k g' (by omega))
theorem DrOk.field (h : DrOk makes tab) {f : List Nat × Words} (hf : f ∈ tab) {L : List Int} (k : Far L) : ∀ g, Tok g (fb makes tab f.1 ++ L) := by
  intro g
  have hfd : wordsIn tab f.1 = f.2 := by
    unfold wordsIn
    rw [findA_nd h.nd hf]
    rfl
  have rest : Far (wordsKB f.2 ++ L) := h.words hf k fun _ z => z
  have hwl := h.wl hf
  have tail : ∀ g, 1 ≤ g → Tok g ((lens2 makes tab f.1 ++ wordsB (wordsIn tab f.1)) ++ L) := fun g hg => by
    rw [hfd, List.append_assoc]
    unfold wordsB
    rw [List.append_assoc]
    refine tok_lens (fun m hm => ?_) fun g' hg' => Tok.smallN (by omega) (rest _ (by omega))
    unfold FC.lenOf
    rw [hfd]
    have := h.lenOf hf m
    omega
  have hfn := h.fn f hf
  unfold fb
  rw [List.append_assoc]
  unfold flds3 at hfn
  simp only [List.mem_cons, List.not_mem_nil, or_false] at hfn
  rcases hfn with e | e | e <;> rw [e] at tail ⊢ <;> rw [textB_small (by decide)]
  · show Tok g (1 :: 97 :: _)
    exact .x (nd_lt (by decide)) (.x (nd_lt (by decide)) (tail _ (by omega)))
  · show Tok g (2 :: 97 :: 98 :: _)
    exact .x (nd_lt (by decide)) (.x (nd_lt (by decide)) (.x (nd_lt (by decide)) (tail _ (by omega))))
  · show Tok g (4 :: 98 :: 111 :: 100 :: 121 :: _)
    exact .body (tail _ (by omega))
theorem DrOk.flds (h : DrOk makes tab) : ∀ {t : Tab}, (∀ f ∈ t, f ∈ tab) → ∀ g, Tok g (t.flatMap fun f => fb makes tab f.1)
  | [], _, g => .nil g
  | f :: t, hs, g => by
    rw [List.flatMap_cons]
    exact h.field (hs f List.mem_cons_self) (fun g _ => h.flds (fun q hq => hs q (List.mem_cons_of_mem _ hq)) g) g
/-- what is so of the row of a drawn piece from place 6 on -/
structure Row6 (R : Nat → Int) : Prop where
  a : ∀ i, 4 ≤ i → Dd (R (i + 2)) → Dd (R (i + 3)) → R (i + 2) = 111 ∧ R (i + 3) = 100 ∧ R (i + 1) = 98 ∧ R i = 4
  b : ∀ i, 6 ≤ i → Dd (R i) → ¬ Dd (R (i + 2))
theorem head6 {xs : List Int} (h3 : xs.length ≤ 3) (hp : xs.Pairwise (· < ·)) (h : ∀ x ∈ xs, 0 ≤ x ∧ x ≤ 1000) : (placesB 0 xs).length ≤ 6 ∧ ∀ i, 5 ≤ i → ¬ Dd (nth (placesB 0 xs) i) := by
  have hl := placesB_two (l := 0) (xs := xs) (by omega) h
  refine ⟨by omega, fun i hi => ?_⟩
  by_cases h6 : 6 ≤ i
  · rw [nth_out (by omega)]
    exact not_d7
  have e5 : i = 5 := by omega
  subst e5
  match xs, h3, hp, h with
  | [], _, _, _ => exact not_d7
  | [a], _, _, h =>
    have ha := h a (by simp)
    have := numB_two (n := (a - 0).toNat) (by omega)
    rw [nth_out]
    · exact not_d7
    · show (numB (a - 0).toNat ++ []).length ≤ 5
      rw [List.append_nil]
      omega
  | [a, b], _, _, h =>
    have ha := h a (by simp)
    have hb := h b (by simp)
    have h1 := numB_two (n := (a - 0).toNat) (by omega)
    have h2 := numB_two (n := (b - a).toNat) (by omega)
    rw [nth_out]
    · exact not_d7
    · show (numB (a - 0).toNat ++ (numB (b - a).toNat ++ [])).length ≤ 5
      simp only [List.length_append, List.length_nil]
      omega
  | [a, b, c], _, hp, h =>
    have ha := h a (by simp)
    have hb := h b (by simp)
    have hc := h c (by simp)
    have hab : a < b := (List.pairwise_cons.mp hp).1 b (by simp)
    have hbc : b < c := (List.pairwise_cons.mp (List.pairwise_cons.mp hp).2).1 c (by simp)
    show ¬ Dd (nth (numI (a - 0) ++ (numI (b - a) ++ (numI (c - b) ++ []))) 5)
    rcases num_two (n := a - 0) (by omega) (by omega) with e1 | ⟨x1, y1, e1, _, _, _⟩ <;> rcases num_two (n := b - a) (by omega) (by omega) with e2 | ⟨x2, y2, e2, _, _, _⟩ <;> rcases num_two (n := c - b) (by omega) (by omega) with e3 | ⟨x3, y3, e3, _, _, _⟩ <;> rw [e1, e2, e3]
    all_goals first
      | exact not_d7
      | (show ¬ Dd y3
         unfold Dd
         omega)
theorem DrOk.row6 (h : DrOk makes tab) : Row6 (nth (pb makes tab)) := by
  obtain ⟨h1, h2⟩ := head6 h.mk3 h.ris.2 fun x hx => ⟨h.ris.1 x hx, h.mkb x hx⟩
  have hm := h.mk3
  have ht := h.tl
  obtain ⟨T, eT⟩ : ∃ T, T = lenI tab ++ tab.flatMap fun f => fb makes tab f.1 := ⟨_, rfl⟩
  have tok : TokOk 0 T := by
    rw [eT]
    exact (Tok.smallN (by omega) (h.flds (fun _ z => z) 1)).ok
  obtain ⟨Hd, eH⟩ : ∃ Hd, Hd = lenI makes ++ placesB 0 makes := ⟨_, rfl⟩
  have n1 : lenI makes = [(makes.length : Int)] := numB_lt (by omega)
  have eR : pb makes tab = Hd ++ T := by
    rw [eH, eT]
    unfold pb
    rw [List.append_assoc]
  have hH : Hd.length ≤ 7 := by
    rw [eH, n1, List.length_append]
    show 1 + _ ≤ 7
    omega
  have dH : ∀ i, 6 ≤ i → ¬ Dd (nth Hd i) := fun i hi => by
    obtain ⟨j, rfl⟩ : ∃ j, i = j + 1 := ⟨i - 1, by omega⟩
    rw [eH, n1]
    exact h2 j (by omega)
  have inT : ∀ i, 6 ≤ i → Dd (nth (Hd ++ T) i) → Hd.length ≤ i := fun i hi hd => by
    by_cases hlt : i < Hd.length
    · rw [nth_lt hlt] at hd
      exact absurd hd (dH i hi)
    · omega
  rw [eR]
  refine ⟨fun i hi d1 d2 => ?_, fun i hi d1 d2 => ?_⟩
  · have l1 := inT (i + 2) (by omega) d1
    rw [nth_ge l1] at d1
    rw [nth_ge (by omega)] at d2
    rw [show i + 3 - Hd.length = (i + 2 - Hd.length) + 1 by omega] at d2
    obtain ⟨k, hk, a1, a2, a3, a4⟩ := tok.a _ d1 d2
    rw [nth_ge l1, nth_ge (show Hd.length ≤ i + 3 by omega), nth_ge (show Hd.length ≤ i + 1 by omega), nth_ge (show Hd.length ≤ i by omega)]
    refine ⟨a1, ?_, ?_, ?_⟩
    · rw [show i + 3 - Hd.length = (i + 2 - Hd.length) + 1 by omega]
      exact a2
    · rw [show i + 1 - Hd.length = k + 1 by omega]
      exact a3
    · rw [show i - Hd.length = k by omega]
      exact a4
  · have l1 := inT i hi d1
    rw [nth_ge l1] at d1
    rw [nth_ge (by omega), show i + 2 - Hd.length = (i - Hd.length) + 2 by omega] at d2
    exact tok.b _ d1 d2
end
end FC
/-! M5a: bends as maps of places; no two bends bring forth "odd" behind a changed place. -/
namespace FC
open PySem PySem.Spec PyProof.Rows L2
/-- S is R, bent at p -/
inductive Ed (R S : Nat → Int) (p : Nat) : Prop where
  | del (h1 : ∀ k, k < p → S k = R k) (h2 : ∀ k, p ≤ k → S k = R (k + 1))
  | ins (h1 : ∀ k, k < p → S k = R k) (h2 : ∀ k, p ≤ k → S (k + 1) = R k)
  | chg (h1 : ∀ k, k ≠ p → S k = R k)
  | swp (h1 : ∀ k, k ≠ p → k ≠ p + 1 → S k = R k) (h2 : S p = R (p + 1)) (h3 : S (p + 1) = R p)
  | cut (h1 : ∀ k, k < p → S k = R k) (h2 : ∀ k, p ≤ k → S k = -7)
theorem Ed.pre {R S : Nat → Int} {p : Nat} (h : Ed R S p) {k : Nat} (hk : k < p) : S k = R k := by
  cases h with
  | del h1 _ => exact h1 k hk
  | ins h1 _ => exact h1 k hk
  | chg h1 => exact h1 k (by omega)
  | swp h1 _ _ => exact h1 k (by omega) (by omega)
  | cut h1 _ => exact h1 k hk
/-- behind the bend: a shift, or nothing -/
theorem Ed.post {R S : Nat → Int} {p : Nat} (h : Ed R S p) : (∀ k, p + 1 < k → S k = R (k + 1)) ∨ (∀ k, p + 1 < k → S k = R (k - 1)) ∨ (∀ k, p + 1 < k → S k = R k) ∨ (∀ k, p + 1 < k → S k = -7) := by
  cases h with
  | del _ h2 => exact .inl fun k hk => h2 k (by omega)
  | ins _ h2 => exact .inr (.inl fun k hk => by
      have := h2 (k - 1) (by omega)
      rwa [show k - 1 + 1 = k by omega] at this)
  | chg h1 => exact .inr (.inr (.inl fun k hk => h1 k (by omega)))
  | swp h1 _ _ => exact .inr (.inr (.inl fun k hk => h1 k (by omega) (by omega)))
  | cut _ h2 => exact .inr (.inr (.inr fun k hk => h2 k (by omega)))
section
variable {R S U : Nat → Int} {p p1 p2 : Nat}
theorem Row6.a' (hR : Row6 R) {i : Nat} (hi : 6 ≤ i) (d1 : Dd (R i)) (d2 : Dd (R (i + 1))) : R i = 111 ∧ R (i + 1) = 100 ∧ R (i - 1) = 98 ∧ R (i - 2) = 4 := by
  obtain ⟨j, rfl⟩ : ∃ j, i = j + 2 := ⟨i - 2, by omega⟩
  exact hR.a j (by omega) d1 d2
theorem d100 {x : Int} (h : x = 100) : Dd x := .inl h
theorem d111 {x : Int} (h : x = 111) : Dd x := .inr h
/-- two of the signs side by side that are not the body's -/
theorem g1 (hR : Row6 R) (e : Ed R S p) {i : Nat} (hi : 7 ≤ i) (d1 : Dd (S i)) (d2 : Dd (S (i + 1))) (n : ¬ (S i = 111 ∧ S (i + 1) = 100)) : i ≤ p + 1 := by
  refine Nat.le_of_not_lt fun hlt => ?_
  rcases e.post with h | h | h | h
  · rw [h i hlt] at d1 n
    rw [h (i + 1) (by omega)] at d2 n
    have := hR.a' (i := i + 1) (by omega) d1 d2
    exact n ⟨this.1, this.2.1⟩
  · rw [h i hlt] at d1 n
    rw [h (i + 1) (by omega), show i + 1 - 1 = (i - 1) + 1 by omega] at d2 n
    have := hR.a' (i := i - 1) (by omega) d1 d2
    exact n ⟨this.1, this.2.1⟩
  · rw [h i hlt] at d1 n
    rw [h (i + 1) (by omega)] at d2 n
    have := hR.a' (by omega) d1 d2
    exact n ⟨this.1, this.2.1⟩
  · rw [h i hlt] at d1
    exact not_d7 d1
theorem g2 (hR : Row6 R) (e : Ed R S p) {i : Nat} (hi : 7 ≤ i) (d1 : Dd (S i)) (d2 : Dd (S (i + 2))) : i ≤ p + 1 := by
  refine Nat.le_of_not_lt fun hlt => ?_
  rcases e.post with h | h | h | h
  · rw [h i hlt] at d1
    rw [h (i + 2) (by omega)] at d2
    exact hR.b (i + 1) (by omega) d1 d2
  · rw [h i hlt] at d1
    rw [h (i + 2) (by omega), show i + 2 - 1 = (i - 1) + 2 by omega] at d2
    exact hR.b (i - 1) (by omega) d1 d2
  · rw [h i hlt] at d1
    rw [h (i + 2) (by omega)] at d2
    exact hR.b i (by omega) d1 d2
  · rw [h i hlt] at d1
    exact not_d7 d1
/-- 3, 111, 100 -/
theorem v3 (hR : Row6 R) (e : Ed R S p) {i : Nat} (hi : 6 ≤ i) (e0 : S i = 3) (e1 : S (i + 1) = 111) (e2 : S (i + 2) = 100) : i ≤ p := by
  refine Nat.le_of_not_lt fun hlt => ?_
  cases e with
  | del h1 h2 =>
    rw [h2 i (by omega)] at e0
    rw [h2 (i + 1) (by omega)] at e1
    rw [h2 (i + 2) (by omega)] at e2
    have := hR.a' (i := i + 2) (by omega) (d111 e1) (d100 e2)
    have h := this.2.2.1
    rw [show i + 2 - 1 = i + 1 by omega] at h
    omega
  | ins h1 h2 =>
    obtain ⟨j, rfl⟩ : ∃ j, i = j + 1 := ⟨i - 1, by omega⟩
    rw [h2 j (by omega)] at e0
    rw [h2 (j + 1) (by omega)] at e1
    rw [h2 (j + 2) (by omega)] at e2
    have := hR.a' (i := j + 1) (by omega) (d111 e1) (d100 e2)
    have h := this.2.2.1
    rw [show j + 1 - 1 = j by omega] at h
    omega
  | chg h1 =>
    rw [h1 i (by omega)] at e0
    rw [h1 (i + 1) (by omega)] at e1
    rw [h1 (i + 2) (by omega)] at e2
    have := hR.a' (i := i + 1) (by omega) (d111 e1) (d100 e2)
    have h := this.2.2.1
    rw [show i + 1 - 1 = i by omega] at h
    omega
  | swp h1 h2 h3 =>
    rw [h1 (i + 1) (by omega) (by omega)] at e1
    rw [h1 (i + 2) (by omega) (by omega)] at e2
    have := hR.a' (i := i + 1) (by omega) (d111 e1) (d100 e2)
    by_cases hp : i = p + 1
    · subst hp
      rw [h3] at e0
      have h := this.2.2.2
      rw [show p + 1 + 1 - 2 = p by omega] at h
      omega
    · rw [h1 i (by omega) hp] at e0
      have h := this.2.2.1
      rw [show i + 1 - 1 = i by omega] at h
      omega
  | cut h1 h2 =>
    rw [h2 i (by omega)] at e0
    omega
/-- one bend brings forth no window -/
theorem f1 (hR : Row6 R) (e : Ed R S p) {i : Nat} (hi : 6 ≤ i) (e0 : S i = 3) (e1 : S (i + 1) = 111) (e2 : S (i + 2) = 100) (e3 : S (i + 3) = 100) : False := by
  have hp := g1 hR e (i := i + 2) (by omega) (d100 e2) (d100 e3) (fun z => by omega)
  have r98 : R (i + 1) = 111 → R (i + 2) = 100 → R i = 3 → False := fun q1 q2 q3 => by
    have h := (hR.a' (i := i + 1) (by omega) (d111 q1) (d100 q2)).2.2.1
    rw [show i + 1 - 1 = i by omega] at h
    omega
  have adj : ∀ j, 6 ≤ j → R j = 100 → Dd (R (j + 1)) → False := fun j hj q1 q2 => by
    have h := (hR.a' hj (d100 q1) q2).1
    omega
  have r0 : R i = 3 := by rw [← e.pre (show i < p by omega)]; exact e0
  rcases Nat.lt_or_ge (i + 1) p with h1 | h1
  · have r1 : R (i + 1) = 111 := by rw [← e.pre h1]; exact e1
    rcases Nat.lt_or_ge (i + 2) p with h2 | h2
    · exact r98 r1 (by rw [← e.pre h2]; exact e2) r0
    · have hpe : p = i + 2 := by omega
      subst hpe
      cases e with
      | del _ q2 =>
        rw [q2 (i + 2) (by omega)] at e2
        exact hR.b (i + 1) (by omega) (d111 r1) (d100 e2)
      | ins _ q2 =>
        rw [q2 (i + 2) (by omega)] at e3
        exact r98 r1 e3 r0
      | chg q1 =>
        rw [q1 (i + 3) (by omega)] at e3
        exact hR.b (i + 1) (by omega) (d111 r1) (d100 e3)
      | swp _ q2 q3 =>
        rw [q2] at e2
        rw [q3] at e3
        exact adj (i + 2) (by omega) e3 (d100 e2)
      | cut _ q2 =>
        rw [q2 (i + 2) (by omega)] at e2
        omega
  · have hpe : p = i + 1 := by omega
    subst hpe
    cases e with
    | del _ q2 =>
      rw [q2 (i + 1) (by omega)] at e1
      rw [q2 (i + 2) (by omega)] at e2
      have h := (hR.a' (i := i + 2) (by omega) (d111 e1) (d100 e2)).2.2.2
      rw [show i + 2 - 2 = i by omega] at h
      omega
    | ins _ q2 =>
      rw [q2 (i + 1) (by omega)] at e2
      rw [q2 (i + 2) (by omega)] at e3
      exact adj (i + 1) (by omega) e2 (d100 e3)
    | chg q1 =>
      rw [q1 (i + 2) (by omega)] at e2
      rw [q1 (i + 3) (by omega)] at e3
      exact adj (i + 2) (by omega) e2 (d100 e3)
    | swp q1 q2 q3 =>
      rw [q2] at e1
      rw [q3] at e2
      exact adj (i + 1) (by omega) e2 (d111 e1)
    | cut _ q2 =>
      rw [q2 (i + 1) (by omega)] at e1
      omega
/-- 3, any, 111, 100, 100 -/
theorem f3 (hR : Row6 R) (e : Ed R S p) {i : Nat} (hi : 6 ≤ i) (e0 : S i = 3) (e2 : S (i + 2) = 111) (e3 : S (i + 3) = 100) (e4 : S (i + 4) = 100) : False := by
  have hp := g1 hR e (i := i + 3) (by omega) (d100 e3) (d100 e4) (fun z => by omega)
  have r4 : R (i + 2) = 111 → R (i + 3) = 100 → R i = 3 → False := fun q1 q2 q3 => by
    have h := (hR.a' (i := i + 2) (by omega) (d111 q1) (d100 q2)).2.2.2
    rw [show i + 2 - 2 = i by omega] at h
    omega
  have adj : ∀ j, 6 ≤ j → R j = 100 → Dd (R (j + 1)) → False := fun j hj q1 q2 => by
    have h := (hR.a' hj (d100 q1) q2).1
    omega
  have r0 : R i = 3 := by rw [← e.pre (show i < p by omega)]; exact e0
  rcases Nat.lt_or_ge (i + 2) p with h1 | h1
  · have r2 : R (i + 2) = 111 := by rw [← e.pre h1]; exact e2
    rcases Nat.lt_or_ge (i + 3) p with h2 | h2
    · exact r4 r2 (by rw [← e.pre h2]; exact e3) r0
    · have hpe : p = i + 3 := by omega
      subst hpe
      cases e with
      | del _ q2 =>
        rw [q2 (i + 3) (by omega)] at e3
        exact hR.b (i + 2) (by omega) (d111 r2) (d100 e3)
      | ins _ q2 =>
        rw [q2 (i + 3) (by omega)] at e4
        exact r4 r2 e4 r0
      | chg q1 =>
        rw [q1 (i + 4) (by omega)] at e4
        exact hR.b (i + 2) (by omega) (d111 r2) (d100 e4)
      | swp _ q2 q3 =>
        rw [q2] at e3
        rw [q3] at e4
        exact adj (i + 3) (by omega) e4 (d100 e3)
      | cut _ q2 =>
        rw [q2 (i + 3) (by omega)] at e3
        omega
  · have hpe : p = i + 2 := by omega
    subst hpe
    cases e with
    | del _ q2 =>
      rw [q2 (i + 3) (by omega)] at e3
      rw [q2 (i + 4) (by omega)] at e4
      exact adj (i + 4) (by omega) e3 (d100 e4)
    | ins _ q2 =>
      rw [q2 (i + 2) (by omega)] at e3
      rw [q2 (i + 3) (by omega)] at e4
      exact adj (i + 2) (by omega) e3 (d100 e4)
    | chg q1 =>
      rw [q1 (i + 3) (by omega)] at e3
      rw [q1 (i + 4) (by omega)] at e4
      exact adj (i + 3) (by omega) e3 (d100 e4)
    | swp q1 q2 q3 =>
      rw [q2] at e2
      rw [q3] at e3
      exact adj (i + 2) (by omega) e3 (d111 e2)
    | cut _ q2 =>
      rw [q2 (i + 2) (by omega)] at e2
      omega
/-- a window behind two bends: both bends stand at its place or behind -/
theorem both (hR : Row6 R) (a : Ed R S p1) (e : Ed S U p2) {q : Nat} (hq : 7 ≤ q) (e0 : U q = 3) (e1 : U (q + 1) = 111) (e2 : U (q + 2) = 100) (e3 : U (q + 3) = 100) : q ≤ p1 ∧ q ≤ p2 := by
  have n100 : ¬ ((100 : Int) = 111 ∧ (100 : Int) = 100) := by omega
  cases e with
  | del h1 h2 =>
    rcases Nat.lt_or_ge q p2 with c0 | c0
    · rw [h1 q c0] at e0
      rcases Nat.lt_or_ge (q + 1) p2 with c1 | c1
      · rw [h1 (q + 1) c1] at e1
        rcases Nat.lt_or_ge (q + 2) p2 with c2 | c2
        · rw [h1 (q + 2) c2] at e2
          exact ⟨v3 hR a (by omega) e0 e1 e2, by omega⟩
        · rw [h2 (q + 2) c2] at e2
          rw [h2 (q + 3) (by omega)] at e3
          have := g1 hR a (i := q + 3) (by omega) (d100 e2) (d100 e3) (fun z => by have h := z.1; rw [show S (q + 3) = 100 from e2] at h; omega)
          exact ⟨by omega, by omega⟩
      · rw [h2 (q + 2) (by omega)] at e2
        rw [h2 (q + 3) (by omega)] at e3
        have := g1 hR a (i := q + 3) (by omega) (d100 e2) (d100 e3) (fun z => by have h := z.1; rw [show S (q + 3) = 100 from e2] at h; omega)
        exact ⟨by omega, by omega⟩
    · rw [h2 q c0] at e0
      rw [h2 (q + 1) (by omega)] at e1
      rw [h2 (q + 2) (by omega)] at e2
      rw [h2 (q + 3) (by omega)] at e3
      exact (f1 hR a (i := q + 1) (by omega) e0 e1 e2 e3).elim
  | ins h1 h2 =>
    rcases Nat.lt_or_ge p2 q with c | c
    · obtain ⟨j, rfl⟩ : ∃ j, q = j + 1 := ⟨q - 1, by omega⟩
      rw [h2 j (by omega)] at e0
      rw [h2 (j + 1) (by omega)] at e1
      rw [h2 (j + 2) (by omega)] at e2
      rw [h2 (j + 3) (by omega)] at e3
      exact (f1 hR a (i := j) (by omega) e0 e1 e2 e3).elim
    · refine ⟨?_, c⟩
      rcases Nat.lt_or_ge (q + 1) p2 with c1 | c1
      · rw [h1 q (by omega)] at e0
        rw [h1 (q + 1) c1] at e1
        rcases Nat.lt_or_ge (q + 2) p2 with c2 | c2
        · rw [h1 (q + 2) c2] at e2
          exact v3 hR a (by omega) e0 e1 e2
        · rw [h2 (q + 2) c2] at e3
          exact v3 hR a (by omega) e0 e1 e3
      · rw [h2 (q + 1) c1] at e2
        rw [h2 (q + 2) (by omega)] at e3
        have := g1 hR a (i := q + 1) (by omega) (d100 e2) (d100 e3) (fun z => by omega)
        omega
  | chg h1 =>
    by_cases c0 : p2 = q
    · subst c0
      rw [h1 (p2 + 2) (by omega)] at e2
      rw [h1 (p2 + 3) (by omega)] at e3
      have := g1 hR a (i := p2 + 2) (by omega) (d100 e2) (d100 e3) (fun z => by have := z.1; omega)
      exact ⟨by omega, by omega⟩
    · rw [h1 q (by omega)] at e0
      by_cases c1 : p2 = q + 1
      · subst c1
        rw [h1 (q + 2) (by omega)] at e2
        rw [h1 (q + 3) (by omega)] at e3
        have := g1 hR a (i := q + 2) (by omega) (d100 e2) (d100 e3) (fun z => by omega)
        exact ⟨by omega, by omega⟩
      · rw [h1 (q + 1) (by omega)] at e1
        by_cases c2 : p2 = q + 2
        · subst c2
          rw [h1 (q + 3) (by omega)] at e3
          have := g2 hR a (i := q + 1) (by omega) (d111 e1) (d100 e3)
          exact ⟨by omega, by omega⟩
        · rw [h1 (q + 2) (by omega)] at e2
          by_cases c3 : p2 = q + 3
          · exact ⟨v3 hR a (by omega) e0 e1 e2, by omega⟩
          · rw [h1 (q + 3) (by omega)] at e3
            exact (f1 hR a (by omega) e0 e1 e2 e3).elim
  | swp h1 h2 h3 =>
    by_cases c0 : p2 + 1 = q
    · subst c0
      rw [h3] at e0
      rw [h1 (p2 + 1 + 1) (by omega) (by omega)] at e1
      rw [h1 (p2 + 1 + 2) (by omega) (by omega)] at e2
      rw [h1 (p2 + 1 + 3) (by omega) (by omega)] at e3
      exact (f3 hR a (i := p2) (by omega) e0 e1 e2 e3).elim
    · by_cases c1 : p2 = q
      · subst c1
        rw [h1 (p2 + 2) (by omega) (by omega)] at e2
        rw [h1 (p2 + 3) (by omega) (by omega)] at e3
        have := g1 hR a (i := p2 + 2) (by omega) (d100 e2) (d100 e3) (fun z => by omega)
        exact ⟨by omega, by omega⟩
      · rw [h1 q (by omega) (by omega)] at e0
        by_cases c2 : p2 = q + 1
        · subst c2
          rw [h2] at e1
          rw [show q + 2 = q + 1 + 1 by omega, h3] at e2
          have := g1 hR a (i := q + 1) (by omega) (d100 e2) (d111 e1) (fun z => by omega)
          exact ⟨by omega, by omega⟩
        · rw [h1 (q + 1) (by omega) (by omega)] at e1
          by_cases c3 : p2 = q + 2
          · subst c3
            rw [h2] at e2
            rw [show q + 3 = q + 2 + 1 by omega, h3] at e3
            exact (f1 hR a (by omega) e0 e1 e3 e2).elim
          · rw [h1 (q + 2) (by omega) (by omega)] at e2
            by_cases c4 : p2 = q + 3
            · exact ⟨v3 hR a (by omega) e0 e1 e2, by omega⟩
            · rw [h1 (q + 3) (by omega) (by omega)] at e3
              exact (f1 hR a (by omega) e0 e1 e2 e3).elim
  | cut h1 h2 =>
    rcases Nat.lt_or_ge (q + 3) p2 with c | c
    · rw [h1 q (by omega)] at e0
      rw [h1 (q + 1) (by omega)] at e1
      rw [h1 (q + 2) (by omega)] at e2
      rw [h1 (q + 3) c] at e3
      exact (f1 hR a (by omega) e0 e1 e2 e3).elim
    · rw [h2 (q + 3) c] at e3
      omega
/-- at a word's start of a drawn row no two bends bring forth the window -/
theorem start (hR : Row6 R) {q : Nat} (hq : 7 ≤ q) (r0 : ¬ Dd (R q)) (r0' : R q ≠ 3) (r1 : ¬ Dd (R (q + 1))) (r1' : R (q + 1) ≠ 3) (r2 : ¬ Dd (R (q + 2))) (a : Ed R S p1) (e : Ed S U p2) (c1 : q ≤ p1) (c2 : q ≤ p2) (e0 : U q = 3) (e1 : U (q + 1) = 111) (e2 : U (q + 2) = 100) (e3 : U (q + 3) = 100) : False := by
  -- what one bend leaves
  have s1 : (Dd (S q) ∨ S q = 3) → (Dd (S (q + 1)) ∨ Dd (S (q + 2))) → False := fun h0 h12 => by
    cases a with
    | del h1 h2 =>
      rcases Nat.lt_or_ge q p1 with c | c
      · rw [h1 q c] at h0
        rcases h0 with z | z
        · exact r0 z
        · exact r0' z
      · rw [h2 q c] at h0
        rcases h0 with z | z
        · exact r1 z
        · exact r1' z
    | ins h1 h2 =>
      rcases Nat.lt_or_ge q p1 with c | c
      · rw [h1 q c] at h0
        rcases h0 with z | z
        · exact r0 z
        · exact r0' z
      · rw [h2 q c, h2 (q + 1) (by omega)] at h12
        rcases h12 with z | z
        · exact r0 z
        · exact r1 z
    | chg h1 =>
      by_cases c : q = p1
      · rw [h1 (q + 1) (by omega), h1 (q + 2) (by omega)] at h12
        rcases h12 with z | z
        · exact r1 z
        · exact r2 z
      · rw [h1 q c] at h0
        rcases h0 with z | z
        · exact r0 z
        · exact r0' z
    | swp h1 h2 h3 =>
      by_cases c : q = p1
      · subst c
        rw [h2] at h0
        rcases h0 with z | z
        · exact r1 z
        · exact r1' z
      · rw [h1 q c (by omega)] at h0
        rcases h0 with z | z
        · exact r0 z
        · exact r0' z
    | cut h1 h2 =>
      rcases Nat.lt_or_ge q p1 with c | c
      · rw [h1 q c] at h0
        rcases h0 with z | z
        · exact r0 z
        · exact r0' z
      · rw [h2 q c] at h0
        rcases h0 with z | z
        · exact not_d7 z
        · omega
  have s3 : Dd (S (q + 1)) → Dd (S (q + 2)) → False := fun h1' h2' => by
    cases a with
    | del h1 h2 =>
      rcases Nat.lt_or_ge (q + 1) p1 with c | c
      · rw [h1 _ c] at h1'
        exact r1 h1'
      · rw [h2 _ c] at h1'
        exact r2 h1'
    | ins h1 h2 =>
      rcases Nat.lt_or_ge (q + 1) p1 with c | c
      · rw [h1 _ c] at h1'
        exact r1 h1'
      · rw [h2 (q + 1) c] at h2'
        exact r1 h2'
    | chg h1 =>
      by_cases c : q + 1 = p1
      · rw [h1 (q + 2) (by omega)] at h2'
        exact r2 h2'
      · rw [h1 _ c] at h1'
        exact r1 h1'
    | swp h1 h2 h3 =>
      by_cases c : q = p1
      · subst c
        rw [h3] at h1'
        exact r0 h1'
      · by_cases c2 : q + 1 = p1
        · rw [← c2] at h2
          rw [h2] at h1'
          exact r2 h1'
        · rw [h1 _ c2 (by omega)] at h1'
          exact r1 h1'
    | cut h1 h2 =>
      rcases Nat.lt_or_ge (q + 1) p1 with c | c
      · rw [h1 _ c] at h1'
        exact r1 h1'
      · rw [h2 _ c] at h1'
        exact not_d7 h1'
  cases e with
  | del h1 h2 =>
    rcases Nat.lt_or_ge q p2 with c0 | c0
    · rw [h1 q c0] at e0
      rcases Nat.lt_or_ge (q + 1) p2 with d1 | d1
      · rw [h1 _ d1] at e1
        exact s1 (.inr e0) (.inl (d111 e1))
      · rw [h2 _ d1] at e1
        exact s1 (.inr e0) (.inr (d111 e1))
    · -- the window a place further
      rw [h2 q c0] at e0
      rw [h2 (q + 1) (by omega)] at e1
      rw [h2 (q + 2) (by omega)] at e2
      rw [h2 (q + 3) (by omega)] at e3
      exact f1 hR a (i := q + 1) (by omega) e0 e1 e2 e3
  | ins h1 h2 =>
    rcases Nat.lt_or_ge q p2 with c0 | c0
    · rw [h1 q c0] at e0
      rcases Nat.lt_or_ge (q + 1) p2 with d1 | d1
      · rw [h1 _ d1] at e1
        exact s1 (.inr e0) (.inl (d111 e1))
      · rw [h2 (q + 1) d1] at e2
        exact s1 (.inr e0) (.inl (d100 e2))
    · rw [h2 q c0] at e1
      rw [h2 (q + 1) (by omega)] at e2
      exact s1 (.inl (d111 e1)) (.inl (d100 e2))
  | chg h1 =>
    by_cases c0 : q = p2
    · rw [h1 (q + 1) (by omega)] at e1
      rw [h1 (q + 2) (by omega)] at e2
      exact s3 (d111 e1) (d100 e2)
    · rw [h1 q c0] at e0
      by_cases d1 : q + 1 = p2
      · rw [h1 (q + 2) (by omega)] at e2
        exact s1 (.inr e0) (.inr (d100 e2))
      · rw [h1 _ d1] at e1
        exact s1 (.inr e0) (.inl (d111 e1))
  | swp h1 h2 h3 =>
    by_cases c0 : q = p2
    · subst c0
      rw [h1 (q + 2) (by omega) (by omega)] at e2
      rw [h3] at e1
      exact s1 (.inl (d111 e1)) (.inr (d100 e2))
    · rw [h1 q c0 (by omega)] at e0
      by_cases d1 : q + 1 = p2
      · rw [← d1] at h3
        rw [show q + 2 = q + 1 + 1 by omega, h3] at e2
        exact s1 (.inr e0) (.inl (d100 e2))
      · rw [h1 _ d1 (by omega)] at e1
        exact s1 (.inr e0) (.inl (d111 e1))
  | cut h1 h2 =>
    rcases Nat.lt_or_ge (q + 1) p2 with c | c
    · rw [h1 q (by omega)] at e0
      rw [h1 _ c] at e1
      exact s1 (.inr e0) (.inl (d111 e1))
    · rw [h2 _ c] at e1
      omega
end
end FC
/-! M5: a row read has no word "odd", if it was drawn and bent at most twice. -/
namespace FC
open PySem PySem.Spec PyProof.Rows L2
/-! ### bends as maps -/
theorem nth_eq {A B : List Int} {i j : Nat} (h : A[i]? = B[j]?) : nth A i = nth B j := by
  unfold nth
  rw [List.getD_eq_getElem?_getD, List.getD_eq_getElem?_getD, h]
theorem Bend.ed {R S : List Int} (h : Bend R S) : ∃ p, Ed (nth R) (nth S) p ∧ S.take p = R.take p := by
  cases h with
  | cut a h =>
    refine ⟨a, .cut (fun k hk => nth_eq ?_) (fun k hk => nth_out ?_), by rw [List.take_take, Nat.min_self]⟩
    · rw [List.getElem?_take_of_lt hk]
    · rw [List.length_take]
      omega
  | del a h =>
    have hl : (R.take a).length = a := by rw [List.length_take]; omega
    refine ⟨a, .del (fun k hk => nth_eq ?_) (fun k hk => nth_eq ?_), ?_⟩
    · rw [List.getElem?_append_left (by omega), List.getElem?_take_of_lt hk]
    · rw [List.getElem?_append_right (by omega), hl, List.getElem?_drop]
      congr 1
      omega
    · rw [List.take_append_of_le_length (by omega), List.take_take, Nat.min_self]
  | ins a b h =>
    have hl : (R.take a).length = a := by rw [List.length_take]; omega
    refine ⟨a, .ins (fun k hk => nth_eq ?_) (fun k hk => nth_eq ?_), ?_⟩
    · rw [List.append_assoc, List.getElem?_append_left (by omega), List.getElem?_take_of_lt hk]
    · rw [List.getElem?_append_right (by rw [List.length_append, hl]; show a + 1 ≤ k + 1; omega), List.length_append, hl, List.getElem?_drop]
      congr 1
      show a + (k + 1 - (a + 1)) = k
      omega
    · rw [List.append_assoc, List.take_append_of_le_length (by omega), List.take_take, Nat.min_self]
  | app b =>
    refine ⟨R.length, .ins (fun k hk => nth_eq ?_) (fun k hk => ?_), ?_⟩
    · rw [List.getElem?_append_left hk]
    · rw [nth_out (A := R) hk, nth_out]
      rw [List.length_append]
      show R.length + 1 ≤ k + 1
      omega
    · rw [List.take_append_of_le_length (Nat.le_refl _)]
  | swp a h =>
    have hl : (R.take a).length = a := by rw [List.length_take]; omega
    by_cases h2 : a + 1 < R.length
    · have e1 : (R.drop (a + 1)).take 1 = [R[a + 1]] := by
        rw [List.drop_eq_getElem_cons h2]
        rfl
      have e2 : (R.drop a).take 1 = [R[a]] := by
        rw [List.drop_eq_getElem_cons (show a < R.length by omega)]
        rfl
      rw [e1, e2]
      have hl2 : (R.take a ++ ([R[a + 1]] ++ [R[a]])).length = a + 2 := by
        rw [List.length_append, hl]
        rfl
      refine ⟨a, .swp (fun k hk hk2 => nth_eq ?_) (nth_eq ?_) (nth_eq ?_), ?_⟩
      · by_cases c : k < a
        · rw [List.append_assoc, List.getElem?_append_left (by omega), List.getElem?_take_of_lt c]
        · rw [List.getElem?_append_right (by omega), hl2, List.getElem?_drop]
          congr 1
          omega
      · rw [List.getElem?_append_left (by omega), List.getElem?_append_right (by omega), hl, Nat.sub_self, List.getElem?_eq_getElem h2]
        rfl
      · rw [List.getElem?_append_left (by omega), List.getElem?_append_right (by omega), hl, Nat.add_sub_cancel_left, List.getElem?_eq_getElem (show a < R.length by omega)]
        rfl
      · rw [List.append_assoc, List.take_append_of_le_length (by omega), List.take_take, Nat.min_self]
    · have e1 : (R.drop (a + 1)).take 1 = [] := by
        rw [List.drop_of_length_le (by omega)]
        rfl
      have e2 : (R.drop a).take 1 = R.drop a := List.take_of_length_le (by rw [List.length_drop]; omega)
      have e3 : R.drop (a + 2) = [] := List.drop_of_length_le (by omega)
      rw [e1, e2, e3, List.append_nil, List.nil_append, List.take_append_drop]
      exact ⟨0, .chg fun k _ => rfl, rfl⟩
  | chg a b h =>
    have hl : (R.take a).length = a := by rw [List.length_take]; omega
    refine ⟨a, .chg fun k hk => nth_eq ?_, ?_⟩
    · by_cases c : k < a
      · rw [List.append_assoc, List.getElem?_append_left (by omega), List.getElem?_take_of_lt c]
      · rw [List.getElem?_append_right (by rw [List.length_append, hl]; show a + 1 ≤ k; omega), List.length_append, hl, List.getElem?_drop]
        congr 1
        show a + 1 + (k - (a + 1)) = k
        omega
    · rw [List.append_assoc, List.take_append_of_le_length (by omega), List.take_take, Nat.min_self]
  | non => exact ⟨0, .chg fun k _ => rfl, rfl⟩
theorem BendN.two {R S : List Int} {n : Nat} (h : BendN R n S) (hn : n ≤ 2) : ∃ R1, Bend R R1 ∧ Bend R1 S := by
  cases h with
  | z => exact ⟨R, .non, .non⟩
  | s h b =>
    cases h with
    | z => exact ⟨R, .non, b⟩
    | s h b' =>
      cases h with
      | z => exact ⟨_, b', b⟩
      | s _ _ => omega
/-! ### what begins alike goes on alike -/
theorem pf_num : ∀ {a b : Nat} {x y : List Int}, numB a ++ x = numB b ++ y → a = b ∧ x = y := by
  intro a
  induction a using Nat.strongRecOn with
  | _ a ih =>
    intro b x y h
    by_cases ha : a < 128 <;> by_cases hb : b < 128
    · rw [numB_lt ha, numB_lt hb] at h
      obtain ⟨h1, h2⟩ := List.cons.inj h
      exact ⟨by omega, h2⟩
    · rw [numB_lt ha, numB_ge (n := b) (by omega)] at h
      have := (List.cons.inj h).1
      omega
    · rw [numB_ge (n := a) (by omega), numB_lt hb] at h
      have := (List.cons.inj h).1
      omega
    · rw [numB_ge (n := a) (by omega), numB_ge (n := b) (by omega)] at h
      obtain ⟨h1, h2⟩ := List.cons.inj h
      obtain ⟨h3, h4⟩ := ih (a / 128) (by omega) h2
      exact ⟨by omega, h4⟩
theorem pf_places : ∀ {xs ys : List Int} {l l' : Int} {u v : List Int}, xs.length = ys.length → placesB l xs ++ u = placesB l' ys ++ v → u = v
  | [], [], _, _, _, _, _, h => h
  | [], _ :: _, _, _, _, _, hl, _ => by simp at hl
  | _ :: _, [], _, _, _, _, hl, _ => by simp at hl
  | x :: xs, y :: ys, l, l', u, v, hl, h => by
    have h' : numB (x - l).toNat ++ (placesB x xs ++ u) = numB (y - l').toNat ++ (placesB y ys ++ v) := by
      rw [← List.append_assoc, ← List.append_assoc]
      exact h
    exact pf_places (by simpa using hl) (pf_num h').2
theorem pf_text {w v : List Nat} {x y : List Int} (h : textB w ++ x = textB v ++ y) : x = y := by
  unfold textB at h
  rw [List.append_assoc, List.append_assoc] at h
  obtain ⟨h1, h2⟩ := pf_num h
  exact (List.append_inj h2 (by simpa using h1)).2
theorem pf_lens : ∀ {xs ys : List Int} {u v : List Int}, xs.length = ys.length → lensB xs ++ u = lensB ys ++ v → u = v
  | [], [], _, _, _, h => h
  | [], _ :: _, _, _, hl, _ => by simp at hl
  | _ :: _, [], _, _, hl, _ => by simp at hl
  | x :: xs, y :: ys, u, v, hl, h => by
    have h' : numB x.toNat ++ (lensB xs ++ u) = numB y.toNat ++ (lensB ys ++ v) := by
      rw [← List.append_assoc, ← List.append_assoc]
      exact h
    exact pf_lens (by simpa using hl) (pf_num h').2
theorem pf_postsK : ∀ {ps qs : Posts} {l l' : Int} {u v : List Int}, ps.length = qs.length → postsKB l ps ++ u = postsKB l' qs ++ v → u = v
  | [], [], _, _, _, _, _, h => h
  | [], _ :: _, _, _, _, _, hl, _ => by simp at hl
  | _ :: _, [], _, _, _, _, hl, _ => by simp at hl
  | (m, xs) :: ps, (k, ys) :: qs, l, l', u, v, hl, h => by
    have h' : numB (m - l).toNat ++ (numB xs.length ++ (placesB 0 xs ++ (postsKB m ps ++ u))) = numB (k - l').toNat ++ (numB ys.length ++ (placesB 0 ys ++ (postsKB k qs ++ v))) := by
      simpa only [postsKB, lenI, numI, List.append_assoc] using h
    obtain ⟨h1, h2⟩ := pf_num (pf_num h').2
    exact pf_postsK (by simpa using hl) (pf_places h1 h2)
theorem pf_posts {ps qs : Posts} {u v : List Int} (h : postsB ps ++ u = postsB qs ++ v) : u = v := by
  unfold postsB at h
  rw [List.append_assoc, List.append_assoc] at h
  obtain ⟨h1, h2⟩ := pf_num h
  exact pf_postsK h1 h2
theorem pf_words : ∀ {bs ws : Words} {u v : List Int}, bs.length ≤ ws.length → wordsKB bs ++ u = wordsKB ws ++ v → u = wordsKB (ws.drop bs.length) ++ v
  | [], _, _, _, _, h => h
  | _ :: _, [], _, _, hl, _ => by simp at hl
  | b :: bs, w :: ws, u, v, hl, h => by
    have h' : textB b.1 ++ (postsB b.2 ++ (wordsKB bs ++ u)) = textB w.1 ++ (postsB w.2 ++ (wordsKB ws ++ v)) := by
      simpa only [wordsKB, List.flatMap_cons, List.append_assoc] using h
    exact pf_words (bs := bs) (ws := ws) (by simpa using hl) (pf_posts (pf_text h'))
theorem lens2_eq (makes : List Int) (tab : Tab) (f : List Nat) : lens2 makes tab f = lensB (makes.map fun m => lenOf tab m f) := by
  unfold lens2 lensB
  rw [List.flatMap_map]
section
variable {makes : List Int} {tab : Tab}
/-- a field's bytes, up to some word -/
theorem pf_part (hn : (tab.map (·.1)).Nodup) {g : List Nat × Words} (hg : g ∈ tab) {f : List Nat} {ns : List Int} (hl : ns.length = makes.length) {k : Nat} {bs : Words} (hb : bs.length ≤ k) {u v : List Int}
    (h : textB f ++ (lensB ns ++ (numB k ++ (wordsKB bs ++ u))) = fb makes tab g.1 ++ v) : k = g.2.length ∧ u = wordsKB (g.2.drop bs.length) ++ v := by
  have hfd : wordsIn tab g.1 = g.2 := by
    unfold wordsIn
    rw [findA_nd hn hg]
    rfl
  have h' : textB f ++ (lensB ns ++ (numB k ++ (wordsKB bs ++ u))) = textB g.1 ++ (lensB (makes.map fun m => lenOf tab m g.1) ++ (numB g.2.length ++ (wordsKB g.2 ++ v))) := by
    rw [h]
    unfold fb wordsB lenI
    rw [hfd, lens2_eq]
    simp only [List.append_assoc]
  obtain ⟨h1, h2⟩ := pf_num (pf_lens (by rw [List.length_map]; exact hl) (pf_text h'))
  exact ⟨h1, pf_words (by omega) h2⟩
theorem pf_fields (hn : (tab.map (·.1)).Nodup) : ∀ {bs : List Field} {t : Tab} {u v : List Int}, (∀ g ∈ t, g ∈ tab) → (∀ f ∈ bs, f.2.1.length = makes.length) → bs.length ≤ t.length → bs.flatMap fieldB ++ u = (t.flatMap fun g => fb makes tab g.1) ++ v → u = ((t.drop bs.length).flatMap fun g => fb makes tab g.1) ++ v
  | [], _, _, _, _, _, _, h => h
  | _ :: _, [], _, _, _, _, hl, _ => by simp at hl
  | b :: bs, g :: t, u, v, hs, hb, hl, h => by
    have h' : textB b.1 ++ (lensB b.2.1 ++ (numB b.2.2.length ++ (wordsKB b.2.2 ++ (bs.flatMap fieldB ++ u)))) = fb makes tab g.1 ++ ((t.flatMap fun g => fb makes tab g.1) ++ v) := by
      rw [← List.append_assoc (fb makes tab g.1)]
      rw [List.flatMap_cons, List.flatMap_cons] at h
      rw [← h]
      unfold fieldB wordsB lenI
      simp only [List.append_assoc]
    obtain ⟨h1, h2⟩ := pf_part hn (hs g List.mem_cons_self) (hb b List.mem_cons_self) (Nat.le_refl _) h'
    rw [h1, List.drop_length] at h2
    exact pf_fields hn (bs := bs) (t := t) (fun q hq => hs q (List.mem_cons_of_mem _ hq)) (fun q hq => hb q (List.mem_cons_of_mem _ hq)) (by simpa using hl) h2
/-- a drawn word's first three bytes -/
theorem word3 (h : DrOk makes tab) {g : List Nat × Words} (hg : g ∈ tab) {wp : List Nat × Posts} (hw : wp ∈ g.2) (Z : List Int) : ∃ x y z L, textB wp.1 ++ (postsB wp.2 ++ Z) = x :: y :: z :: L ∧ ¬ Dd x ∧ x ≠ 3 ∧ ¬ Dd y ∧ y ≠ 3 ∧ ¬ Dd z := by
  have hwn := h.wn g hg wp hw
  have hp3 := (h.ps g hg wp hw).2.2.1
  have e1 : postsB wp.2 ++ Z = (wp.2.length : Int) :: (postsKB 0 wp.2 ++ Z) := by
    unfold postsB lenI
    rw [numB_lt (by omega)]
    rfl
  unfold wrds4 at hwn
  simp only [List.mem_cons, List.not_mem_nil, or_false] at hwn
  rw [e1]
  rcases hwn with e | e | e | e <;> rw [e, textB_small (by decide)]
  · exact ⟨2, 97, 98, _, rfl, nd_lt (by decide), by decide, nd_lt (by decide), by decide, nd_lt (by decide)⟩
  · exact ⟨1, 98, _, _, rfl, nd_lt (by decide), by decide, nd_lt (by decide), by decide, nd_lt (by omega)⟩
  · exact ⟨2, 97, 49, _, rfl, nd_lt (by decide), by decide, nd_lt (by decide), by decide, nd_lt (by decide)⟩
  · exact ⟨1, 48, _, _, rfl, nd_lt (by decide), by decide, nd_lt (by decide), by decide, nd_lt (by omega)⟩
theorem odd_free (h : DrOk makes tab) {n : Nat} (hn : n ≤ 2) {U ms : List Int} {fs : List Field} (b : BendN (pb makes tab) n U) (hr : pieceR U = some (ms, fs)) : ∀ f ∈ fs, ∀ wp ∈ f.2.2, wp.1 ≠ oddW := by
  intro f hf wp hwp hodd
  obtain ⟨eU, hPo⟩ := pieceR_ok hr
  obtain ⟨S, bd1, bd2⟩ := b.two hn
  obtain ⟨p1, ed1, tk1⟩ := bd1.ed
  obtain ⟨p2, ed2, tk2⟩ := bd2.ed
  -- where the word stands
  obtain ⟨fb1, fb2, efs⟩ := List.append_of_mem hf
  obtain ⟨wb1, wb2, ews⟩ := List.append_of_mem hwp
  obtain ⟨hname, _, hnl, _, _, hwok, hfil⟩ := hPo.fok f hf
  have hmk : 1 ≤ ms.length := by
    obtain ⟨_, _, hne, hpo⟩ := hwok.1 wp hwp
    cases e : wp.2 with
    | nil => exact absurd e hne
    | cons p ps =>
      have := hfil.1 wp hwp p (by rw [e]; exact List.mem_cons_self)
      exact List.length_pos_of_mem this
  have hnm : 1 ≤ f.1.length := by
    unfold nameB at hname
    exact of_decide_eq_true (Bool.and_eq_true_iff.mp hname).1
  obtain ⟨A, eA⟩ : ∃ A, A = lenI ms ++ (placesB 0 ms ++ (lenI fs ++ (fb1.flatMap fieldB ++ (textB f.1 ++ (lensB f.2.1 ++ (lenI f.2.2 ++ wordsKB wb1)))))) := ⟨_, rfl⟩
  obtain ⟨Z, eZ⟩ : ∃ Z, Z = postsB wp.2 ++ (wordsKB wb2 ++ fb2.flatMap fieldB) := ⟨_, rfl⟩
  have eU2 : U = A ++ (textB oddW ++ Z) := by
    have e1 : fs.flatMap fieldB = fb1.flatMap fieldB ++ (fieldB f ++ fb2.flatMap fieldB) := by
      rw [efs, List.flatMap_append, List.flatMap_cons]
    have e2 : wordsKB f.2.2 = wordsKB wb1 ++ ((textB oddW ++ postsB wp.2) ++ wordsKB wb2) := by
      unfold wordsKB
      rw [ews, List.flatMap_append, List.flatMap_cons, hodd]
    rw [eU, eA, eZ]
    unfold pieceB
    rw [e1]
    unfold fieldB wordsB
    rw [e2]
    simp only [List.append_assoc]
  have hq : 7 ≤ A.length := by
    have h1 := numB_pos ms.length
    have h2 := placesB_len 0 ms
    have h3 := numB_pos fs.length
    have h4 := textB_ge f.1
    have h5 : 1 * f.2.1.length ≤ (lensB f.2.1).length := flat_ge fun m _ => numB_pos m.toNat
    have h6 := numB_pos f.2.2.length
    rw [eA]
    unfold lenI
    simp only [List.length_append]
    omega
  have eW : textB oddW ++ Z = 3 :: 111 :: 100 :: 100 :: Z := by
    rw [textB_small (by decide)]
    rfl
  have u : ∀ i, nth U (A.length + i) = nth (3 :: 111 :: 100 :: 100 :: Z) i := fun i => by
    rw [eU2, eW, nth_ge (by omega), Nat.add_sub_cancel_left]
  have u0 : nth U A.length = 3 := u 0
  have u1 : nth U (A.length + 1) = 111 := u 1
  have u2 : nth U (A.length + 2) = 100 := u 2
  have u3 : nth U (A.length + 3) = 100 := u 3
  have hR := h.row6
  obtain ⟨c1, c2⟩ := both hR ed1 ed2 hq u0 u1 u2 u3
  -- the prefix is the drawn row's
  have tA : (pb makes tab).take A.length = A := by
    have t1 : S.take A.length = U.take A.length := by
      have := congrArg (List.take A.length) tk2
      rw [List.take_take, List.take_take, Nat.min_eq_left c2] at this
      exact this.symm
    have t2 : (pb makes tab).take A.length = S.take A.length := by
      have := congrArg (List.take A.length) tk1
      rw [List.take_take, List.take_take, Nat.min_eq_left c1] at this
      exact this.symm
    rw [t2, t1, eU2, List.take_append_of_le_length (Nat.le_refl _), List.take_length]
  obtain ⟨T, eT⟩ : ∃ T, T = (pb makes tab).drop A.length := ⟨_, rfl⟩
  have eR : pb makes tab = A ++ T := by
    rw [eT]
    conv => lhs; rw [← List.take_append_drop A.length (pb makes tab), tA]
  -- so a drawn word stands there
  have e1 : numB ms.length ++ (placesB 0 ms ++ (numB fs.length ++ (fb1.flatMap fieldB ++ (textB f.1 ++ (lensB f.2.1 ++ (numB f.2.2.length ++ (wordsKB wb1 ++ T))))))) = numB makes.length ++ (placesB 0 makes ++ (numB tab.length ++ ((tab.flatMap fun g => fb makes tab g.1) ++ []))) := by
    rw [List.append_nil]
    have := eR
    rw [eA] at this
    unfold pb lenI at this
    rw [this]
    simp only [List.append_assoc]
  obtain ⟨l1, e2⟩ := pf_num e1
  obtain ⟨l2, e3⟩ := pf_num (pf_places l1 e2)
  have lf : fb1.length < tab.length := by
    rw [← l2, efs]
    simp
  have e4 := pf_fields h.nd (fun g hg => hg) (fun q hq => by
    rw [(hPo.fok q (by rw [efs]; exact List.mem_append_left _ hq)).2.2.1]
    exact l1) (Nat.le_of_lt lf) e3
  rw [List.drop_eq_getElem_cons lf, List.flatMap_cons, List.append_assoc] at e4
  have hg : tab[fb1.length] ∈ tab := List.getElem_mem lf
  have lw : wb1.length < f.2.2.length := by
    rw [ews]
    simp
  obtain ⟨l3, e5⟩ := pf_part h.nd hg (by rw [hnl]; exact l1) (Nat.le_of_lt lw) e4
  rw [l3] at lw
  rw [List.drop_eq_getElem_cons lw] at e5
  have hw : (tab[fb1.length]).2[wb1.length] ∈ (tab[fb1.length]).2 := List.getElem_mem lw
  obtain ⟨x, y, z, L, e6, n1, n2, n3, n4, n5⟩ := word3 h hg hw (wordsKB ((tab[fb1.length]).2.drop (wb1.length + 1)) ++ (((tab.drop (fb1.length + 1)).flatMap fun g => fb makes tab g.1) ++ []))
  have eTL : T = x :: y :: z :: L := by
    rw [e5, ← e6]
    unfold wordsKB
    simp only [List.flatMap_cons, List.append_assoc]
  have r : ∀ i, nth (pb makes tab) (A.length + i) = nth (x :: y :: z :: L) i := fun i => by
    rw [eR, eTL, nth_ge (by omega), Nat.add_sub_cancel_left]
  have r0 : nth (pb makes tab) A.length = x := r 0
  have r1 : nth (pb makes tab) (A.length + 1) = y := r 1
  have r2 : nth (pb makes tab) (A.length + 2) = z := r 2
  exact start hR hq (by rw [r0]; exact n1) (by rw [r0]; exact n2) (by rw [r1]; exact n3) (by rw [r1]; exact n4) (by rw [r2]; exact n5) ed1 ed2 c1 c2 u0 u1 u2 u3
end
end FC
/-! W35a: the drawn piece while it is drawn: what stands where. -/
namespace FC
open PySem PySem.Spec PyProof.Rows L2
structure Wr where
  (f w : List Nat)
  (rl : Addr)
structure Rc where
  (rl t pl : Addr)
  (f : List Nat)
  (m : Int)
  (xs : List Int)
theorem uniq {α β : Type} {g : α → β} : ∀ {l : List α} {a b : α}, l.Pairwise (fun a b => g a ≠ g b) → a ∈ l → b ∈ l → g a = g b → a = b
  | c :: l, a, b, h, ha, hb, e => by
    have h' := List.pairwise_cons.mp h
    rcases List.mem_cons.mp ha with x | x <;> rcases List.mem_cons.mp hb with y | y
    · rw [x, y]
    · exact absurd (by rw [← x]; exact e) (h'.1 b y)
    · exact absurd (by rw [← y]; exact e.symm) (h'.1 a x)
    · exact uniq h'.2 x y e
theorem pw_snoc {α : Type} {R : α → α → Prop} {l : List α} {b : α} (h : l.Pairwise R) (k : ∀ a ∈ l, R a b) : (l ++ [b]).Pairwise R := by
  refine List.pairwise_append.mpr ⟨h, List.pairwise_singleton _ _, fun a ha c hc => ?_⟩
  have : c = b := by simpa using hc
  rw [this]
  exact k a ha
theorem kv_get {α : Type} (key : α → List Nat) (ad : α → Addr) (f : List Nat) : ∀ l : List α, (∃ a ∈ l, key a = f ∧ valV (l.map fun a => ((Sum.inr (S (key a)) : Key), V.ref (ad a))) (Sum.inr (S f) : Key) = some (V.ref (ad a))) ∨
    ((∀ a ∈ l, key a ≠ f) ∧ valV (l.map fun a => ((Sum.inr (S (key a)) : Key), V.ref (ad a))) (Sum.inr (S f) : Key) = none)
  | [] => .inr ⟨fun _ z => (nomatch z), rfl⟩
  | a :: l => by
    by_cases e : key a = f
    · exact .inl ⟨a, List.mem_cons_self, e, by rw [List.map_cons, valV_pos (by rw [e])]⟩
    · have e' : valV ((a :: l).map fun a => ((Sum.inr (S (key a)) : Key), V.ref (ad a))) (Sum.inr (S f) : Key) = valV (l.map fun a => ((Sum.inr (S (key a)) : Key), V.ref (ad a))) (Sum.inr (S f) : Key) := by
        rw [List.map_cons, valV_neg (fun z => e (key_inj z))]
      rw [e']
      rcases kv_get key ad f l with ⟨b, b1, b2, b3⟩ | ⟨b1, b2⟩
      · exact .inl ⟨b, List.mem_cons_of_mem _ b1, b2, b3⟩
      · refine .inr ⟨fun b hb => ?_, b2⟩
        rcases List.mem_cons.mp hb with z | z
        · rw [z]; exact e
        · exact b1 b z
def fkv (Fs : List (List Nat × Addr)) : List (Key × V) := Fs.map fun e => ((Sum.inr (S e.1) : Key), V.ref e.2)
def wsOf (Ws : List Wr) (f : List Nat) : List Wr := Ws.filter fun w => decide (w.f = f)
def wkv (Ws : List Wr) (f : List Nat) : List (Key × V) := (wsOf Ws f).map fun w => ((Sum.inr (S w.w) : Key), V.ref w.rl)
def psOf (Ps : List Rc) (rl : Addr) : List Rc := Ps.filter fun p => decide (p.rl = rl)
/-- what stands in the heap while a piece is drawn; l: the draws -/
structure Db (H : Hp) (l nl tb : Addr) (mk : List Int) (Fs : List (List Nat × Addr)) (Ws : List Wr) (Ps : List Rc) : Prop where
  dr : DrawsAt H l
  n : H nl = some (.lst (mk.map V.int))
  t : H tb = some (.dK (fkv Fs))
  d : ∀ e ∈ Fs, H e.2 = some (.dK (wkv Ws e.1))
  r : ∀ w ∈ Ws, H w.rl = some (.lst ((psOf Ps w.rl).map fun p => V.ref p.t))
  p : ∀ p ∈ Ps, H p.t = some (.tup [.int p.m, .ref p.pl]) ∧ H p.pl = some (.lst (p.xs.map V.int))
  fN : Fs.Pairwise fun a b => a.1 ≠ b.1
  dN : Fs.Pairwise fun a b => a.2 ≠ b.2
  td : ∀ e ∈ Fs, e.2 ≠ tb
  wN : Ws.Pairwise fun a b => (a.f, a.w) ≠ (b.f, b.w)
  rN : Ws.Pairwise fun a b => a.rl ≠ b.rl
  pN : Ps.Pairwise fun a b => a.pl ≠ b.pl
  nr : ∀ w ∈ Ws, w.rl ≠ nl
  np : ∀ p ∈ Ps, p.pl ≠ nl
  rp : ∀ w ∈ Ws, ∀ p ∈ Ps, w.rl ≠ p.pl
  wf : ∀ w ∈ Ws, ∃ e ∈ Fs, e.1 = w.f
  pr : ∀ p ∈ Ps, ∃ w ∈ Ws, w.rl = p.rl
  ln : nl ≠ l
  lr : ∀ w ∈ Ws, w.rl ≠ l
  lp : ∀ p ∈ Ps, p.pl ≠ l
section
variable {H H' : Hp} {l nl tb z : Addr} {mk : List Int} {Fs : List (List Nat × Addr)} {Ws : List Wr} {Ps : List Rc}
theorem Db.upd (D : Db H l nl tb mk Fs Ws Ps) (g : ∀ {b : Addr} {o : HO}, H b = some o → (b = l ∨ b = nl ∨ b = tb ∨ (∃ e ∈ Fs, b = e.2) ∨ (∃ w ∈ Ws, b = w.rl) ∨ ∃ p ∈ Ps, b = p.t ∨ b = p.pl) → H' b = some o) : Db H' l nl tb mk Fs Ws Ps := by
  obtain ⟨ds, d1, d2⟩ := D.dr
  exact ⟨⟨ds, g d1 (.inl rfl), d2⟩, g D.n (.inr (.inl rfl)), g D.t (.inr (.inr (.inl rfl))), fun e he => g (D.d e he) (.inr (.inr (.inr (.inl ⟨e, he, rfl⟩)))), fun w hw => g (D.r w hw) (.inr (.inr (.inr (.inr (.inl ⟨w, hw, rfl⟩))))),
    fun p hp => ⟨g (D.p p hp).1 (.inr (.inr (.inr (.inr (.inr ⟨p, hp, .inl rfl⟩))))), g (D.p p hp).2 (.inr (.inr (.inr (.inr (.inr ⟨p, hp, .inr rfl⟩)))))⟩, D.fN, D.dN, D.td, D.wN, D.rN, D.pN, D.nr, D.np, D.rp, D.wf, D.pr, D.ln, D.lr, D.lp⟩
theorem Db.same (D : Db H l nl tb mk Fs Ws Ps) (k : Same H H') : Db H' l nl tb mk Fs Ws Ps := D.upd fun e _ => k _ _ e
/-- a draw goes -/
theorem Db.pop (D : Db H l nl tb mk Fs Ws Ps) (k : Kp [l] H H') (hd : DrawsAt H' l) : Db H' l nl tb mk Fs Ws Ps := by
  obtain ⟨ds, d1, d2⟩ := D.dr
  have g : ∀ {b : Addr} {o : HO}, H b = some o → b ≠ l → H' b = some o := fun e n => k _ _ e (by simpa using n)
  exact ⟨hd, g D.n D.ln, g D.t (ne_of D.t d1 (by intro z; cases z)), fun e he => g (D.d e he) (ne_of (D.d e he) d1 (by intro z; cases z)), fun w hw => g (D.r w hw) (D.lr w hw),
    fun p hp => ⟨g (D.p p hp).1 (ne_of (D.p p hp).1 d1 (by intro z; cases z)), g (D.p p hp).2 (D.lp p hp)⟩, D.fN, D.dN, D.td, D.wN, D.rN, D.pN, D.nr, D.np, D.rp, D.wf, D.pr, D.ln, D.lr, D.lp⟩
/-- a number more -/
theorem Db.num (D : Db H l nl tb mk Fs Ws Ps) (m : Int) : Db (L2.upd H nl (.lst ((mk ++ [m]).map V.int))) l nl tb (mk ++ [m]) Fs Ws Ps := by
  obtain ⟨ds, d1, d2⟩ := D.dr
  have g : ∀ {b : Addr} {o : HO}, H b = some o → b ≠ nl → L2.upd H nl (.lst ((mk ++ [m]).map V.int)) b = some o := fun e n => by
    rw [upd_ne n]
    exact e
  exact ⟨⟨ds, g d1 D.ln.symm, d2⟩, upd_same, g D.t (ne_of D.t D.n (by intro z; cases z)), fun e he => g (D.d e he) (ne_of (D.d e he) D.n (by intro z; cases z)), fun w hw => g (D.r w hw) (D.nr w hw),
    fun p hp => ⟨g (D.p p hp).1 (ne_of (D.p p hp).1 D.n (by intro z; cases z)), g (D.p p hp).2 (D.np p hp)⟩, D.fN, D.dN, D.td, D.wN, D.rN, D.pN, D.nr, D.np, D.rp, D.wf, D.pr, D.ln, D.lr, D.lp⟩
/-- a field more -/
theorem Db.fld (D : Db H l nl tb mk Fs Ws Ps) {f : List Nat} (hz : H z = none) (hf : ∀ e ∈ Fs, e.1 ≠ f) : Db (L2.upd (L2.upd H z (.dK [])) tb (.dK (fkv (Fs ++ [(f, z)])))) l nl tb mk (Fs ++ [(f, z)]) Ws Ps := by
  obtain ⟨ds, d1, d2⟩ := D.dr
  have g : ∀ {b : Addr} {o : HO}, H b = some o → b ≠ tb → L2.upd (L2.upd H z (.dK [])) tb (.dK (fkv (Fs ++ [(f, z)]))) b = some o := fun e n => by
    rw [upd_ne n, upd_ne (ne_of_none e hz)]
    exact e
  have ztb : z ≠ tb := (ne_of_none D.t hz).symm
  have hw0 : wkv Ws f = [] := by
    unfold wkv wsOf
    rw [List.map_eq_nil_iff, List.filter_eq_nil_iff]
    intro w hw z
    obtain ⟨e, he, e1⟩ := D.wf w hw
    exact hf e he (e1.trans (of_decide_eq_true z))
  refine ⟨⟨ds, g d1 (ne_of d1 D.t (by intro z; cases z)), d2⟩, g D.n (ne_of D.n D.t (by intro z; cases z)), upd_same, fun e he => ?_, fun w hw => g (D.r w hw) (ne_of (D.r w hw) D.t (by intro z; cases z)),
    fun p hp => ⟨g (D.p p hp).1 (ne_of (D.p p hp).1 D.t (by intro z; cases z)), g (D.p p hp).2 (ne_of (D.p p hp).2 D.t (by intro z; cases z))⟩, pw_snoc D.fN hf, pw_snoc D.dN fun e he => ne_of_none (D.d e he) hz, fun e he => ?_, D.wN, D.rN, D.pN, D.nr, D.np, D.rp, fun w hw => ?_, D.pr, D.ln, D.lr, D.lp⟩
  · rcases List.mem_append.mp he with he | he
    · exact g (D.d e he) (D.td e he)
    · have : e = (f, z) := by simpa using he
      subst this
      show L2.upd _ tb _ z = some (.dK (wkv Ws f))
      rw [upd_ne ztb, upd_same, hw0]
  · rcases List.mem_append.mp he with he | he
    · exact D.td e he
    · have : e = (f, z) := by simpa using he
      subst this
      exact ztb
  · obtain ⟨e, he, e1⟩ := D.wf w hw
    exact ⟨e, List.mem_append_left _ he, e1⟩
/-- a word more -/
theorem Db.wrd (D : Db H l nl tb mk Fs Ws Ps) {f w : List Nat} {d : Addr} (hd : (f, d) ∈ Fs) (hz : H z = none) (hw : ∀ x ∈ wsOf Ws f, x.w ≠ w) :
    Db (L2.upd (L2.upd H z (.lst [])) d (.dK (wkv (Ws ++ [⟨f, w, z⟩]) f))) l nl tb mk Fs (Ws ++ [⟨f, w, z⟩]) Ps := by
  obtain ⟨ds, d1, d2⟩ := D.dr
  have hdd := D.d _ hd
  have g : ∀ {b : Addr} {o : HO}, H b = some o → b ≠ d → L2.upd (L2.upd H z (.lst [])) d (.dK (wkv (Ws ++ [⟨f, w, z⟩]) f)) b = some o := fun e n => by
    rw [upd_ne n, upd_ne (ne_of_none e hz)]
    exact e
  have zd : z ≠ d := (ne_of_none hdd hz).symm
  have hp0 : psOf Ps z = [] := by
    unfold psOf
    rw [List.filter_eq_nil_iff]
    intro p hp q
    obtain ⟨w', hw', e1⟩ := D.pr p hp
    have e2 : p.rl = z := of_decide_eq_true q
    exact ne_of_none (D.r w' hw') hz (e1.trans e2)
  refine ⟨⟨ds, g d1 (ne_of d1 hdd (by intro z; cases z)), d2⟩, g D.n (ne_of D.n hdd (by intro z; cases z)), g D.t (D.td _ hd).symm, fun e he => ?_, fun x hx => ?_,
    fun p hp => ⟨g (D.p p hp).1 (ne_of (D.p p hp).1 hdd (by intro z; cases z)), g (D.p p hp).2 (ne_of (D.p p hp).2 hdd (by intro z; cases z))⟩, D.fN, D.dN, D.td, pw_snoc D.wN fun x hx e => ?_, pw_snoc D.rN fun x hx => ne_of_none (D.r x hx) hz, D.pN, fun x hx => ?_, D.np, fun x hx p hp => ?_, fun x hx => ?_, fun p hp => ?_, D.ln, fun x hx => ?_, D.lp⟩
  · by_cases c : e.1 = f
    · have : e = (f, d) := uniq (g := Prod.fst) D.fN he hd c
      subst this
      exact upd_same
    · have nd : e.2 ≠ d := fun q => c (congrArg Prod.fst (uniq (g := Prod.snd) D.dN he hd q))
      rw [g (D.d e he) nd]
      have : wkv (Ws ++ [⟨f, w, z⟩]) e.1 = wkv Ws e.1 := by
        unfold wkv wsOf
        rw [List.filter_append, List.filter_cons_of_neg (by simpa using fun q => c q.symm), List.filter_nil, List.append_nil]
      rw [this]
  · rcases List.mem_append.mp hx with hx | hx
    · exact g (D.r x hx) (ne_of (D.r x hx) hdd (by intro z; cases z))
    · have : x = ⟨f, w, z⟩ := by simpa using hx
      subst this
      show L2.upd _ d _ z = some (.lst ((psOf Ps z).map fun p => V.ref p.t))
      rw [upd_ne zd, upd_same, hp0]
      rfl
  · have e1 := Prod.mk.inj e
    refine hw x ?_ e1.2
    unfold wsOf
    exact List.mem_filter.mpr ⟨hx, decide_eq_true e1.1⟩
  · rcases List.mem_append.mp hx with hx | hx
    · exact D.nr x hx
    · have : x = ⟨f, w, z⟩ := by simpa using hx
      subst this
      exact (ne_of_none D.n hz).symm
  · rcases List.mem_append.mp hx with hx | hx
    · exact D.rp x hx p hp
    · have : x = ⟨f, w, z⟩ := by simpa using hx
      subst this
      exact (ne_of_none (D.p p hp).2 hz).symm
  · rcases List.mem_append.mp hx with hx | hx
    · exact D.wf x hx
    · have : x = ⟨f, w, z⟩ := by simpa using hx
      subst this
      exact ⟨_, hd, rfl⟩
  · obtain ⟨x, hx, e⟩ := D.pr p hp
    exact ⟨x, List.mem_append_left _ hx, e⟩
  · rcases List.mem_append.mp hx with hx | hx
    · exact D.lr x hx
    · have : x = ⟨f, w, z⟩ := by simpa using hx
      subst this
      exact (ne_of_none d1 hz).symm
/-- a posting more -/
theorem Db.pst (D : Db H l nl tb mk Fs Ws Ps) {x : Wr} (hx : x ∈ Ws) {m : Int} {t pl : Addr} (hpl : H pl = none) (ht : L2.upd H pl (.lst []) t = none) :
    Db (L2.upd (L2.upd (L2.upd H pl (.lst [])) t (.tup [.int m, .ref pl])) x.rl (.lst ((psOf Ps x.rl).map (fun p => V.ref p.t) ++ [.ref t]))) l nl tb mk Fs Ws (Ps ++ [⟨x.rl, t, pl, x.f, m, []⟩]) := by
  obtain ⟨ds, d1, d2⟩ := D.dr
  have hr := D.r x hx
  obtain ⟨ntp, ht0⟩ := free_ne ht
  have g : ∀ {b : Addr} {o : HO}, H b = some o → b ≠ x.rl → L2.upd (L2.upd (L2.upd H pl (.lst [])) t (.tup [.int m, .ref pl])) x.rl (.lst ((psOf Ps x.rl).map (fun p => V.ref p.t) ++ [.ref t])) b = some o := fun e n => by
    rw [upd_ne n, upd_ne (ne_of_none e ht0), upd_ne (ne_of_none e hpl)]
    exact e
  have nt : t ≠ x.rl := (ne_of_none hr ht0).symm
  have np : pl ≠ x.rl := (ne_of_none hr hpl).symm
  refine ⟨⟨ds, g d1 (D.lr x hx).symm, d2⟩, g D.n (D.nr x hx).symm, g D.t (ne_of D.t hr (by intro z; cases z)), fun e he => g (D.d e he) (ne_of (D.d e he) hr (by intro z; cases z)), fun y hy => ?_, fun p hp => ?_,
    D.fN, D.dN, D.td, D.wN, D.rN, pw_snoc D.pN fun p hp => ne_of_none (D.p p hp).2 hpl, D.nr, fun p hp => ?_, fun y hy p hp => ?_, D.wf, fun p hp => ?_, D.ln, D.lr, fun p hp => ?_⟩
  · by_cases c : y.rl = x.rl
    · rw [c, upd_same]
      unfold psOf
      rw [List.filter_append, List.filter_cons_of_pos (by simp), List.filter_nil, List.map_append]
      rfl
    · rw [g (D.r y hy) c]
      unfold psOf
      rw [List.filter_append, List.filter_cons_of_neg (by simpa using fun q => c q.symm), List.filter_nil, List.append_nil]
  · rcases List.mem_append.mp hp with hp | hp
    · exact ⟨g (D.p p hp).1 (ne_of (D.p p hp).1 hr (by intro z; cases z)), g (D.p p hp).2 (D.rp x hx p hp).symm⟩
    · have : p = ⟨x.rl, t, pl, x.f, m, []⟩ := by simpa using hp
      subst this
      refine ⟨?_, ?_⟩
      · show L2.upd _ x.rl _ t = _
        rw [upd_ne nt, upd_same]
      · show L2.upd _ x.rl _ pl = _
        rw [upd_ne np, upd_ne ntp.symm, upd_same]
        rfl
  · rcases List.mem_append.mp hp with hp | hp
    · exact D.np p hp
    · have : p = ⟨x.rl, t, pl, x.f, m, []⟩ := by simpa using hp
      subst this
      exact (ne_of_none D.n hpl).symm
  · rcases List.mem_append.mp hp with hp | hp
    · exact D.rp y hy p hp
    · have : p = ⟨x.rl, t, pl, x.f, m, []⟩ := by simpa using hp
      subst this
      exact ne_of_none (D.r y hy) hpl
  · rcases List.mem_append.mp hp with hp | hp
    · exact D.pr p hp
    · have : p = ⟨x.rl, t, pl, x.f, m, []⟩ := by simpa using hp
      subst this
      exact ⟨x, hx, rfl⟩
  · rcases List.mem_append.mp hp with hp | hp
    · exact D.lp p hp
    · have : p = ⟨x.rl, t, pl, x.f, m, []⟩ := by simpa using hp
      subst this
      exact (ne_of_none d1 hpl).symm
def bump (pl : Addr) (v : Int) (p : Rc) : Rc := if p.pl = pl then { p with xs := p.xs ++ [v] } else p
theorem bump_k (pl : Addr) (v : Int) (p : Rc) : (bump pl v p).rl = p.rl ∧ (bump pl v p).t = p.t ∧ (bump pl v p).pl = p.pl ∧ (bump pl v p).f = p.f ∧ (bump pl v p).m = p.m := by
  unfold bump
  split <;> exact ⟨rfl, rfl, rfl, rfl, rfl⟩
theorem psOf_bump (pl : Addr) (v : Int) (rl : Addr) : ∀ Ps : List Rc, psOf (Ps.map (bump pl v)) rl = (psOf Ps rl).map (bump pl v)
  | [] => rfl
  | p :: Ps => by
    have ih := psOf_bump pl v rl Ps
    unfold psOf at ih ⊢
    rw [List.map_cons]
    by_cases h : p.rl = rl
    · rw [List.filter_cons_of_pos (by rw [(bump_k pl v p).1]; simp [h]), List.filter_cons_of_pos (by simp [h]), List.map_cons, ih]
    · rw [List.filter_cons_of_neg (by rw [(bump_k pl v p).1]; simp [h]), List.filter_cons_of_neg (by simp [h]), ih]
/-- a place more -/
theorem Db.add (D : Db H l nl tb mk Fs Ws Ps) {p0 : Rc} (h0 : p0 ∈ Ps) (v : Int) : Db (L2.upd H p0.pl (.lst ((p0.xs ++ [v]).map V.int))) l nl tb mk Fs Ws (Ps.map (bump p0.pl v)) := by
  obtain ⟨ds, d1, d2⟩ := D.dr
  have hp0 := (D.p p0 h0).2
  have g : ∀ {b : Addr} {o : HO}, H b = some o → b ≠ p0.pl → L2.upd H p0.pl (.lst ((p0.xs ++ [v]).map V.int)) b = some o := fun e n => by
    rw [upd_ne n]
    exact e
  have mm : ∀ {q : Rc}, q ∈ Ps.map (bump p0.pl v) → ∃ p ∈ Ps, q = bump p0.pl v p := fun hq => by
    obtain ⟨p, hp, e⟩ := List.mem_map.mp hq
    exact ⟨p, hp, e.symm⟩
  refine ⟨⟨ds, g d1 (D.lp p0 h0).symm, d2⟩, g D.n (D.np p0 h0).symm, g D.t (ne_of D.t hp0 (by intro z; cases z)), fun e he => g (D.d e he) (ne_of (D.d e he) hp0 (by intro z; cases z)), fun w hw => ?_, fun q hq => ?_,
    D.fN, D.dN, D.td, D.wN, D.rN, ?_, D.nr, fun q hq => ?_, fun w hw q hq => ?_, D.wf, fun q hq => ?_, D.ln, D.lr, fun q hq => ?_⟩
  · rw [g (D.r w hw) (D.rp w hw p0 h0), psOf_bump, List.map_map]
    congr 3
    exact funext fun p => by
      show V.ref p.t = V.ref (bump p0.pl v p).t
      rw [(bump_k p0.pl v p).2.1]
  · obtain ⟨p, hp, rfl⟩ := mm hq
    obtain ⟨b1, b2, b3, b4, b5⟩ := bump_k p0.pl v p
    rw [b2, b3, b5]
    refine ⟨g (D.p p hp).1 (ne_of (D.p p hp).1 hp0 (by intro z; cases z)), ?_⟩
    by_cases c : p.pl = p0.pl
    · have : p = p0 := uniq (g := Rc.pl) D.pN hp h0 c
      subst this
      rw [upd_same]
      unfold bump
      rw [if_pos rfl]
    · rw [g (D.p p hp).2 c]
      unfold bump
      rw [if_neg c]
  · rw [List.pairwise_map]
    exact D.pN.imp fun h => by rw [(bump_k p0.pl v _).2.2.1, (bump_k p0.pl v _).2.2.1]; exact h
  · obtain ⟨p, hp, rfl⟩ := mm hq
    rw [(bump_k p0.pl v p).2.2.1]
    exact D.np p hp
  · obtain ⟨p, hp, rfl⟩ := mm hq
    rw [(bump_k p0.pl v p).2.2.1]
    exact D.rp w hw p hp
  · obtain ⟨p, hp, rfl⟩ := mm hq
    rw [(bump_k p0.pl v p).1]
    exact D.pr p hp
  · obtain ⟨p, hp, rfl⟩ := mm hq
    rw [(bump_k p0.pl v p).2.2.1]
    exact D.lp p hp
/-! ### the table -/
def tabD (Fs : List (List Nat × Addr)) (Ws : List Wr) (Ps : List Rc) : Tab := Fs.map fun e => (e.1, (wsOf Ws e.1).map fun w => (w.w, (psOf Ps w.rl).map fun p => (p.m, p.xs)))
theorem paired_map {α β γ : Type} {R : β → γ → Prop} {g : α → β} {h : α → γ} : ∀ {l : List α}, (∀ a ∈ l, R (g a) (h a)) → Paired R (l.map g) (l.map h)
  | [], _ => .nil
  | a :: l, k => .cons (k a List.mem_cons_self) (paired_map fun b hb => k b (List.mem_cons_of_mem _ hb))
theorem Db.posts (D : Db H l nl tb mk Fs Ws Ps) {w : Wr} (hw : w ∈ Ws) : H w.rl = some (.lst (((psOf Ps w.rl).map fun p => (p.t, p.pl)).map fun t => V.ref t.1)) ∧ ItemsAt H ((psOf Ps w.rl).map fun p => (p.t, p.pl)) ((psOf Ps w.rl).map fun p => (p.m, p.xs)) := by
  refine ⟨?_, paired_map fun p hp => ?_⟩
  · rw [D.r w hw, List.map_map]
    rfl
  · exact D.p p (List.mem_filter.mp hp).1
theorem Db.tab (D : Db H l nl tb mk Fs Ws Ps) : TabAt H tb (tabD Fs Ws Ps) := by
  refine ⟨_, D.t, paired_map fun e he => ⟨rfl, e.2, rfl, wkv Ws e.1, D.d e he, paired_map fun w hw => ⟨rfl, w.rl, rfl, ?_⟩⟩⟩
  have hw' := (List.mem_filter.mp hw).1
  exact ⟨_, D.posts hw'⟩
/-! ### what is so of the records -/
structure Lg (mk : List Int) (Fs : List (List Nat × Addr)) (Ws : List Wr) (Ps : List Rc) : Prop where
  fn : ∀ e ∈ Fs, e.1 ∈ flds3
  wn : ∀ w ∈ Ws, w.w ∈ wrds4
  wp : ∀ w ∈ Ws, ∃ p ∈ Ps, p.rl = w.rl
  pm : ∀ p ∈ Ps, p.m ∈ mk
  px : ∀ p ∈ Ps, p.xs ≠ [] ∧ Rises p.xs ∧ ∀ x ∈ p.xs, x < 3
  pp : Ps.Pairwise fun a b => a.rl = b.rl → a.m < b.m
  pf : ∀ p ∈ Ps, ∀ w ∈ Ws, w.rl = p.rl → w.f = p.f
theorem rises_len : ∀ {xs : List Int} {k : Int}, (∀ x ∈ xs, k ≤ x ∧ x < 3) → xs.Pairwise (· < ·) → (xs.length : Int) ≤ max 0 (3 - k)
  | [], k, _, _ => by simp; omega
  | x :: xs, k, h, hp => by
    have hx := h x List.mem_cons_self
    have hp' := List.pairwise_cons.mp hp
    have ih := rises_len (xs := xs) (k := x + 1) (fun y hy => ⟨by have := hp'.1 y hy; omega, (h y (List.mem_cons_of_mem _ hy)).2⟩) hp'.2
    rw [List.length_cons]
    omega
theorem nodup_subI : ∀ {ks l : List Int}, l.Nodup → (∀ x ∈ l, x ∈ ks) → l.length ≤ ks.length
  | [], l, _, h => by
    cases l with
    | nil => exact Nat.le_refl _
    | cons x l => exact absurd (h x List.mem_cons_self) (fun z => nomatch z)
  | k :: ks, l, hn, h => by
    have h1 := nodup_subI (ks := ks) (l := l.erase k) (hn.erase k) fun x hx => by
      have h2 := hn.mem_erase_iff.mp hx
      rcases List.mem_cons.mp (h x h2.2) with z | z
      · exact absurd z h2.1
      · exact z
    have h3 := List.length_erase (a := k) (l := l)
    rw [List.length_cons]
    split at h3 <;> omega
theorem psOf_pw (L : Lg mk Fs Ws Ps) (rl : Addr) : (psOf Ps rl).Pairwise fun a b => a.m < b.m := by
  have h1 : (psOf Ps rl).Pairwise fun a b => a.rl = b.rl → a.m < b.m := L.pp.filter _
  refine List.Pairwise.imp_of_mem (fun {a b} ha hb h => h ?_) h1
  rw [of_decide_eq_true (List.mem_filter.mp ha).2, of_decide_eq_true (List.mem_filter.mp hb).2]
theorem Db.ok (D : Db H l nl tb mk Fs Ws Ps) (L : Lg mk Fs Ws Ps) (hr : Rises mk) (h3 : mk.length ≤ 3) (hb : ∀ m ∈ mk, m ≤ 1000) : DrOk mk (tabD Fs Ws Ps) := by
  refine ⟨hr, h3, hb, ?_, fun f hf => ?_, fun f hf => ?_, fun f hf wp hwp => ?_, fun f hf wp hwp => ?_⟩
  · unfold tabD
    rw [List.map_map]
    exact List.pairwise_map.mpr D.fN
  · obtain ⟨e, he, rfl⟩ := List.mem_map.mp hf
    exact L.fn e he
  · obtain ⟨e, he, rfl⟩ := List.mem_map.mp hf
    show (((wsOf Ws e.1).map _).map _).Nodup
    rw [List.map_map]
    refine List.pairwise_map.mpr ?_
    have h1 : (wsOf Ws e.1).Pairwise fun a b => (a.f, a.w) ≠ (b.f, b.w) := D.wN.filter _
    refine List.Pairwise.imp_of_mem (fun {a b} ha hb h z => h ?_) h1
    have e1 : a.f = e.1 := of_decide_eq_true (List.mem_filter.mp ha).2
    have e2 : b.f = e.1 := of_decide_eq_true (List.mem_filter.mp hb).2
    have z' : a.w = b.w := z
    rw [e1, e2, z']
  · obtain ⟨e, he, rfl⟩ := List.mem_map.mp hf
    obtain ⟨w, hw, rfl⟩ := List.mem_map.mp hwp
    exact L.wn w (List.mem_filter.mp hw).1
  · obtain ⟨e, he, rfl⟩ := List.mem_map.mp hf
    obtain ⟨w, hw, rfl⟩ := List.mem_map.mp hwp
    have hw' := (List.mem_filter.mp hw).1
    have pw := psOf_pw L w.rl
    have px : ∀ p ∈ psOf Ps w.rl, 0 ≤ p.m ∧ p.m ∈ mk ∧ p.xs ≠ [] ∧ Rises p.xs ∧ ∀ x ∈ p.xs, x < 3 := fun p hp => by
      have hp' := (List.mem_filter.mp hp).1
      exact ⟨hr.1 _ (L.pm p hp'), L.pm p hp', L.px p hp'⟩
    refine ⟨⟨fun q hq => ?_, List.pairwise_map.mpr pw⟩, ?_, ?_, fun q hq => ?_⟩
    · obtain ⟨p, hp, rfl⟩ := List.mem_map.mp hq
      obtain ⟨a1, a2, a3, a4, a5⟩ := px p hp
      exact ⟨a1, a3, a4.1, a4.2⟩
    · obtain ⟨p, hp, e1⟩ := L.wp w hw'
      intro z
      have : p ∈ psOf Ps w.rl := List.mem_filter.mpr ⟨hp, decide_eq_true e1⟩
      have z' := List.map_eq_nil_iff.mp z
      rw [z'] at this
      cases this
    · show ((psOf Ps w.rl).map _).length ≤ 3
      rw [List.length_map, ← List.length_map (f := Rc.m) (as := psOf Ps w.rl)]
      refine Nat.le_trans (nodup_subI (ks := mk) (List.pairwise_map.mpr (pw.imp fun h z => by omega)) fun x hx => ?_) h3
      obtain ⟨p, hp, rfl⟩ := List.mem_map.mp hx
      exact (px p hp).2.1
    · obtain ⟨p, hp, rfl⟩ := List.mem_map.mp hq
      obtain ⟨a1, a2, a3, a4, a5⟩ := px p hp
      refine ⟨hb _ a2, ?_, fun x hx => by have := a5 x hx; omega⟩
      have := rises_len (xs := p.xs) (k := 0) (fun x hx => ⟨a4.1 x hx, a5 x hx⟩) a4.2
      show p.xs.length ≤ 3
      omega
end
end FC
/-! W35b: the steps of the drawn piece's records. -/
namespace FC
open PySem PySem.Spec PyProof.Rows L2
/-- the records while one row of postings (rl) is at work, its last posting (pl) perhaps without places yet -/
structure La (rl pl : Addr) (mk : List Int) (Fs : List (List Nat × Addr)) (Ws : List Wr) (Ps : List Rc) : Prop where
  fn : ∀ e ∈ Fs, e.1 ∈ flds3
  wn : ∀ w ∈ Ws, w.w ∈ wrds4
  wp : ∀ w ∈ Ws, w.rl = rl ∨ ∃ p ∈ Ps, p.rl = w.rl
  pm : ∀ p ∈ Ps, p.m ∈ mk
  px : ∀ p ∈ Ps, (p.pl ≠ pl → p.xs ≠ []) ∧ Rises p.xs ∧ ∀ x ∈ p.xs, x < 3
  pp : Ps.Pairwise fun a b => a.rl = b.rl → a.m < b.m
  pf : ∀ p ∈ Ps, ∀ w ∈ Ws, w.rl = p.rl → w.f = p.f
/-- of this turn -/
def Stg (cm : Int) (dn : List (List Nat)) (f : List Nat) (i : Nat) (Ps : List Rc) : Prop := ∀ p ∈ Ps, p.m = cm → p.f ∈ dn ∨ (p.f = f ∧ ∀ x ∈ p.xs, x < (i : Int))
section
variable {H : Hp} {l nl tb z rl pl : Addr} {mk : List Int} {Fs : List (List Nat × Addr)} {Ws : List Wr} {Ps : List Rc}
theorem Lg.la (L : Lg mk Fs Ws Ps) (rl pl : Addr) : La rl pl mk Fs Ws Ps :=
  ⟨L.fn, L.wn, fun w hw => .inr (L.wp w hw), L.pm, fun p hp => ⟨fun _ => (L.px p hp).1, (L.px p hp).2⟩, L.pp, L.pf⟩
theorem Lg.fld (L : Lg mk Fs Ws Ps) {f : List Nat} (hf : f ∈ flds3) : Lg mk (Fs ++ [(f, z)]) Ws Ps :=
  ⟨fun e he => by
    rcases List.mem_append.mp he with he | he
    · exact L.fn e he
    · have : e = (f, z) := by simpa using he
      subst this
      exact hf, L.wn, L.wp, L.pm, L.px, L.pp, L.pf⟩
theorem Lg.num (L : Lg mk Fs Ws Ps) (m : Int) : Lg (mk ++ [m]) Fs Ws Ps := ⟨L.fn, L.wn, L.wp, fun p hp => List.mem_append_left _ (L.pm p hp), L.px, L.pp, L.pf⟩
theorem Lg.wrd (L : Lg mk Fs Ws Ps) (D : Db H l nl tb mk Fs Ws Ps) {f w : List Nat} (hw : w ∈ wrds4) (hz : H z = none) (pl : Addr) : La z pl mk Fs (Ws ++ [⟨f, w, z⟩]) Ps := by
  refine ⟨L.fn, fun x hx => ?_, fun x hx => ?_, L.pm, fun p hp => ⟨fun _ => (L.px p hp).1, (L.px p hp).2⟩, L.pp, fun p hp x hx e => ?_⟩
  · rcases List.mem_append.mp hx with hx | hx
    · exact L.wn x hx
    · have : x = ⟨f, w, z⟩ := by simpa using hx
      subst this
      exact hw
  · rcases List.mem_append.mp hx with hx | hx
    · exact .inr (L.wp x hx)
    · have : x = ⟨f, w, z⟩ := by simpa using hx
      subst this
      exact .inl rfl
  · rcases List.mem_append.mp hx with hx | hx
    · exact L.pf p hp x hx e
    · have : x = ⟨f, w, z⟩ := by simpa using hx
      subst this
      obtain ⟨y, hy, e2⟩ := D.pr p hp
      have e' : z = p.rl := e
      exact absurd (e2.trans e'.symm) (ne_of_none (D.r y hy) hz)
theorem La.pst (A : La rl pl mk Fs Ws Ps) (D : Db H l nl tb mk Fs Ws Ps) {x : Wr} (hx : x ∈ Ws) (hr : x.rl = rl) {cm : Int} {t pl' : Addr} (hm : cm ∈ mk) (hA : ∀ p ∈ Ps, p.xs ≠ []) (hlt : ∀ p ∈ Ps, p.rl = rl → p.m < cm) : La rl pl' mk Fs Ws (Ps ++ [⟨x.rl, t, pl', x.f, cm, []⟩]) := by
  have ca : ∀ {q : Rc}, q ∈ Ps ++ [⟨x.rl, t, pl', x.f, cm, []⟩] → q ∈ Ps ∨ q = ⟨x.rl, t, pl', x.f, cm, []⟩ := fun hq => by
    rcases List.mem_append.mp hq with hq | hq
    · exact .inl hq
    · exact .inr (by simpa using hq)
  refine ⟨A.fn, A.wn, fun w hw => ?_, fun q hq => ?_, fun q hq => ?_, ?_, fun q hq w hw e => ?_⟩
  · rcases A.wp w hw with h | ⟨p, hp, e⟩
    · exact .inl h
    · exact .inr ⟨p, List.mem_append_left _ hp, e⟩
  · rcases ca hq with h | rfl
    · exact A.pm q h
    · exact hm
  · rcases ca hq with h | rfl
    · exact ⟨fun _ => hA q h, (A.px q h).2⟩
    · exact ⟨fun n => absurd rfl n, ⟨fun _ z => (nomatch z), .nil⟩, fun _ z => (nomatch z)⟩
  · refine pw_snoc A.pp fun p hp e => ?_
    exact hlt p hp (e.trans hr)
  · rcases ca hq with h | rfl
    · exact A.pf q h w hw e
    · have : w = x := uniq (g := Wr.rl) D.rN hw hx e
      rw [this]
theorem La.fin (A : La rl pl mk Fs Ws Ps) (D : Db H l nl tb mk Fs Ws Ps) {p0 : Rc} (h0 : p0 ∈ Ps) (e1 : p0.rl = rl) (e2 : p0.pl = pl) {i : Nat} (hi : i < 3) (hx : ∀ x ∈ p0.xs, x < (i : Int)) : Lg mk Fs Ws (Ps.map (bump p0.pl (i : Int))) := by
  have mm : ∀ {q : Rc}, q ∈ Ps.map (bump p0.pl (i : Int)) → ∃ p ∈ Ps, q = bump p0.pl (i : Int) p := fun hq => by
    obtain ⟨p, hp, e⟩ := List.mem_map.mp hq
    exact ⟨p, hp, e.symm⟩
  refine ⟨A.fn, A.wn, fun w hw => ?_, fun q hq => ?_, fun q hq => ?_, ?_, fun q hq w hw e => ?_⟩
  · rcases A.wp w hw with h | ⟨p, hp, e⟩
    · exact ⟨_, List.mem_map_of_mem h0, by rw [(bump_k _ _ p0).1, e1, h]⟩
    · exact ⟨_, List.mem_map_of_mem hp, by rw [(bump_k _ _ p).1, e]⟩
  · obtain ⟨p, hp, rfl⟩ := mm hq
    rw [(bump_k _ _ p).2.2.2.2]
    exact A.pm p hp
  · obtain ⟨p, hp, rfl⟩ := mm hq
    obtain ⟨a1, a2, a3⟩ := A.px p hp
    by_cases c : p.pl = p0.pl
    · have : p = p0 := uniq (g := Rc.pl) D.pN hp h0 c
      subst this
      unfold bump
      rw [if_pos rfl]
      refine ⟨by simp, ⟨fun x h => ?_, pw_snoc a2.2 hx⟩, fun x h => ?_⟩
      · rcases List.mem_append.mp h with h | h
        · exact a2.1 x h
        · have : x = (i : Int) := by simpa using h
          omega
      · rcases List.mem_append.mp h with h | h
        · exact a3 x h
        · have : x = (i : Int) := by simpa using h
          omega
    · unfold bump
      rw [if_neg c]
      exact ⟨a1 (by rw [← e2]; exact c), a2, a3⟩
  · rw [List.pairwise_map]
    exact A.pp.imp fun h => by rw [(bump_k p0.pl _ _).1, (bump_k p0.pl _ _).1, (bump_k p0.pl _ _).2.2.2.2, (bump_k p0.pl _ _).2.2.2.2]; exact h
  · obtain ⟨p, hp, rfl⟩ := mm hq
    rw [(bump_k _ _ p).2.2.2.1]
    rw [(bump_k _ _ p).1] at e
    exact A.pf p hp w hw e
theorem Stg.fin {cm : Int} {dn : List (List Nat)} {f : List Nat} {i : Nat} (S : Stg cm dn f i Ps) (D : Db H l nl tb mk Fs Ws Ps) {p0 : Rc} (h0 : p0 ∈ Ps) (e : p0.f = f) (hx : ∀ x ∈ p0.xs, x < (i : Int)) : Stg cm dn f (i + 1) (Ps.map (bump p0.pl (i : Int))) := by
  intro q hq hm
  obtain ⟨p, hp, rfl⟩ := List.mem_map.mp hq
  rw [(bump_k _ _ p).2.2.2.2] at hm
  rw [(bump_k _ _ p).2.2.2.1]
  by_cases c : p.pl = p0.pl
  · have : p = p0 := uniq (g := Rc.pl) D.pN hp h0 c
    subst this
    refine .inr ⟨e, fun x h => ?_⟩
    unfold bump at h
    rw [if_pos rfl] at h
    rcases List.mem_append.mp h with h | h
    · have := hx x h
      omega
    · have : x = (i : Int) := by simpa using h
      omega
  · unfold bump
    rw [if_neg c]
    rcases S p hp hm with h | ⟨h1, h2⟩
    · exact .inl h
    · exact .inr ⟨h1, fun x h => by have := h2 x h; omega⟩
/-- the two setdefaults -/
theorem Db.set1 (D : Db H l nl tb mk Fs Ws Ps) (L : Lg mk Fs Ws Ps) {f : List Nat} (hf : f ∈ flds3) (hz : H z = none) :
    (∀ v, valV (fkv Fs) (Sum.inr (S f) : Key) = some v → ∃ d, v = .ref d ∧ (f, d) ∈ Fs) ∧
    (valV (fkv Fs) (Sum.inr (S f) : Key) = none → Db (L2.upd (L2.upd H z (.dK [])) tb (.dK (putK (fkv Fs) (Sum.inr (S f)) (.ref z)))) l nl tb mk (Fs ++ [(f, z)]) Ws Ps) := by
  have h := kv_get Prod.fst Prod.snd f Fs
  have e0 : fkv Fs = Fs.map fun a => ((Sum.inr (S a.1) : Key), V.ref a.2) := rfl
  refine ⟨fun v hv => ?_, fun hn => ?_⟩
  · rcases h with ⟨a, a1, a2, a3⟩ | ⟨_, a2⟩
    · rw [e0, a3] at hv
      cases hv
      exact ⟨a.2, rfl, by rw [← a2]; exact a1⟩
    · rw [e0, a2] at hv
      cases hv
  · rcases h with ⟨a, a1, a2, a3⟩ | ⟨a1, a2⟩
    · rw [e0, a3] at hn
      cases hn
    · have := D.fld hz a1
      rw [putK_new _ hn]
      have e1 : fkv (Fs ++ [(f, z)]) = fkv Fs ++ [((Sum.inr (S f) : Key), V.ref z)] := by
        unfold fkv
        rw [List.map_append]
        rfl
      rw [← e1]
      exact this
theorem Db.set2 (D : Db H l nl tb mk Fs Ws Ps) {f w : List Nat} {d : Addr} (hd : (f, d) ∈ Fs) (hz : H z = none) :
    (∀ v, valV (wkv Ws f) (Sum.inr (S w) : Key) = some v → ∃ x ∈ Ws, v = .ref x.rl ∧ x.f = f) ∧
    (valV (wkv Ws f) (Sum.inr (S w) : Key) = none → Db (L2.upd (L2.upd H z (.lst [])) d (.dK (putK (wkv Ws f) (Sum.inr (S w)) (.ref z)))) l nl tb mk Fs (Ws ++ [⟨f, w, z⟩]) Ps) := by
  have h := kv_get Wr.w Wr.rl w (wsOf Ws f)
  have e0 : wkv Ws f = (wsOf Ws f).map fun a => ((Sum.inr (S a.w) : Key), V.ref a.rl) := rfl
  refine ⟨fun v hv => ?_, fun hn => ?_⟩
  · rcases h with ⟨a, a1, a2, a3⟩ | ⟨_, a2⟩
    · rw [e0, a3] at hv
      cases hv
      exact ⟨a, (List.mem_filter.mp a1).1, rfl, of_decide_eq_true (List.mem_filter.mp a1).2⟩
    · rw [e0, a2] at hv
      cases hv
  · rcases h with ⟨a, a1, a2, a3⟩ | ⟨a1, a2⟩
    · rw [e0, a3] at hn
      cases hn
    · have := D.wrd (w := w) hd hz a1
      rw [putK_new _ hn]
      have e1 : wkv (Ws ++ [⟨f, w, z⟩]) f = wkv Ws f ++ [((Sum.inr (S w) : Key), V.ref z)] := by
        unfold wkv wsOf
        rw [List.filter_append, List.filter_cons_of_pos (by simp), List.filter_nil, List.map_append]
        rfl
      rw [← e1]
      exact this
theorem Db.fewF (D : Db H l nl tb mk Fs Ws Ps) (L : Lg mk Fs Ws Ps) : Fs.length ≤ 3 := by
  have : (Fs.map Prod.fst).length ≤ flds3.length := nodup_sub (List.pairwise_map.mpr D.fN) fun x hx => by
    obtain ⟨e, he, rfl⟩ := List.mem_map.mp hx
    exact L.fn e he
  rw [List.length_map] at this
  exact this
theorem Db.fewW (D : Db H l nl tb mk Fs Ws Ps) (L : Lg mk Fs Ws Ps) (f : List Nat) : (wsOf Ws f).length ≤ 4 := by
  have h1 : (wsOf Ws f).Pairwise fun a b => (a.f, a.w) ≠ (b.f, b.w) := D.wN.filter _
  have : ((wsOf Ws f).map Wr.w).length ≤ wrds4.length := nodup_sub (List.pairwise_map.mpr (List.Pairwise.imp_of_mem (fun {a b} ha hb h z => h (by
      have e1 : a.f = f := of_decide_eq_true (List.mem_filter.mp ha).2
      have e2 : b.f = f := of_decide_eq_true (List.mem_filter.mp hb).2
      have z' : a.w = b.w := z
      rw [e1, e2, z'])) h1)) fun x hx => by
    obtain ⟨e, he, rfl⟩ := List.mem_map.mp hx
    exact L.wn e (List.mem_filter.mp he).1
  rw [List.length_map] at this
  exact this
theorem La.fewP (A : La rl pl mk Fs Ws Ps) (rl' : Addr) : (psOf Ps rl').length ≤ mk.length := by
  have h1 : (psOf Ps rl').Pairwise fun a b => a.rl = b.rl → a.m < b.m := A.pp.filter _
  rw [← List.length_map (f := Rc.m) (as := psOf Ps rl')]
  refine nodup_subI (ks := mk) (List.pairwise_map.mpr (List.Pairwise.imp_of_mem (fun {a b} ha hb h => ?_) h1)) fun x hx => ?_
  · have := h (by rw [of_decide_eq_true (List.mem_filter.mp ha).2, of_decide_eq_true (List.mem_filter.mp hb).2])
    omega
  · obtain ⟨e, he, rfl⟩ := List.mem_map.mp hx
    exact A.pm e (List.mem_filter.mp he).1
end
end FC
/-! W35c: the two setdefaults read; what the fields' list keeps. -/
namespace FC
open PySem PySem.Spec PyProof.Rows L2
abbrev R3 : List V := [V.str "a", V.str "ab", V.str "body"]
theorem r3_ints (ds : List Int) : HO.lst (ds.map V.int) ≠ HO.lst R3 := fun z => by
  cases ds with
  | nil => cases HO.lst.inj z
  | cons d ds => cases HO.lst.inj z
theorem r3_refs {α : Type} (g : α → Addr) (ds : List α) : HO.lst (ds.map fun p => V.ref (g p)) ≠ HO.lst R3 := fun z => by
  cases ds with
  | nil => cases HO.lst.inj z
  | cons d ds => cases HO.lst.inj z
theorem setd2 {H : Hp} {l nl tb r : Addr} {mk : List Int} {Fs : List (List Nat × Addr)} {Ws : List Wr} {Ps : List Rc} {f w : List Nat} {y3 y4 y6 y8 : Option V} {Q : VK} (D : Db H l nl tb mk Fs Ws Ps) (L : Lg mk Fs Ws Ps) (hf : f ∈ flds3) (hw : w ∈ wrds4) (hr : H r = some (.lst R3))
    (k : ∀ Hx Fs' Ws' (x : Wr), Db Hx l nl tb mk Fs' Ws' Ps → (∀ pl, La x.rl pl mk Fs' Ws' Ps) → x ∈ Ws' → x.f = f → Hx r = some (.lst R3) → Q (.ref x.rl) Hx) :
    tDSetd (tDSetd (tVar 2) (tVar 5) tDNewK) (tVar 7) (tLst tNil) [some (.ref l), some (.ref nl), some (.ref tb), y3, y4, some (.str (S f)), y6, some (.str (S w)), y8] H Q := by
  have nx : ∀ {Hx : Hp} {Fs' : List (List Nat × Addr)} {d : Addr} {Q' : VK}, Db Hx l nl tb mk Fs' Ws Ps → Lg mk Fs' Ws Ps → (f, d) ∈ Fs' → Hx r = some (.lst R3) → (∀ Hx Fs' Ws' (x : Wr), Db Hx l nl tb mk Fs' Ws' Ps → (∀ pl, La x.rl pl mk Fs' Ws' Ps) → x ∈ Ws' → x.f = f → Hx r = some (.lst R3) → Q' (.ref x.rl) Hx) →
      ∃ a, V.ref d = .ref a ∧ IsD Hx a ∧ tVar 7 [some (.ref l), some (.ref nl), some (.ref tb), y3, y4, some (.str (S f)), y6, some (.str (S w)), y8] Hx fun y H2 => tLst tNil [some (.ref l), some (.ref nl), some (.ref tb), y3, y4, some (.str (S f)), y6, some (.str (S w)), y8] H2 fun z H3 => ∃ (kvs : List (Key × V)) (k : Key), H3 a = some (.dK kvs) ∧ y = kV k ∧ kvs.length < sizeLine ∧ (∀ v, valV kvs k = some v → Q' v H3) ∧ (valV kvs k = none → Q' z (upd H3 a (.dK (putK kvs k z)))) := by
    intro Hx Fs' d Q' D1 L1 hd hr1 k1
    refine ⟨d, rfl, .inl ⟨_, .inl (D1.d _ hd)⟩, _, rfl, sl_line (Nat.zero_le _), fun z hz => ?_⟩
    have D2 := D1.same (Same.upd_new (o := .lst []) hz)
    have hs := D1.set2 (w := w) hd hz
    have hr2 : upd Hx z (.lst []) r = some (.lst R3) := upd_old hr1 hz
    refine ⟨wkv Ws f, Sum.inr (S w), D2.d _ hd, rfl, ?_, fun v hv => ?_, fun hn => ?_⟩
    · unfold wkv
      rw [List.length_map]
      exact sl_lt (by have := D1.fewW L1 f; omega)
    · obtain ⟨x, hx, rfl, ef⟩ := hs.1 v hv
      exact k1 _ _ _ x D2 (fun pl => L1.la _ pl) hx ef hr2
    · have D3 := hs.2 hn
      refine k1 _ _ _ ⟨f, w, z⟩ D3 (fun pl => L1.wrd D1 hw hz pl) (List.mem_append_right _ (by simp)) rfl ?_
      exact upd_oth hr2 (ne_of hr2 (D2.d _ hd) (by intro z; cases z))
  refine ⟨_, rfl, tb, rfl, .inl ⟨_, .inl D.t⟩, _, rfl, fun z hz => ?_⟩
  have D2 := D.same (Same.upd_new (o := .dK []) hz)
  have hs := D.set1 L hf hz
  have hr2 : upd H z (.dK []) r = some (.lst R3) := upd_old hr hz
  refine ⟨fkv Fs, Sum.inr (S f), D2.t, rfl, ?_, fun v hv => ?_, fun hn => ?_⟩
  · unfold fkv
    rw [List.length_map]
    exact sl_lt (by have := D.fewF L; omega)
  · obtain ⟨d, rfl, hd⟩ := hs.1 v hv
    exact nx D2 L hd hr2 k
  · have D3 := hs.2 hn
    exact nx D3 (L.fld hf) (List.mem_append_right _ (by simp)) (upd_oth hr2 (ne_of hr2 D2.t (by intro z; cases z))) k
/-- all the row's postings are of earlier numbers -/
theorem La.lt {rl pl : Addr} {mk : List Int} {cm : Int} {Fs : List (List Nat × Addr)} {Ws : List Wr} {Ps : List Rc} (A : La rl pl (mk ++ [cm]) Fs Ws Ps) (hm : ∀ y ∈ mk, y < cm) (h : psOf Ps rl = [] ∨ ∃ q p0, psOf Ps rl = q ++ [p0] ∧ p0.m ≠ cm) : ∀ p ∈ Ps, p.rl = rl → p.m < cm := by
  have le : ∀ p ∈ Ps, p.m ≤ cm ∧ (p.m ≠ cm → p.m < cm) := fun p hp => by
    rcases List.mem_append.mp (A.pm p hp) with h | h
    · have := hm _ h
      exact ⟨by omega, fun _ => this⟩
    · have : p.m = cm := by simpa using h
      exact ⟨by omega, fun n => absurd this n⟩
  intro p hp e
  have hps : p ∈ psOf Ps rl := List.mem_filter.mpr ⟨hp, decide_eq_true e⟩
  rcases h with h | ⟨q, p0, h, n⟩
  · rw [h] at hps
    cases hps
  · have h0 : p0 ∈ psOf Ps rl := by rw [h]; simp
    have h0' := List.mem_filter.mp h0
    have l0 := (le p0 h0'.1).2 n
    have h1 : (psOf Ps rl).Pairwise fun a b => a.rl = b.rl → a.m < b.m := A.pp.filter _
    rw [h] at h1 hps
    rcases List.mem_append.mp hps with hq | hq
    · have := (List.pairwise_append.mp h1).2.2 p hq p0 (by simp) (by rw [e, of_decide_eq_true h0'.2])
      omega
    · have : p = p0 := by simpa using hq
      rw [this]
      exact l0
/-- the inner loop's turn -/
def InvA (l nl tb r : Addr) (mk : List Int) (cm : Int) (dn : List (List Nat)) (f : List Nat) (i : Nat) (σ : L2.St) (H : Hp) : Prop :=
  ∃ (Fs : List (List Nat × Addr)) (Ws : List Wr) (Ps : List Rc) (y3 y4 y6 y7 y8 : Option V), σ = [some (.ref l), some (.ref nl), some (.ref tb), y3, y4, some (.str (S f)), y6, y7, y8] ∧ Db H l nl tb mk Fs Ws Ps ∧ Lg mk Fs Ws Ps ∧ Stg cm dn f i Ps ∧ H r = some (.lst R3)
theorem inv_next {H : Hp} {l nl tb r : Addr} {mk : List Int} {cm : Int} {Fs : List (List Nat × Addr)} {Ws : List Wr} {Ps : List Rc} {dn : List (List Nat)} {f : List Nat} {i : Nat} {y3 y4 y6 y7 y8 : Option V} {x : Wr} {p0 : Rc} (D : Db H l nl tb mk Fs Ws Ps) (A : La x.rl p0.pl mk Fs Ws Ps) (St : Stg cm dn f i Ps) (hr : H r = some (.lst R3)) (hi : i < 3)
    (hx : x ∈ Ws) (ef : x.f = f) (h0 : p0 ∈ Ps) (e0 : p0.rl = x.rl) (em : p0.m = cm) (nd : f ∉ dn) : InvA l nl tb r mk cm dn f (i + 1) [some (.ref l), some (.ref nl), some (.ref tb), y3, y4, some (.str (S f)), y6, y7, y8] (upd H p0.pl (.lst (p0.xs.map V.int ++ [V.int (i : Int)]))) := by
  have hpf : p0.f = f := by rw [← ef]; exact (A.pf p0 h0 x hx e0.symm).symm
  have hlt : ∀ y ∈ p0.xs, y < (i : Int) := by
    rcases St p0 h0 em with h | ⟨_, h⟩
    · rw [hpf] at h
      exact absurd h nd
    · exact h
  have D' := D.add h0 (i : Int)
  rw [List.map_append] at D'
  refine ⟨Fs, Ws, _, y3, y4, y6, y7, y8, rfl, D', A.fin D h0 e0 rfl hi hlt, St.fin D h0 hpf hlt, ?_⟩
  exact upd_oth hr (ne_of hr (D.p p0 h0).2 fun z => r3_ints _ z.symm)
end FC
/-! W35: the law's drawn piece. -/
namespace FC
open PySem PySem.Spec PyProof.Rows L2
def spDrawn : Sp := fun vs H Q _ => ∃ l : Addr, vs = [.ref l] ∧ DrawsAt H l ∧ ∀ (t nl tb : Addr) (H' : Hp) (makes : List Int) (tab : Tab), DrawsAt H' l → H' t = some (.tup [.ref nl, .ref tb]) → H' nl = some (.lst (makes.map V.int)) → TabAt H' tb tab → DrOk makes tab → Q (.ref t) H'
theorem mod4 {v : Int} : ∃ n : Nat, v % 4 = (n : Int) ∧ n < 4 := by
  have h1 := Int.emod_nonneg v (show (4 : Int) ≠ 0 by decide)
  have h2 := Int.emod_lt_of_pos v (show (0 : Int) < 4 by decide)
  exact ⟨(v % 4).toNat, by omega, by omega⟩
theorem step3 (v : Int) : ∃ m : Int, atI ([V.int 0, V.int (v / 3 % 9), V.int (v / 3 % 300)]) (v % 3) = some (.int m) ∧ 0 ≤ m ∧ m ≤ 300 := by
  have h1 := Int.emod_nonneg v (show (3 : Int) ≠ 0 by decide)
  have h2 := Int.emod_lt_of_pos v (show (0 : Int) < 3 by decide)
  obtain ⟨n, hn, hn2⟩ : ∃ n : Nat, v % 3 = (n : Int) ∧ n < 3 := ⟨(v % 3).toNat, by omega, by omega⟩
  have a1 := Int.emod_nonneg (v / 3) (show (9 : Int) ≠ 0 by decide)
  have a2 := Int.emod_lt_of_pos (v / 3) (show (0 : Int) < 9 by decide)
  have a3 := Int.emod_nonneg (v / 3) (show (300 : Int) ≠ 0 by decide)
  have a4 := Int.emod_lt_of_pos (v / 3) (show (0 : Int) < 300 by decide)
  rw [hn]
  match n, hn2 with
  | 0, _ => exact ⟨0, rfl, by decide, by decide⟩
  | 1, _ => exact ⟨_, rfl, a1, by omega⟩
  | 2, _ => exact ⟨_, rfl, a3, by omega⟩
theorem wrd4 (v : Int) : ∃ w ∈ wrds4, atI ([V.str "ab", V.str "b", V.str "a1", V.str "0"]) (v % 4) = some (.str (S w)) := by
  obtain ⟨n, hn, hn2⟩ := mod4 (v := v)
  rw [hn]
  match n, hn2 with
  | 0, _ => exact ⟨[97, 98], by decide, rfl⟩
  | 1, _ => exact ⟨[98], by decide, rfl⟩
  | 2, _ => exact ⟨[97, 49], by decide, rfl⟩
  | 3, _ => exact ⟨[48], by decide, rfl⟩
/-- the next number -/
theorem nextN {mk : List Int} {k : Nat} {m : Int} (hr : Rises mk) (hl : mk.length = k) (hb : ∀ x ∈ mk, x ≤ 301 * k) (h0 : 0 ≤ m) (h1 : m ≤ 300) :
    Rises (mk ++ [mk.getLast?.getD 0 + (if decide ((k : Int) > 0) then 1 else 0) + m]) ∧ (∀ x ∈ mk ++ [mk.getLast?.getD 0 + (if decide ((k : Int) > 0) then 1 else 0) + m], x ≤ 301 * ((k + 1 : Nat) : Int)) ∧ ∀ x ∈ mk, x < mk.getLast?.getD 0 + (if decide ((k : Int) > 0) then 1 else 0) + m := by
  rcases List.eq_nil_or_concat mk with rfl | ⟨g, y, rfl⟩
  · have : k = 0 := hl.symm
    subst this
    refine ⟨⟨fun x hx => ?_, List.pairwise_singleton _ _⟩, fun x hx => ?_, fun x hx => (nomatch hx)⟩
    · have : x = 0 + 0 + m := by simpa using hx
      omega
    · have : x = 0 + 0 + m := by simpa using hx
      omega
  · have hk : 0 < k := by
      rw [← hl]
      simp
    have e : (g.concat y).getLast?.getD 0 = y := by simp
    have e2 : (if decide ((k : Int) > 0) then (1 : Int) else 0) = 1 := if_pos (decide_eq_true (by omega))
    rw [e, e2]
    rw [List.concat_eq_append] at *
    have hy : y ∈ g ++ [y] := by simp
    have y0 := hr.1 y hy
    have yb := hb y hy
    have lt : ∀ x ∈ g ++ [y], x < y + 1 + m := fun x hx => by
      rcases List.mem_append.mp hx with hx | hx
      · have := (List.pairwise_append.mp hr.2).2.2 x hx y (by simp)
        omega
      · have : x = y := by simpa using hx
        omega
    refine ⟨⟨fun x hx => ?_, pw_snoc hr.2 lt⟩, fun x hx => ?_, lt⟩
    · rcases List.mem_append.mp hx with hx | hx
      · exact hr.1 x hx
      · have : x = y + 1 + m := by simpa using hx
        omega
    · rcases List.mem_append.mp hx with hx | hx
      · have := hb x hx
        omega
      · have : x = y + 1 + m := by simpa using hx
        omega
section
variable {P : Program} {w : World} {K : PySem.W.Frag} {mg : Str → Option Value} {base : Heap} {c : Cl}
theorem ok__law_drawn (T : Txt K mg c) : GFn P w K mg base CX0 2 "_law_drawn" ["_law_draws_here"] spDrawn := by
  obtain ⟨f, fd, F, hm, hb⟩ := T.d__law_drawn
  have g__law_pop : GFn P w K mg base CX0 1 "_law_pop" ["_law_draws_here"] spPop := ok__law_pop T
  refine ⟨f, fd, hm, F.kp, hb, F.ok sc__law_drawn (fun vs H Q E h => ?_) (fun cdv A outer s H vs Q E hr h => ?_)⟩
  · obtain ⟨l, rfl, _⟩ := h
    rfl
  · obtain ⟨l, rfl, hD, q⟩ := h
    have nd := sc__law_drawn.nd
    refine ⟨_, (pss_cons (ps_set (i := 1) nd rfl (.inl rfl) (pe_lst pa_nil))
      (pss_cons (ps_set (i := 2) nd rfl (.inl rfl) pe_dnewK)
      (pss_cons (ps_for PassesOwn.never rfl (pi_range1 (by rfl) T.b_range (pa_cons (pe_op op_mod (pe_g g__law_pop hr (by rfl) pass0 (pa_cons (pv 0) pa_nil)) pe_int) pa_nil)) (pg_name (i := 3) nd rfl (.inl rfl))
        (pss_cons (ps_set (i := 4) nd rfl (.inl rfl) (pe_g g__law_pop hr (by rfl) pass0 (pa_cons (pv 0) pa_nil)))
        (pss_cons (ps_expr (pe_bm PySem.F.plainAttrs_list PySem.F.slot_list_append PySem.F.type_list_append mt_append (pv 1) (pa_cons (pe_op op_add (pe_op op_add (pe_callB (cr_sum rfl) (by rfl) T.b_sum boot_sum (pa_cons (pe_slice sl_list (pv 1) (po_some (pe_un un_neg pe_int)) po_none) pa_nil)) (pe_callTy call_int1 (by rfl) T.b_int boot_int (pa_cons (pe_cmpR op_gt (pv 3) pe_int (nomark _)) pa_nil))) (pe_ix ix_list (pe_lst (pa_cons pe_int (pa_cons (pe_op op_mod (pe_op op_fdiv (pv 4) pe_int) pe_int) (pa_cons (pe_op op_mod (pe_op op_fdiv (pv 4) pe_int) pe_int) pa_nil)))) (pe_op op_mod (pv 4) pe_int) (fun _ _ => rfl))) pa_nil)))
        (pss_one (ps_for PassesOwn.never rfl (pi_list (pe_lst (pa_cons pe_str (pa_cons pe_str (pa_cons pe_str pa_nil))))) (pg_name (i := 5) nd rfl (.inl rfl))
          (pss_one (ps_for PassesOwn.never rfl (pi_range1 (by rfl) T.b_range (pa_cons (pe_op op_mod (pe_g g__law_pop hr (by rfl) pass0 (pa_cons (pv 0) pa_nil)) pe_int) pa_nil)) (pg_name (i := 6) nd rfl (.inl rfl))
            (pss_cons (ps_set (i := 7) nd rfl (.inl rfl) (pe_ix ix_list (pe_lst (pa_cons pe_str (pa_cons pe_str (pa_cons pe_str (pa_cons pe_str pa_nil))))) (pe_op op_mod (pe_g g__law_pop hr (by rfl) pass0 (pa_cons (pv 0) pa_nil)) pe_int) (fun _ _ => rfl)))
            (pss_cons (ps_set (i := 8) nd rfl (.inl rfl) (pe_dsetd (pe_dsetd (pv 2) (pv 5) pe_dnewK ⟨rfl, rfl, rfl, rfl⟩) (pv 7) (pe_lst pa_nil) ⟨rfl, rfl, rfl, rfl⟩))
            (pss_cons (ps_if (PW.pt (pw_or (pt_cmpR (op_eqD hr.units) (pv 8) (pe_lst pa_nil) (nomark _)) (pw_or1 (pt_cmpR op_ne (pe_ix ix_tup (pe_ix ix_list (pv 8) (pe_un un_neg pe_int) (fun _ _ => rfl)) pe_int (fun _ _ => rfl)) (pe_ix ix_list (pv 1) (pe_un un_neg pe_int) (fun _ _ => rfl)) (nomark _)))))
              (pss_one (ps_expr (pe_bm PySem.F.plainAttrs_list PySem.F.slot_list_append PySem.F.type_list_append mt_append (pv 8) (pa_cons (pe_tup (pa_cons (pe_ix ix_list (pv 1) (pe_un un_neg pe_int) (fun _ _ => rfl)) (pa_cons (pe_lst pa_nil) pa_nil))) pa_nil))))
              pss_nil)
            (pss_one (ps_expr (pe_bm PySem.F.plainAttrs_list PySem.F.slot_list_append PySem.F.type_list_append mt_append (pe_ix ix_tup (pe_ix ix_list (pv 8) (pe_un un_neg pe_int) (fun _ _ => rfl)) pe_int (fun _ _ => rfl)) (pa_cons (pv 6) pa_nil))))))))))))))
      (pss_one (ps_ret (pe_tup (pa_cons (pv 1) (pa_cons (pv 2) pa_nil)))))))), ?_⟩

    refine ⟨sl_line (Nat.zero_le _), fun nl hnl => ?_⟩
    intro tb htb
    obtain ⟨ntn, htb0⟩ := free_ne htb
    have D0 : Db (L2.upd (L2.upd H nl (.lst [])) tb (.dK [])) l nl tb [] [] [] [] := by
      refine ⟨(hD.new hnl).new htb, upd_old upd_same htb, upd_same, ?_, ?_, ?_, .nil, .nil, ?_, .nil, .nil, .nil, ?_, ?_, ?_, ?_, ?_, hD.ne hnl, ?_, ?_⟩ <;> intro a ha <;> cases ha
    have L0 : Lg [] [] [] [] := by
      refine ⟨?_, ?_, ?_, ?_, ?_, .nil, ?_⟩ <;> intro a ha <;> cases ha
    generalize L2.upd (L2.upd H nl (.lst [])) tb (.dK []) = H0 at D0
    refine ⟨_, rfl, l, rfl, D0.dr, fun v0 H1 hv0 k1 hD1 => ?_⟩
    obtain ⟨n0, en0, hn0⟩ := mod4 (v := v0)
    refine ⟨_, _, rfl, rfl, (by decide : (0 : Int) < 4), _, rfl, by omega, by omega, for_range (fun k σ H' => ∃ (mk : List Int) (Fs : List (List Nat × Addr)) (Ws : List Wr) (Ps : List Rc) (y3 y4 y5 y6 y7 y8 : Option V),
      σ = [some (.ref l), some (.ref nl), some (.ref tb), y3, y4, y5, y6, y7, y8] ∧ Db H' l nl tb mk Fs Ws Ps ∧ Lg mk Fs Ws Ps ∧ Rises mk ∧ mk.length = k ∧ ∀ x ∈ mk, x ≤ 301 * (k : Int))
      ⟨[], [], [], [], none, none, none, none, none, none, rfl, D0.pop k1 hD1, L0, ⟨fun _ z => (nomatch z), .nil⟩, rfl, fun _ z => (nomatch z)⟩ ?_ ?_⟩
    · rintro k σ H2 hk ⟨mk, Fs, Ws, Ps, y3, y4, y5, y6, y7, y8, rfl, D2, L2', hR, hlk, hbk⟩
      have hk3 : k < 3 := by omega
      -- the number
      refine ⟨_, rfl, l, rfl, D2.dr, fun v1 H3 hv1 k3 hD3 => ?_⟩
      have D3 := D2.pop k3 hD3
      obtain ⟨m, em, hm0, hm3⟩ := step3 v1
      obtain ⟨r1, r2, r3⟩ := nextN hR hlk hbk hm0 hm3
      refine ⟨_, rfl, .inl ⟨rfl, _, SqL.of D3.n⟩, _, rfl, _, rfl, _, rfl, nl, _, rfl, SqL.of D3.n, fun p hp => ⟨p, mk.getLast?.toList, rfl, SqL.of (by rw [upd_same]; exact congrArg (fun z => some (HO.lst z)) (cut_last mk)), ?_⟩⟩
      have D4 := D3.same (Same.upd_new (o := .lst (cutV (mk.map V.int) (some (-1)) none)) hp)
      refine ⟨_, rfl, _, _, rfl, rfl, .inr ⟨_, rfl, _, _, rfl, rfl, _, rfl, _, _, rfl, rfl, ⟨(by decide : (0 : Int) < 3), (by decide : (3 : Int) < 1073741824)⟩, _, _, rfl, rfl, (by decide : (0 : Int) < 9), _, rfl, _, _, rfl, rfl, ⟨(by decide : (0 : Int) < 3), (by decide : (3 : Int) < 1073741824)⟩, _, _, rfl, rfl, (by decide : (0 : Int) < 300), sl_line (by show 3 ≤ 100000; decide), fun p2 hp2 => ⟨_, rfl, _, _, rfl, rfl, (by decide : (0 : Int) < 3), p2, _, _, _, rfl, rfl, SqL.of upd_same, em, _, _, rfl, rfl, nl, mk.map V.int, _, rfl, rfl, upd_old D4.n hp2, ?_, ?_⟩⟩⟩
      · rw [List.length_map]
        exact sl_lt (by omega)
      rw [sum_last]
      have D5 := (D4.same (Same.upd_new (o := .lst [V.int 0, V.int (v1 / 3 % 9), V.int (v1 / 3 % 300)]) hp2)).num (mk.getLast?.getD 0 + (if decide ((k : Int) > 0) then 1 else 0) + m)
      have L5 := L2'.num (mk.getLast?.getD 0 + (if decide ((k : Int) > 0) then 1 else 0) + m)
      rw [Int.zero_add]
      rw [List.map_append] at D5
      have D5' : Db (L2.upd (L2.upd (L2.upd H3 p (.lst (cutV (mk.map V.int) (some (-1)) none))) p2 (.lst [V.int 0, V.int (v1 / 3 % 9), V.int (v1 / 3 % 300)])) nl (.lst (mk.map V.int ++ [V.int (mk.getLast?.getD 0 + (if decide ((k : Int) > 0) then 1 else 0) + m)]))) l nl tb (mk ++ [mk.getLast?.getD 0 + (if decide ((k : Int) > 0) then 1 else 0) + m]) Fs Ws Ps := D5
      clear D5
      generalize (L2.upd (L2.upd (L2.upd H3 p (.lst (cutV (mk.map V.int) (some (-1)) none))) p2 (.lst [V.int 0, V.int (v1 / 3 % 9), V.int (v1 / 3 % 300)])) nl (.lst (mk.map V.int ++ [V.int (mk.getLast?.getD 0 + (if decide ((k : Int) > 0) then 1 else 0) + m)]))) = H5 at D5' ⊢
      generalize mk.getLast?.getD 0 + (if decide ((k : Int) > 0) then 1 else 0) + m = cm at D5' L5 r1 r2 r3
      have S5 : ∀ p ∈ Ps, p.m = cm → p.f ∈ flds3.take 0 := fun p hp e => by
        have := r3 _ (L2'.pm p hp)
        omega
      -- the fields
      refine ⟨sl_line (by show 3 ≤ 100000; decide), fun r hr' => ⟨r, rfl, ⟨_, SqL.of upd_same⟩, for_list (xs := R3) (fun j σ H' => ∃ (Fs : List (List Nat × Addr)) (Ws : List Wr) (Ps : List Rc) (y3 y4 y5 y6 y7 y8 : Option V), σ = [some (.ref l), some (.ref nl), some (.ref tb), y3, y4, y5, y6, y7, y8] ∧ Db H' l nl tb (mk ++ [cm]) Fs Ws Ps ∧ Lg (mk ++ [cm]) Fs Ws Ps ∧ (∀ p ∈ Ps, p.m = cm → p.f ∈ flds3.take j) ∧ H' r = some (.lst R3))
        ⟨Fs, Ws, Ps, _, _, _, _, _, _, rfl, D5'.same (Same.upd_new hr'), L5, S5, upd_same⟩ (fun j σ H' _ ⟨_, _, _, _, _, _, _, _, _, _, _, _, _, e⟩ => SqL.of e) ?_ ?_⟩⟩
      · rintro j v σ H6 hv ⟨Fs6, Ws6, Ps6, z3, z4, z5, z6, z7, z8, rfl, D6, L6, S6, hr6⟩
        obtain ⟨fj, rfl, hfj, hnd, hnx⟩ : ∃ fj : List Nat, v = .str (S fj) ∧ fj ∈ flds3 ∧ fj ∉ flds3.take j ∧ ∀ g, g ∈ flds3.take j ∨ g = fj → g ∈ flds3.take (j + 1) := by
          match j, hv with
          | 0, hv => exact ⟨[97], (Option.some.inj hv).symm, by decide, by decide, fun g h => by rcases h with h | rfl; cases h; exact List.mem_cons_self⟩
          | 1, hv => exact ⟨[97, 98], (Option.some.inj hv).symm, by decide, by decide, fun g h => by
              rcases h with h | rfl
              · exact List.mem_of_mem_take (i := 1) (l := flds3.take 2) h
              · decide⟩
          | 2, hv => exact ⟨[98, 111, 100, 121], (Option.some.inj hv).symm, by decide, by decide, fun g h => by
              rcases h with h | rfl
              · exact List.mem_of_mem_take (i := 2) (l := flds3.take 3) h
              · decide⟩
        refine ⟨_, rfl, l, rfl, D6.dr, fun v7 H7 hv7 k7 hD7 => ?_⟩
        obtain ⟨n7, en7, hn7⟩ := mod4 (v := v7)
        have rl : r ≠ l := by
          obtain ⟨ds, d1, _⟩ := D6.dr
          exact ne_of hr6 d1 fun z => r3_ints _ z.symm
        refine ⟨_, _, rfl, rfl, (by decide : (0 : Int) < 4), _, rfl, by omega, by omega, for_range (InvA l nl tb r (mk ++ [cm]) cm (flds3.take j) fj)
          ⟨Fs6, Ws6, Ps6, _, _, _, _, _, rfl, D6.pop k7 hD7, L6, fun p hp e => .inl (S6 p hp e), k7 _ _ hr6 (by simpa using rl)⟩ ?_ ?_⟩
        · rintro i σ H8 hi ⟨Fs8, Ws8, Ps8, x3, x4, x6, x7, x8, rfl, D8, L8, S8, hr8⟩
          have hi3 : i < 3 := by omega
          -- the word
          refine ⟨sl_line (by show 4 ≤ 100000; decide), fun q1 hq1 => ⟨_, rfl, l, rfl, (D8.same (Same.upd_new hq1)).dr, fun v9 H9 hv9 k9 hD9 => ?_⟩⟩
          obtain ⟨wd, hwd, ewd⟩ := wrd4 v9
          have D9 := (D8.same (Same.upd_new hq1)).pop k9 hD9
          have hr9 : H9 r = some (.lst R3) := k9 _ _ (upd_old hr8 hq1) (by simpa using rl)
          have q1l : q1 ≠ l := D8.dr.ne hq1
          refine ⟨_, _, rfl, rfl, (by decide : (0 : Int) < 4), q1, _, _, _, rfl, rfl, SqL.of (k9 _ _ upd_same (by simpa using q1l)), ewd, ?_⟩
          rw [Int.zero_add]
          refine setd2 D9 L8 hfj hwd hr9 fun H10 Fs10 Ws10 x D10 A10 hx10 ef10 hr10 => ?_
          -- the next step
          dsimp only
          have hP10 := D10.posts hx10
          have few := (A10 0).fewP x.rl
          have emk : (mk ++ [cm]).map V.int = mk.map V.int ++ [V.int cm] := by rw [List.map_append]; rfl
          have eps : ∀ {q : List Rc} {p0 : Rc}, psOf Ps8 x.rl = q ++ [p0] → (psOf Ps8 x.rl).map (fun p => V.ref p.t) = q.map (fun p => V.ref p.t) ++ [V.ref p0.t] := fun h => by rw [h, List.map_append]; rfl
          refine seq_tst (Tst.or (p := decide (psOf Ps8 x.rl = [])) (q := !decide (V.int (((psOf Ps8 x.rl).getLast?.map Rc.m).getD 0) = V.int cm)) (fun Q k => ⟨_, rfl, sl_line (Nat.zero_le _), fun q2 hq2 => ⟨_, _, dp_posts (upd_old hP10.1 hq2) (hP10.2.same (Same.upd_new hq2)), dp_ints (a := []) (SqL.of upd_same), shaped_posts _, shaped_intL _, _, rfl, ?_⟩⟩) fun hn H11 s11 Q k => ?_) fun H11 s11 => ?_
          · rw [eqv_posts_nil]
            have : decide ((psOf Ps8 x.rl).map (fun p => (p.m, p.xs)) = []) = decide (psOf Ps8 x.rl = []) := by simp
            rw [this]
            exact k _ (Same.upd_new hq2)
          · obtain ⟨q3, p0, e3⟩ : ∃ q p0, psOf Ps8 x.rl = q ++ [p0] := by
              rcases List.eq_nil_or_concat (psOf Ps8 x.rl) with h | ⟨q3, p0, h⟩
              · exact absurd h (of_decide_eq_false hn)
              · exact ⟨q3, p0, by rw [h, List.concat_eq_append]⟩
            have h0 : p0 ∈ psOf Ps8 x.rl := by rw [e3]; simp
            have D11 := D10.same s11
            have hr11 := D11.r x hx10
            have hn11 := D11.n
            rw [eps e3] at hr11
            rw [emk] at hn11
            refine ⟨_, rfl, _, rfl, x.rl, _, _, _, rfl, rfl, SqL.of hr11, atI_last _ _, p0.t, _, _, _, rfl, rfl, SqT.of (D11.p p0 (List.mem_filter.mp h0).1).1, at0 _ _, _, rfl, _, rfl, nl, _, _, _, rfl, rfl, SqL.of hn11, atI_last _ _, rfl, _, rfl, ?_⟩
            have : ((psOf Ps8 x.rl).getLast?.map Rc.m).getD 0 = p0.m := by rw [e3]; simp
            rw [this] at k
            exact k _ (Same.refl _)
          · have D11 := D10.same s11
            have hr11 : H11 r = some (.lst R3) := s11 _ _ hr10
            have hnl11 := D11.n
            rw [emk] at hnl11
            have hrw11 := D11.r x hx10
            have hcm : cm ∈ mk ++ [cm] := by simp
            by_cases hc : psOf Ps8 x.rl = [] ∨ ∃ q p0, psOf Ps8 x.rl = q ++ [p0] ∧ p0.m ≠ cm
            · -- a new posting
              have hlt := (A10 0).lt r3 hc
              refine bT ?_ ?_
              · rcases hc with h | ⟨q3, p0, e3, n⟩
                · simp [h]
                · have : ((psOf Ps8 x.rl).getLast?.map Rc.m).getD 0 = p0.m := by rw [e3]; simp
                  rw [this]
                  simp [n]
              refine ⟨_, rfl, .inl ⟨rfl, _, SqL.of hrw11⟩, _, rfl, _, rfl, nl, _, _, _, rfl, rfl, SqL.of hnl11, atI_last _ _, sl_line (Nat.zero_le _), fun pl hpl => ⟨by show 2 ≤ sizeLine; decide, fun t ht => ⟨x.rl, _, _, rfl, rfl, upd_old (upd_old hrw11 hpl) ht, ?_, ?_⟩⟩⟩
              · rw [List.length_map]
                exact sl_lt (by simp only [List.length_append, List.length_cons, List.length_nil] at few; omega)
              have D12 := D11.pst (m := cm) hx10 hpl ht
              have ef : psOf (Ps8 ++ [⟨x.rl, t, pl, x.f, cm, []⟩]) x.rl = psOf Ps8 x.rl ++ [⟨x.rl, t, pl, x.f, cm, []⟩] := by
                unfold psOf
                rw [List.filter_append, List.filter_cons_of_pos (by simp), List.filter_nil]
              have hr12 := D12.r x hx10
              rw [ef, List.map_append] at hr12
              have hp12 := D12.p ⟨x.rl, t, pl, x.f, cm, []⟩ (by simp)
              have hrr : (L2.upd (L2.upd (L2.upd H11 pl (.lst [])) t (.tup [.int cm, .ref pl])) x.rl (.lst ((psOf Ps8 x.rl).map (fun p => V.ref p.t) ++ [.ref t]))) r = some (.lst R3) := by
                refine upd_oth (upd_old (upd_old hr11 hpl) ht) (ne_of hr11 hrw11 fun z => r3_refs Rc.t _ z.symm)
              have A12 := (A10 pl).pst D11 hx10 rfl (t := t) (pl' := pl) hcm (fun p hp => (L8.px p hp).1) hlt
              have S12 : Stg cm (flds3.take j) fj i (Ps8 ++ [⟨x.rl, t, pl, x.f, cm, []⟩]) := fun p hp e => by
                rcases List.mem_append.mp hp with hp | hp
                · exact S8 p hp e
                · have : p = ⟨x.rl, t, pl, x.f, cm, []⟩ := by simpa using hp
                  subst this
                  exact .inr ⟨ef10, fun _ z => (nomatch z)⟩
              refine ⟨_, rfl, _, rfl, x.rl, _, _, _, rfl, rfl, SqL.of hr12, atI_last _ _, t, _, _, _, rfl, rfl, SqT.of hp12.1, at1 _ _, .inl ⟨rfl, _, SqL.of hp12.2⟩, _, rfl, pl, _, _, rfl, rfl, hp12.2, ?_, ?_⟩
              · exact sl_lt (Nat.zero_lt_succ _)
              exact inv_next (p0 := ⟨x.rl, t, pl, x.f, cm, []⟩) D12 A12 S12 hrr hi3 hx10 ef10 (by simp) rfl rfl hnd
            · -- the last posting is of this number
              obtain ⟨q3, p0, e3, em0⟩ : ∃ q p0, psOf Ps8 x.rl = q ++ [p0] ∧ p0.m = cm := by
                rcases List.eq_nil_or_concat (psOf Ps8 x.rl) with h | ⟨q3, p0, h⟩
                · exact absurd (.inl h) hc
                · rw [List.concat_eq_append] at h
                  exact ⟨q3, p0, h, Classical.byContradiction fun n => hc (.inr ⟨q3, p0, h, n⟩)⟩
              refine bF ?_ ?_
              · have : ((psOf Ps8 x.rl).getLast?.map Rc.m).getD 0 = p0.m := by rw [e3]; simp
                rw [this, em0, e3]
                simp
              have h0 : p0 ∈ psOf Ps8 x.rl := by rw [e3]; simp
              have h0' := (List.mem_filter.mp h0).1
              have e0 : p0.rl = x.rl := of_decide_eq_true (List.mem_filter.mp h0).2
              have hp11 := D11.p p0 h0'
              rw [eps e3] at hrw11
              refine ⟨_, rfl, _, rfl, x.rl, _, _, _, rfl, rfl, SqL.of hrw11, atI_last _ _, p0.t, _, _, _, rfl, rfl, SqT.of hp11.1, at1 _ _, .inl ⟨rfl, _, SqL.of hp11.2⟩, _, rfl, p0.pl, _, _, rfl, rfl, hp11.2, ?_, ?_⟩
              · rw [List.length_map]
                obtain ⟨_, b2, b3⟩ := (A10 p0.pl).px p0 h0'
                have := rises_len (xs := p0.xs) (k := 0) (fun y hy => ⟨b2.1 y hy, b3 y hy⟩) b2.2
                exact sl_lt (by omega)
              exact inv_next D11 (A10 p0.pl) S8 hr11 hi3 hx10 ef10 h0' e0 em0 hnd
        · rintro σ H8 ⟨Fs8, Ws8, Ps8, x3, x4, x6, x7, x8, rfl, D8, L8, S8, hr8⟩
          refine ⟨Fs8, Ws8, Ps8, x3, x4, _, x6, x7, x8, rfl, D8, L8, fun p hp e => hnx _ ?_, hr8⟩
          rcases S8 p hp e with h | h
          · exact .inl h
          · exact .inr h.1
      · rintro σ H6 ⟨Fs6, Ws6, Ps6, z3, z4, z5, z6, z7, z8, rfl, D6, L6, S6, hr6⟩
        refine ⟨_, Fs6, Ws6, Ps6, z3, z4, z5, z6, z7, z8, rfl, D6, L6, r1, ?_, r2⟩
        rw [List.length_append, hlk]
        rfl
    · rintro σ H2 ⟨mk, Fs, Ws, Ps, y3, y4, y5, y6, y7, y8, rfl, D2, L2', hR, hlk, hbk⟩
      have hl3 : mk.length ≤ 3 := by omega
      refine ⟨_, rfl, _, rfl, by show 2 ≤ sizeLine; decide, fun t ht => ?_⟩
      have D3 := D2.same (Same.upd_new (o := .tup [.ref nl, .ref tb]) ht)
      exact q t nl tb _ mk _ D3.dr upd_same D3.n D3.tab (D3.ok L2' hR hl3 fun x hx => by
        have := hbk x hx
        omega)
end
end FC
/-! W36: law. -/
namespace FC
open PySem PySem.Spec PyProof.Rows L2
theorem passF {X : Cx} : Passes (L2.CX X.prog X.w) X (fun _ _ _ => False) := fun _ _ _ _ _ _ _ ⟨_, _, _, _, _, _, _, _, _, _, _, _, q⟩ => q.elim
def spLaw (K : PySem.W.Frag) : Sp := fun vs H Q _ => ∃ (s : Addr) (zs : List Int), vs = [.ref s] ∧ SqL K H s (zs.map V.int) ∧ zs.length ≤ 63 ∧ ∀ H', Q (.bl true) H'
theorem shaped_bytes : SeqAt.shaped (.list [.str "bytes"]) = true := by decide +kernel
theorem eqv_bytes : PyData.eqv (.list [.str "bytes"]) (.list [.str "bytes"]) = true := by
  show PyData.eqvAll _ _ = true
  simp [PyData.eqvAll, PyData.eqv]
section
variable {P : Program} {w : World} {K : PySem.W.Frag} {mg : Str → Option Value} {base : Heap} {c : Cl}
theorem ok_law (T : Txt K mg c) {f : Addr} {fd : FuncData} (F : Fun K "law" "law" s_law f fd) : FnOk P w K mg base CX0 11 f fd ["_law_script"] (spLaw K) := by
  have g__law_draws : GFn P w K mg base CX0 1 "_law_draws" ["_law_script", "_law_turn", "_law_many"] (spDraws K) := ok__law_draws T
  have g__law_pop : GFn P w K mg base CX0 1 "_law_pop" ["_law_draws_here"] spPop := ok__law_pop T
  have g__law_drawn : GFn P w K mg base CX0 2 "_law_drawn" ["_law_draws_here"] spDrawn := ok__law_drawn T
  have g__law_piece_bytes : GFn P w K mg base CX0 3 "_law_piece_bytes" ["_law_makes", "_law_table"] spLPieceB := ok__law_piece_bytes T
  have g__law_bent : GFn P w K mg base CX0 2 "_law_bent" ["_law_row", "_law_draws_here"] spBent := ok__law_bent T
  have g__law_piece_in : GFn P w K mg base CX0 6 "_law_piece_in" ["_law_row"] spPieceIn := ok__law_piece_in T
  have g__law_refused : GFn P w K mg base CX0 10 "_law_refused" ["_law_row"] spRefused := ok__law_refused T
  have g_read_piece : GFn P w K mg base (L2.CX P w) 9 "read_piece" ["row"] (spRead c) := ok_read_piece T
  have g__law_tells : GFn P w K mg base CX0 5 "_law_tells" ["_law_piece", "_law_makes", "_law_table"] (spTells c) := ok__law_tells T
  have g_piece_bytes : GFn P w K mg base CX0 5 "piece_bytes" ["piece"] (spPieceB c) := ok_piece_bytes T
  refine F.ok sc_law (fun vs H Q E h => ?_) (fun cdv A outer s H vs Q E hr h => ?_)
  · obtain ⟨s, zs, rfl, _⟩ := h
    rfl
  · obtain ⟨sc, zs, rfl, hS, hz, q⟩ := h
    have nd := sc_law.nd
    refine ⟨_, (pss_cons (ps_set (i := 1) nd rfl (.inl rfl) (pe_g g__law_draws hr (by rfl) pass0 (pa_cons (pv 0) (pa_cons pe_int (pa_cons pe_int pa_nil)))))
      (pss_cons (ps_set (i := 2) nd rfl (.inl rfl) (pe_g g__law_pop hr (by rfl) pass0 (pa_cons (pv 1) pa_nil)))
      (pss_cons (ps_asg (pe_g g__law_drawn hr (by rfl) pass0 (pa_cons (pv 1) pa_nil)) (pg_tup rfl (pgs_cons (pg_name (i := 3) nd rfl (.inl rfl)) (pgs_cons (pg_name (i := 4) nd rfl (.inl rfl)) pgs_nil))))
      (pss_cons (ps_set (i := 5) nd rfl (.inl rfl) (pe_g g__law_piece_bytes hr (by rfl) pass0 (pa_cons (pv 3) (pa_cons (pv 4) pa_nil))))
      (pss_cons (ps_for PassesOwn.never rfl (pi_range1 (by rfl) T.b_range (pa_cons (pe_ix ix_list (pe_lst (pa_cons pe_int (pa_cons pe_int (pa_cons pe_int (pa_cons pe_int pa_nil))))) (pe_op op_mod (pe_op op_fdiv (pv 2) pe_int) pe_int) (fun _ _ => rfl)) pa_nil)) (pg_name (i := 6) nd rfl (.inl rfl))
        (pss_one (ps_set (i := 5) nd rfl (.inl rfl) (pe_g g__law_bent hr (by rfl) pass0 (pa_cons (pv 5) (pa_cons (pv 1) pa_nil))))))
      (pss_cons (ps_set (i := 7) nd rfl (.inl rfl) (pe_g g__law_piece_in hr (by rfl) pass0 (pa_cons (pv 5) pa_nil)))
      (pss_cons (ps_set (i := 8) nd rfl (.inl rfl) (pe_callTy call_list_of (by rfl) T.b_list boot_list (pa_cons (pv 5) pa_nil)))
      (pss_cons (ps_if (pt_cmpR op_isN (pv 7) pe_non (nomark _))
        (pss_one (ps_ret (pe_and (pe_cmpR (op_eqD hr.units) (pe_g g__law_refused hr (by rfl) pass0 (pa_cons (pv 8) pa_nil)) (pe_lst (pa_cons pe_str pa_nil)) (nomark _)) (pe_one (pe_cmpR (op_eqD hr.units) (pv 8) (pv 5) (nomark _))))))
        pss_nil)
      (pss_cons (ps_if (pt_cmpR (op_neD hr.units) (pe_g g__law_refused hr (by rfl) pass0 (pa_cons (pv 8) pa_nil)) (pe_lst pa_nil) (nomark _))
        (pss_one (ps_ret pe_bl))
        pss_nil)
      (pss_cons (ps_set (i := 9) nd rfl (.inl rfl) (pe_g g_read_piece hr (by rfl) passF (pa_cons (pv 8) pa_nil)))
      (pss_one (ps_ret (pe_and (pe_g g__law_tells hr (by rfl) pass0 (pa_cons (pv 9) (pa_cons (pe_ix ix_tup (pv 7) pe_int (fun _ _ => rfl)) (pa_cons (pe_ix ix_tup (pv 7) pe_int (fun _ _ => rfl)) pa_nil)))) (pe_and (pe_cmpR (op_eqD hr.units) (pe_g g_piece_bytes hr (by rfl) pass0 (pa_cons (pv 9) pa_nil)) (pv 5) (nomark _)) (pe_one (pe_cmpR (op_eqD hr.units) (pv 8) (pv 5) (nomark _))))))))))))))))), ?_⟩
    -- draws, number, the drawn piece
    refine ⟨_, rfl, sc, zs, rfl, hS, hz, fun H1 l s1 hl0 hD1 => ?_⟩
    refine ⟨_, rfl, l, rfl, hD1, fun number H2 hnum k2 hD2 => ?_⟩
    refine ⟨_, rfl, l, rfl, hD2, fun t nl tb H3 makes tab hD3 ht hnl htb hok => ?_⟩
    refine ⟨t, [.ref nl, .ref tb], rfl, SqT.of ht, rfl, .ref nl, [.ref tb], rfl, .ref tb, [], rfl, rfl, ?_⟩
    -- the row
    obtain ⟨tab', hsr, hok'⟩ := hok.srt
    have hplen := hok'.pbLen
    refine ⟨_, rfl, _, rfl, nl, tb, makes, tab, tab', rfl, hnl, htb, hsr, hok'.good hsr.ok, hok.ris, by omega, fun H4 p0 s4 hp00 hp0 => ?_⟩
    have hD4 : DrawsAt H4 l := by
      obtain ⟨ds, d1, d2⟩ := hD3
      exact ⟨ds, s4 _ _ d1, d2⟩
    have hpl : p0 ≠ l := hD3.ne hp00
    -- bends
    obtain ⟨nb, hnb, hnb2⟩ : ∃ nb : Nat, atI [V.int 1, V.int 2, V.int 1, V.int 0] (number / 4 % 4) = some (.int (nb : Int)) ∧ nb ≤ 2 := by
      have h1 := Int.emod_nonneg (number / 4) (show (4 : Int) ≠ 0 by decide)
      have h2 := Int.emod_lt_of_pos (number / 4) (show (0 : Int) < 4 by decide)
      obtain ⟨j, hj, hj4⟩ : ∃ j : Nat, number / 4 % 4 = (j : Int) ∧ j < 4 := ⟨(number / 4 % 4).toNat, by omega, by omega⟩
      rw [hj]
      match j, hj4 with
      | 0, _ => exact ⟨1, rfl, by decide⟩
      | 1, _ => exact ⟨2, rfl, by decide⟩
      | 2, _ => exact ⟨1, rfl, by decide⟩
      | 3, _ => exact ⟨0, rfl, by decide⟩
    refine ⟨sl_line (by decide), fun q0 hq0 => ⟨_, rfl, _, _, rfl, rfl, ⟨(by decide : (0 : Int) < 4), (by decide : (4 : Int) < 1073741824)⟩, _, _, rfl, rfl, (by decide : (0 : Int) < 4), q0, _, _, _, rfl, rfl, SqL.of upd_same, hnb, _, rfl, by omega, by omega, for_range (fun i σ H' => ∃ (R : List Int) (p : Addr) (y6 : Option V), σ = [some (.ref sc), some (.ref l), some (.int number), some (.ref nl), some (.ref tb), some (.ref p), y6, none, none, none] ∧ BendN (pb makes tab') i R ∧ DrawsAt H' l ∧ H' p = some (.lst (R.map V.int)) ∧ p ≠ l)
      ⟨_, p0, none, rfl, .z, hD4.new hq0, upd_old hp0 hq0, hpl⟩ ?_ ?_⟩⟩
    · rintro i σ H5 hi ⟨R, p, y6, rfl, hB, hD5, hp, hpl⟩
      have hi2 : i < 2 := by
        have : i < (nb : Int).toNat := hi
        omega
      have hBl := hB.len
      exact ⟨_, rfl, _, rfl, p, l, R, rfl, hpl, hp, hD5, by omega, fun R' p' H6 hb k6 hD6 hp' hpl' => ⟨R', p', _, rfl, .s hB hb, hD6, hp', hpl'⟩⟩
    rintro σ H5 ⟨R, p, y6, rfl, hB, hD5, hp, hpl⟩
    rw [Int.toNat_natCast] at hB
    have hBl := hB.len
    have hRl : R.length ≤ 360 := by omega
    -- due
    refine ⟨_, rfl, p, R, rfl, hp, hRl, fun ms fs er t ml tb2 H6 s6 ht2 hml htb2 => ?_, fun er H6 s6 => ?_⟩
    · -- a piece
      obtain ⟨eR, hPo⟩ := pieceR_ok er
      have hrow := hPo.row (by rw [← eR]; exact hRl)
      have hodd := odd_free hok' hnb2 hB er
      have hp6 := s6 _ _ hp
      refine ⟨_, rfl, p, _, rfl, .inl (SqL.of hp6), fun hd hhd => ?_⟩
      have s7 : Same H6 (upd H6 hd (.lst (R.map V.int))) := Same.upd_new hhd
      refine ⟨_, rfl, rfl, _, rfl, bF (by rfl) ?_⟩
      refine ⟨_, rfl, hd, R, rfl, upd_same, hRl, fun z => ?_, fun _ H8 p8 s8 hp8 => ?_⟩
      · rw [er] at z
        cases z
      · refine ⟨sl_line (Nat.zero_le _), fun p9 hp9 => ⟨_, _, dp_ints (a := []) (SqL.of (upd_old hp8 hp9)), dp_ints (a := []) (SqL.of upd_same), shaped_intL _, shaped_intL _, _, rfl, ?_⟩⟩
        rw [eqv_ints]
        refine bF (by rfl) ?_
        have hd9 : upd H8 p9 (.lst []) hd = some (.lst (R.map V.int)) := upd_old (s8 _ _ upd_same) hp9
        have s69 : Same H6 (upd H8 p9 (.lst [])) := Same.new (s7.trans s8) hp9
        generalize upd H8 p9 (.lst []) = H9 at hd9 s69
        -- the next step
        refine ⟨_, rfl, hd, R, rfl, hd9, hRl, fun ms' fs' er' y H10 s10 hy => ?_, fun z => ?_⟩
        · rw [er] at er'
          cases Option.some.inj er'
          have s610 := s69.trans s10
          have hTell : TabTell (tabOf fs) := ⟨hrow.ok, hrow.good, fun f hf wp hw => by
            obtain ⟨g, hg, rfl⟩ := List.mem_map.mp hf
            exact hodd g hg wp hw, hrow.small⟩
          have ht10 := s610 _ _ ht2
          refine ⟨_, rfl, _, rfl, t, _, _, _, rfl, rfl, SqT.of ht10, at0 _ _, _, rfl, t, _, _, _, rfl, rfl, SqT.of ht10, at1 _ _, y, ml, tb2, ms, tabOf fs, rfl, hy, s610 _ _ hml, htb2.same s610, hTell, hrow.ml, fun H11 s11 => ⟨true, rfl, ?_⟩⟩
          have hpbl : (pb ms (tabOf fs)).length ≤ 1000 := by
            rw [pb_pieceB hPo, ← eR]
            omega
          refine ⟨_, rfl, y, ms, tabOf fs, rfl, hy.same s11, hrow.ok, hrow.good, ⟨hPo.nn, hPo.rise⟩, hpbl, fun H12 p12 s12 _ hp12 => ?_⟩
          rw [pb_pieceB hPo, ← eR] at hp12
          have s612 := (s610.trans s11).trans s12
          have hd12 := s12 _ _ (s11 _ _ (s10 _ _ hd9))
          refine ⟨_, rfl, _, _, dp_ints (SqL.of hp12), dp_ints (SqL.of (s612 _ _ hp6)), shaped_intL _, shaped_intL _, ?_⟩
          rw [eqv_ints, decide_eq_true rfl]
          refine ⟨true, rfl, ?_⟩
          refine ⟨_, rfl, _, rfl, _, _, dp_ints (SqL.of hd12), dp_ints (SqL.of (s612 _ _ hp6)), shaped_intL _, shaped_intL _, ?_⟩
          rw [eqv_ints, decide_eq_true rfl]
          exact q _
        · rw [er] at z
          cases z
    · -- none
      have hp6 := s6 _ _ hp
      refine ⟨_, rfl, p, _, rfl, .inl (SqL.of hp6), fun hd hhd => ?_⟩
      refine ⟨_, rfl, rfl, _, rfl, bT (by rfl) ?_⟩
      refine ⟨_, rfl, hd, R, rfl, upd_same, hRl, fun _ H8 p8 s8 hp8 => ?_, fun z => absurd er z⟩
      refine ⟨sl_line (by decide), fun p9 hp9 => ⟨_, _, .lst (SqL.of (upd_old hp8 hp9)) (.cons (.str _) .nil), .lst (SqL.of upd_same) (.cons (.str _) .nil), shaped_bytes, shaped_bytes, ?_⟩⟩
      rw [eqv_bytes]
      refine ⟨true, rfl, ?_⟩
      have hd9 : upd H8 p9 (.lst [V.str "bytes"]) hd = some (.lst (R.map V.int)) := upd_old (s8 _ _ upd_same) hp9
      have hp9' : upd H8 p9 (.lst [V.str "bytes"]) p = some (.lst (R.map V.int)) := upd_old (s8 _ _ (upd_old hp6 hhd)) hp9
      refine ⟨_, rfl, _, rfl, _, _, dp_ints (SqL.of hd9), dp_ints (SqL.of hp9'), shaped_intL _, shaped_intL _, ?_⟩
      rw [eqv_ints, decide_eq_true rfl]
      exact q _
end
end FC
/-! W37: the facts of the module (printed by genend.py), the end. -/
namespace FC
open PySem PySem.Spec PyProof.Rows L2
theorem all_mk {l : PySem.W.OpenLaw} {w : World} {K : PySem.W.Frag} {h : Heap} {mg : Str → Option Value} {fa : Addr} (X : K.In h) (G : h.Ns mainGlobals mg) (hfa : mg "law" = some (.ref fa))
    {CPiece CByteReader CFindError CNoField CNoMake CNoBytes CNoDocument CNoStamp CNoPiece CNoPattern CNoLine CNoText f1 f2 f3 f4 f5 f6 f7 f8 f9 f10 f11 f12 f13 f14 f15 f16 f17 f18 f19 f20 f21 f22 f23 f24 f25 f26 f27 f28 f29 f30 f31 f32 f33 f34 f35 f36 f37 f38 f39 f40 f41 f42 f43 f44 f45 f46 f47 f48 f49 f50 f51 f52 : Addr}
    {od1 an1 od2 an2 od3 an3 od4 an4 od5 an5 od6 an6 od7 an7 od8 an8 od9 an9 od10 an10 od11 an11 od12 an12 od13 an13 od14 an14 od15 an15 od16 an16 od17 an17 od18 an18 od19 an19 od20 an20 od21 an21 od22 an22 od23 an23 od24 an24 od25 an25 od26 an26 od27 an27 od28 an28 od29 an29 od30 an30 od31 an31 od32 an32 od33 an33 od34 an34 od35 an35 od36 an36 od37 an37 od38 an38 od39 an39 od40 an40 od41 an41 od42 an42 od43 an43 od44 an44 od45 an45 od46 an46 od47 an47 od48 an48 od49 an49 od50 an50 od51 an51 od52 an52 : Option Addr}
    {sl1 sl2 sl3 sl4 sl5 sl6 sl7 sl8 sl9 sl10 sl11 sl12 sl13 sl14 sl15 sl16 sl17 sl18 sl19 sl20 sl21 sl22 sl23 sl24 sl25 sl26 sl27 sl28 sl29 sl30 sl31 sl32 sl33 sl34 sl35 sl36 sl37 sl38 sl39 sl40 sl41 sl42 sl43 sl44 sl45 sl46 sl47 sl48 sl49 sl50 sl51 sl52 : Array (Option Value)}
    {oc1 kV1 dc1 pm1 cd1 ct1 oc2 kV2 dc2 pm2 cd2 ct2 oc3 kV3 dc3 pm3 cd3 ct3 oc4 kV4 dc4 pm4 cd4 ct4 oc5 kV5 dc5 pm5 cd5 ct5 oc6 kV6 dc6 pm6 cd6 ct6 oc7 kV7 dc7 pm7 cd7 ct7 oc8 kV8 dc8 pm8 cd8 ct8 oc9 kV9 dc9 pm9 cd9 ct9 oc10 kV10 dc10 pm10 cd10 ct10 oc11 kV11 dc11 pm11 cd11 ct11 oc12 kV12 dc12 pm12 cd12 ct12 oc13 kV13 dc13 pm13 cd13 ct13 oc14 kV14 dc14 pm14 cd14 ct14 oc15 kV15 dc15 pm15 cd15 ct15 oc16 kV16 dc16 pm16 cd16 ct16 oc17 kV17 dc17 pm17 cd17 ct17 oc18 kV18 dc18 pm18 cd18 ct18 oc19 kV19 dc19 pm19 cd19 ct19 oc20 kV20 dc20 pm20 cd20 ct20 oc21 kV21 dc21 pm21 cd21 ct21 oc22 kV22 dc22 pm22 cd22 ct22 oc23 kV23 dc23 pm23 cd23 ct23 oc24 kV24 dc24 pm24 cd24 ct24 oc25 kV25 dc25 pm25 cd25 ct25 oc26 kV26 dc26 pm26 cd26 ct26 oc27 kV27 dc27 pm27 cd27 ct27 oc28 kV28 dc28 pm28 cd28 ct28 oc29 kV29 dc29 pm29 cd29 ct29 oc30 kV30 dc30 pm30 cd30 ct30 oc31 kV31 dc31 pm31 cd31 ct31 oc32 kV32 dc32 pm32 cd32 ct32 oc33 kV33 dc33 pm33 cd33 ct33 oc34 kV34 dc34 pm34 cd34 ct34 oc35 kV35 dc35 pm35 cd35 ct35 oc36 kV36 dc36 pm36 cd36 ct36 oc37 kV37 dc37 pm37 cd37 ct37 oc38 kV38 dc38 pm38 cd38 ct38 oc39 kV39 dc39 pm39 cd39 ct39 oc40 kV40 dc40 pm40 cd40 ct40 oc41 kV41 dc41 pm41 cd41 ct41 oc42 kV42 dc42 pm42 cd42 ct42 oc43 kV43 dc43 pm43 cd43 ct43 oc44 kV44 dc44 pm44 cd44 ct44 oc45 kV45 dc45 pm45 cd45 ct45 oc46 kV46 dc46 pm46 cd46 ct46 oc47 kV47 dc47 pm47 cd47 ct47 oc48 kV48 dc48 pm48 cd48 ct48 oc49 kV49 dc49 pm49 cd49 ct49 oc50 kV50 dc50 pm50 cd50 ct50 oc51 kV51 dc51 pm51 cd51 ct51 oc52 kV52 dc52 pm52 cd52 ct52 : Value}
    {tg_LETTERS tg_FIGURES tg_SIGNS : Nat}
    (b_len : PySem.W.nsIn K mainGlobals "len" = some none)
    (b_all : PySem.W.nsIn K mainGlobals "all" = some none)
    (b_sum : PySem.W.nsIn K mainGlobals "sum" = some none)
    (b_ord : PySem.W.nsIn K mainGlobals "ord" = some none)
    (b_isinstance : PySem.W.nsIn K mainGlobals "isinstance" = some none)
    (b_sorted : PySem.W.nsIn K mainGlobals "sorted" = some none)
    (b_int : PySem.W.nsIn K mainGlobals "int" = some none)
    (b_str : PySem.W.nsIn K mainGlobals "str" = some none)
    (b_bool : PySem.W.nsIn K mainGlobals "bool" = some none)
    (b_list : PySem.W.nsIn K mainGlobals "list" = some none)
    (b_tuple : PySem.W.nsIn K mainGlobals "tuple" = some none)
    (b_dict : PySem.W.nsIn K mainGlobals "dict" = some none)
    (b_range : PySem.W.nsIn K mainGlobals "range" = some none)
    (b_enumerate : PySem.W.nsIn K mainGlobals "enumerate" = some none)
    (b_reversed : PySem.W.nsIn K mainGlobals "reversed" = some none)
    (b_ValueError : PySem.W.nsIn K mainGlobals "ValueError" = some none)
    (g_LETTERS : PySem.W.nsIn K mainGlobals "LETTERS" = some (some (.str "abcdefghijklmnopqrstuvwxyz" tg_LETTERS)))
    (g_FIGURES : PySem.W.nsIn K mainGlobals "FIGURES" = some (some (.str "0123456789" tg_FIGURES)))
    (g_SIGNS : PySem.W.nsIn K mainGlobals "SIGNS" = some (some (.str " !\"#$&'()*+,-./0123456789:;<=>?@ABCDEFGHIJKLMNOPQRSTUVWXYZ[\\]^_`abcdefghijklmnopqrstuvwxyz{|}~" tg_SIGNS)))
    (c_Piece : PySem.W.nsIn K mainGlobals "Piece" = some (some (.ref CPiece)))
    (c_ByteReader : PySem.W.nsIn K mainGlobals "ByteReader" = some (some (.ref CByteReader)))
    (c_FindError : PySem.W.nsIn K mainGlobals "FindError" = some (some (.ref CFindError)))
    (c_NoField : PySem.W.nsIn K mainGlobals "NoField" = some (some (.ref CNoField)))
    (c_NoMake : PySem.W.nsIn K mainGlobals "NoMake" = some (some (.ref CNoMake)))
    (c_NoBytes : PySem.W.nsIn K mainGlobals "NoBytes" = some (some (.ref CNoBytes)))
    (c_NoDocument : PySem.W.nsIn K mainGlobals "NoDocument" = some (some (.ref CNoDocument)))
    (c_NoStamp : PySem.W.nsIn K mainGlobals "NoStamp" = some (some (.ref CNoStamp)))
    (c_NoPiece : PySem.W.nsIn K mainGlobals "NoPiece" = some (some (.ref CNoPiece)))
    (c_NoPattern : PySem.W.nsIn K mainGlobals "NoPattern" = some (some (.ref CNoPattern)))
    (c_NoLine : PySem.W.nsIn K mainGlobals "NoLine" = some (some (.ref CNoLine)))
    (c_NoText : PySem.W.nsIn K mainGlobals "NoText" = some (some (.ref CNoText)))
    (k_Piece1 : PySem.W.plainGet K CPiece Str.empty = true)
    (k_Piece2 : PySem.W.hasDictIn K CPiece = true)
    (k_Piece3 : PySem.W.plainOver K CPiece = true)
    (k_Piece4 : PySem.W.findIn K (.ref CPiece) "__setattr__" = some (some (.builtin "object.__setattr__")))
    (k_ByteReader1 : PySem.W.plainGet K CByteReader Str.empty = true)
    (k_ByteReader2 : PySem.W.hasDictIn K CByteReader = true)
    (k_ByteReader3 : PySem.W.plainOver K CByteReader = true)
    (k_ByteReader4 : PySem.W.findIn K (.ref CByteReader) "__setattr__" = some (some (.builtin "object.__setattr__")))
    (a_held_makes : PySem.W.findIn K (.ref CPiece) "held_makes" = some none)
    (a_lengths : PySem.W.findIn K (.ref CPiece) "lengths" = some none)
    (a_table : PySem.W.findIn K (.ref CPiece) "table" = some none)
    (a_row : PySem.W.findIn K (.ref CByteReader) "row" = some none)
    (a_at : PySem.W.findIn K (.ref CByteReader) "at" = some none)
    (a_signs : PySem.W.findIn K (.ref CByteReader) "signs" = some none)
    (x_NoBytes : PySem.W.excIn K CNoBytes [.type "ValueError", .type "Exception", .type "BaseException", .type "object"] "ValueError.__new__" = true)
    (kp_NoBytes : PySem.W.keepIn K (.ref CNoBytes) = true)
    (sb_NoBytes : PySem.W.subIn K (.ref CNoBytes) (.type "BaseException") = some true)
    (ty_NoBytes : PySem.W.typeIn K (.ref CNoBytes) = some (.type "type"))
    (e_hg : PySem.W.findIn K (.ref CNoBytes) "__getattribute__" = some (some (.builtin "BaseException.__getattribute__")))
    (e_hk : PySem.W.findIn K (.ref CNoBytes) "__getattr__" = some none)
    (e_hd : PySem.W.hasDictIn K CNoBytes = true)
    (e_ha : PySem.W.findIn K (.ref CNoBytes) "__class__" = some (some (.builtin "object.__class__")))
    (e_hn : PySem.W.specialIn K (.builtin "object.__class__") "__get__" = some (some (.builtin "getset_descriptor.__get__")))
    (e_ht : PySem.W.takesIn K (.builtin "object.__class__") = some true)
    (e_hm : PySem.W.mroIn K CNoBytes (.type "object") = some true)
    (em1 : PySem.W.subIn K (.ref CFindError) (.type "BaseException") = some true)
    (em2 : PySem.W.hasDictIn K CFindError = true)
    (em3 : PySem.W.typeIn K (.ref CFindError) = some (.type "type"))
    (em4 : PySem.W.subIn K (.ref CNoBytes) (.ref CFindError) = some true)
    (i_NoField : PySem.W.kitOne K (.ref CNoBytes) (.ref CNoField) = some false)
    (n_NoField : PySem.W.kitOne K (.type "NoneType") (.ref CNoField) = some false)
    (i_NoMake : PySem.W.kitOne K (.ref CNoBytes) (.ref CNoMake) = some false)
    (n_NoMake : PySem.W.kitOne K (.type "NoneType") (.ref CNoMake) = some false)
    (i_NoBytes : PySem.W.kitOne K (.ref CNoBytes) (.ref CNoBytes) = some true)
    (n_NoBytes : PySem.W.kitOne K (.type "NoneType") (.ref CNoBytes) = some false)
    (i_NoDocument : PySem.W.kitOne K (.ref CNoBytes) (.ref CNoDocument) = some false)
    (n_NoDocument : PySem.W.kitOne K (.type "NoneType") (.ref CNoDocument) = some false)
    (i_NoStamp : PySem.W.kitOne K (.ref CNoBytes) (.ref CNoStamp) = some false)
    (n_NoStamp : PySem.W.kitOne K (.type "NoneType") (.ref CNoStamp) = some false)
    (i_NoPiece : PySem.W.kitOne K (.ref CNoBytes) (.ref CNoPiece) = some false)
    (n_NoPiece : PySem.W.kitOne K (.type "NoneType") (.ref CNoPiece) = some false)
    (i_NoPattern : PySem.W.kitOne K (.ref CNoBytes) (.ref CNoPattern) = some false)
    (n_NoPattern : PySem.W.kitOne K (.type "NoneType") (.ref CNoPattern) = some false)
    (i_NoLine : PySem.W.kitOne K (.ref CNoBytes) (.ref CNoLine) = some false)
    (n_NoLine : PySem.W.kitOne K (.type "NoneType") (.ref CNoLine) = some false)
    (i_NoText : PySem.W.kitOne K (.ref CNoBytes) (.ref CNoText) = some false)
    (n_NoText : PySem.W.kitOne K (.type "NoneType") (.ref CNoText) = some false)
    (i_ValueError : PySem.W.kitOne K (.ref CNoBytes) (.type "ValueError") = some true)
    (a1 : PySem.W.nsIn K mainGlobals "is_name" = some (some (.ref f1)))
    (l1 : K.lookup f1 = some ⟨oc1, od1, .func (PySem.W.fnOf "is_name" "is_name" (defArgs s_is_name) (defBody s_is_name) (defScope s_is_name) .none kV1 dc1 pm1 an1 cd1 ct1), sl1⟩)
    (cc1 : PySem.W.codeIn K cd1 "is_name" = true)
    (kk1 : PySem.W.keepIn K (.ref f1) = true)
    (a2 : PySem.W.nsIn K mainGlobals "is_word" = some (some (.ref f2)))
    (l2 : K.lookup f2 = some ⟨oc2, od2, .func (PySem.W.fnOf "is_word" "is_word" (defArgs s_is_word) (defBody s_is_word) (defScope s_is_word) .none kV2 dc2 pm2 an2 cd2 ct2), sl2⟩)
    (cc2 : PySem.W.codeIn K cd2 "is_word" = true)
    (kk2 : PySem.W.keepIn K (.ref f2) = true)
    (a3 : PySem.W.nsIn K mainGlobals "look_at_makes" = some (some (.ref f3)))
    (l3 : K.lookup f3 = some ⟨oc3, od3, .func (PySem.W.fnOf "look_at_makes" "look_at_makes" (defArgs s_look_at_makes) (defBody s_look_at_makes) (defScope s_look_at_makes) .none kV3 dc3 pm3 an3 cd3 ct3), sl3⟩)
    (cc3 : PySem.W.codeIn K cd3 "look_at_makes" = true)
    (kk3 : PySem.W.keepIn K (.ref f3) = true)
    (a4 : PySem.W.nsIn K mainGlobals "copied_postings" = some (some (.ref f4)))
    (l4 : K.lookup f4 = some ⟨oc4, od4, .func (PySem.W.fnOf "copied_postings" "copied_postings" (defArgs s_copied_postings) (defBody s_copied_postings) (defScope s_copied_postings) .none kV4 dc4 pm4 an4 cd4 ct4), sl4⟩)
    (cc4 : PySem.W.codeIn K cd4 "copied_postings" = true)
    (kk4 : PySem.W.keepIn K (.ref f4) = true)
    (a5 : PySem.W.findIn K (.ref CPiece) "__init__" = some (some (.ref f5)))
    (i5 : PySem.W.isFn K (.ref f5) = true)
    (m5 : PySem.W.makesIn K CPiece = true)
    (kc5 : PySem.W.keepIn K (.ref CPiece) = true)
    (l5 : K.lookup f5 = some ⟨oc5, od5, .func (PySem.W.fnOf "__init__" "Piece.__init__" (defArgs s_Piece__init_) (defBody s_Piece__init_) (defScope s_Piece__init_) .none kV5 dc5 pm5 an5 cd5 ct5), sl5⟩)
    (cc5 : PySem.W.codeIn K cd5 "Piece.__init__" = true)
    (kk5 : PySem.W.keepIn K (.ref f5) = true)
    (a6 : PySem.W.findIn K (.ref CPiece) "makes" = some (some (.ref f6)))
    (i6 : PySem.W.isFn K (.ref f6) = true)
    (l6 : K.lookup f6 = some ⟨oc6, od6, .func (PySem.W.fnOf "makes" "Piece.makes" (defArgs s_Piece_makes) (defBody s_Piece_makes) (defScope s_Piece_makes) .none kV6 dc6 pm6 an6 cd6 ct6), sl6⟩)
    (cc6 : PySem.W.codeIn K cd6 "Piece.makes" = true)
    (kk6 : PySem.W.keepIn K (.ref f6) = true)
    (a7 : PySem.W.findIn K (.ref CPiece) "fields" = some (some (.ref f7)))
    (i7 : PySem.W.isFn K (.ref f7) = true)
    (l7 : K.lookup f7 = some ⟨oc7, od7, .func (PySem.W.fnOf "fields" "Piece.fields" (defArgs s_Piece_fields) (defBody s_Piece_fields) (defScope s_Piece_fields) .none kV7 dc7 pm7 an7 cd7 ct7), sl7⟩)
    (cc7 : PySem.W.codeIn K cd7 "Piece.fields" = true)
    (kk7 : PySem.W.keepIn K (.ref f7) = true)
    (a8 : PySem.W.findIn K (.ref CPiece) "words" = some (some (.ref f8)))
    (i8 : PySem.W.isFn K (.ref f8) = true)
    (l8 : K.lookup f8 = some ⟨oc8, od8, .func (PySem.W.fnOf "words" "Piece.words" (defArgs s_Piece_words) (defBody s_Piece_words) (defScope s_Piece_words) .none kV8 dc8 pm8 an8 cd8 ct8), sl8⟩)
    (cc8 : PySem.W.codeIn K cd8 "Piece.words" = true)
    (kk8 : PySem.W.keepIn K (.ref f8) = true)
    (a9 : PySem.W.findIn K (.ref CPiece) "postings" = some (some (.ref f9)))
    (i9 : PySem.W.isFn K (.ref f9) = true)
    (l9 : K.lookup f9 = some ⟨oc9, od9, .func (PySem.W.fnOf "postings" "Piece.postings" (defArgs s_Piece_postings) (defBody s_Piece_postings) (defScope s_Piece_postings) .none kV9 dc9 pm9 an9 cd9 ct9), sl9⟩)
    (cc9 : PySem.W.codeIn K cd9 "Piece.postings" = true)
    (kk9 : PySem.W.keepIn K (.ref f9) = true)
    (a10 : PySem.W.findIn K (.ref CPiece) "length" = some (some (.ref f10)))
    (i10 : PySem.W.isFn K (.ref f10) = true)
    (l10 : K.lookup f10 = some ⟨oc10, od10, .func (PySem.W.fnOf "length" "Piece.length" (defArgs s_Piece_length) (defBody s_Piece_length) (defScope s_Piece_length) .none kV10 dc10 pm10 an10 cd10 ct10), sl10⟩)
    (cc10 : PySem.W.codeIn K cd10 "Piece.length" = true)
    (kk10 : PySem.W.keepIn K (.ref f10) = true)
    (a11 : PySem.W.nsIn K mainGlobals "number_bytes" = some (some (.ref f11)))
    (l11 : K.lookup f11 = some ⟨oc11, od11, .func (PySem.W.fnOf "number_bytes" "number_bytes" (defArgs s_number_bytes) (defBody s_number_bytes) (defScope s_number_bytes) .none kV11 dc11 pm11 an11 cd11 ct11), sl11⟩)
    (cc11 : PySem.W.codeIn K cd11 "number_bytes" = true)
    (kk11 : PySem.W.keepIn K (.ref f11) = true)
    (a12 : PySem.W.nsIn K mainGlobals "text_bytes" = some (some (.ref f12)))
    (l12 : K.lookup f12 = some ⟨oc12, od12, .func (PySem.W.fnOf "text_bytes" "text_bytes" (defArgs s_text_bytes) (defBody s_text_bytes) (defScope s_text_bytes) .none kV12 dc12 pm12 an12 cd12 ct12), sl12⟩)
    (cc12 : PySem.W.codeIn K cd12 "text_bytes" = true)
    (kk12 : PySem.W.keepIn K (.ref f12) = true)
    (a13 : PySem.W.nsIn K mainGlobals "places_bytes" = some (some (.ref f13)))
    (l13 : K.lookup f13 = some ⟨oc13, od13, .func (PySem.W.fnOf "places_bytes" "places_bytes" (defArgs s_places_bytes) (defBody s_places_bytes) (defScope s_places_bytes) .none kV13 dc13 pm13 an13 cd13 ct13), sl13⟩)
    (cc13 : PySem.W.codeIn K cd13 "places_bytes" = true)
    (kk13 : PySem.W.keepIn K (.ref f13) = true)
    (a14 : PySem.W.nsIn K mainGlobals "postings_bytes" = some (some (.ref f14)))
    (l14 : K.lookup f14 = some ⟨oc14, od14, .func (PySem.W.fnOf "postings_bytes" "postings_bytes" (defArgs s_postings_bytes) (defBody s_postings_bytes) (defScope s_postings_bytes) .none kV14 dc14 pm14 an14 cd14 ct14), sl14⟩)
    (cc14 : PySem.W.codeIn K cd14 "postings_bytes" = true)
    (kk14 : PySem.W.keepIn K (.ref f14) = true)
    (a15 : PySem.W.nsIn K mainGlobals "field_bytes" = some (some (.ref f15)))
    (l15 : K.lookup f15 = some ⟨oc15, od15, .func (PySem.W.fnOf "field_bytes" "field_bytes" (defArgs s_field_bytes) (defBody s_field_bytes) (defScope s_field_bytes) .none kV15 dc15 pm15 an15 cd15 ct15), sl15⟩)
    (cc15 : PySem.W.codeIn K cd15 "field_bytes" = true)
    (kk15 : PySem.W.keepIn K (.ref f15) = true)
    (a16 : PySem.W.nsIn K mainGlobals "piece_bytes" = some (some (.ref f16)))
    (l16 : K.lookup f16 = some ⟨oc16, od16, .func (PySem.W.fnOf "piece_bytes" "piece_bytes" (defArgs s_piece_bytes) (defBody s_piece_bytes) (defScope s_piece_bytes) .none kV16 dc16 pm16 an16 cd16 ct16), sl16⟩)
    (cc16 : PySem.W.codeIn K cd16 "piece_bytes" = true)
    (kk16 : PySem.W.keepIn K (.ref f16) = true)
    (a17 : PySem.W.findIn K (.ref CByteReader) "__init__" = some (some (.ref f17)))
    (i17 : PySem.W.isFn K (.ref f17) = true)
    (m17 : PySem.W.makesIn K CByteReader = true)
    (kc17 : PySem.W.keepIn K (.ref CByteReader) = true)
    (l17 : K.lookup f17 = some ⟨oc17, od17, .func (PySem.W.fnOf "__init__" "ByteReader.__init__" (defArgs s_ByteReader__init_) (defBody s_ByteReader__init_) (defScope s_ByteReader__init_) .none kV17 dc17 pm17 an17 cd17 ct17), sl17⟩)
    (cc17 : PySem.W.codeIn K cd17 "ByteReader.__init__" = true)
    (kk17 : PySem.W.keepIn K (.ref f17) = true)
    (a18 : PySem.W.findIn K (.ref CByteReader) "sure" = some (some (.ref f18)))
    (i18 : PySem.W.isFn K (.ref f18) = true)
    (l18 : K.lookup f18 = some ⟨oc18, od18, .func (PySem.W.fnOf "sure" "ByteReader.sure" (defArgs s_ByteReader_sure) (defBody s_ByteReader_sure) (defScope s_ByteReader_sure) .none kV18 dc18 pm18 an18 cd18 ct18), sl18⟩)
    (cc18 : PySem.W.codeIn K cd18 "ByteReader.sure" = true)
    (kk18 : PySem.W.keepIn K (.ref f18) = true)
    (a19 : PySem.W.findIn K (.ref CByteReader) "next_byte" = some (some (.ref f19)))
    (i19 : PySem.W.isFn K (.ref f19) = true)
    (l19 : K.lookup f19 = some ⟨oc19, od19, .func (PySem.W.fnOf "next_byte" "ByteReader.next_byte" (defArgs s_ByteReader_next_byte) (defBody s_ByteReader_next_byte) (defScope s_ByteReader_next_byte) .none kV19 dc19 pm19 an19 cd19 ct19), sl19⟩)
    (cc19 : PySem.W.codeIn K cd19 "ByteReader.next_byte" = true)
    (kk19 : PySem.W.keepIn K (.ref f19) = true)
    (a20 : PySem.W.findIn K (.ref CByteReader) "next_number" = some (some (.ref f20)))
    (i20 : PySem.W.isFn K (.ref f20) = true)
    (l20 : K.lookup f20 = some ⟨oc20, od20, .func (PySem.W.fnOf "next_number" "ByteReader.next_number" (defArgs s_ByteReader_next_number) (defBody s_ByteReader_next_number) (defScope s_ByteReader_next_number) .none kV20 dc20 pm20 an20 cd20 ct20), sl20⟩)
    (cc20 : PySem.W.codeIn K cd20 "ByteReader.next_number" = true)
    (kk20 : PySem.W.keepIn K (.ref f20) = true)
    (a21 : PySem.W.findIn K (.ref CByteReader) "next_rising" = some (some (.ref f21)))
    (i21 : PySem.W.isFn K (.ref f21) = true)
    (l21 : K.lookup f21 = some ⟨oc21, od21, .func (PySem.W.fnOf "next_rising" "ByteReader.next_rising" (defArgs s_ByteReader_next_rising) (defBody s_ByteReader_next_rising) (defScope s_ByteReader_next_rising) .none kV21 dc21 pm21 an21 cd21 ct21), sl21⟩)
    (cc21 : PySem.W.codeIn K cd21 "ByteReader.next_rising" = true)
    (kk21 : PySem.W.keepIn K (.ref f21) = true)
    (a22 : PySem.W.findIn K (.ref CByteReader) "next_text" = some (some (.ref f22)))
    (i22 : PySem.W.isFn K (.ref f22) = true)
    (l22 : K.lookup f22 = some ⟨oc22, od22, .func (PySem.W.fnOf "next_text" "ByteReader.next_text" (defArgs s_ByteReader_next_text) (defBody s_ByteReader_next_text) (defScope s_ByteReader_next_text) .none kV22 dc22 pm22 an22 cd22 ct22), sl22⟩)
    (cc22 : PySem.W.codeIn K cd22 "ByteReader.next_text" = true)
    (kk22 : PySem.W.keepIn K (.ref f22) = true)
    (a23 : PySem.W.findIn K (.ref CByteReader) "next_postings" = some (some (.ref f23)))
    (i23 : PySem.W.isFn K (.ref f23) = true)
    (l23 : K.lookup f23 = some ⟨oc23, od23, .func (PySem.W.fnOf "next_postings" "ByteReader.next_postings" (defArgs s_ByteReader_next_postings) (defBody s_ByteReader_next_postings) (defScope s_ByteReader_next_postings) .none kV23 dc23 pm23 an23 cd23 ct23), sl23⟩)
    (cc23 : PySem.W.codeIn K cd23 "ByteReader.next_postings" = true)
    (kk23 : PySem.W.keepIn K (.ref f23) = true)
    (a24 : PySem.W.findIn K (.ref CByteReader) "next_words" = some (some (.ref f24)))
    (i24 : PySem.W.isFn K (.ref f24) = true)
    (l24 : K.lookup f24 = some ⟨oc24, od24, .func (PySem.W.fnOf "next_words" "ByteReader.next_words" (defArgs s_ByteReader_next_words) (defBody s_ByteReader_next_words) (defScope s_ByteReader_next_words) .none kV24 dc24 pm24 an24 cd24 ct24), sl24⟩)
    (cc24 : PySem.W.codeIn K cd24 "ByteReader.next_words" = true)
    (kk24 : PySem.W.keepIn K (.ref f24) = true)
    (a25 : PySem.W.findIn K (.ref CByteReader) "next_field" = some (some (.ref f25)))
    (i25 : PySem.W.isFn K (.ref f25) = true)
    (l25 : K.lookup f25 = some ⟨oc25, od25, .func (PySem.W.fnOf "next_field" "ByteReader.next_field" (defArgs s_ByteReader_next_field) (defBody s_ByteReader_next_field) (defScope s_ByteReader_next_field) .none kV25 dc25 pm25 an25 cd25 ct25), sl25⟩)
    (cc25 : PySem.W.codeIn K cd25 "ByteReader.next_field" = true)
    (kk25 : PySem.W.keepIn K (.ref f25) = true)
    (a26 : PySem.W.findIn K (.ref CByteReader) "sure_filled" = some (some (.ref f26)))
    (i26 : PySem.W.isFn K (.ref f26) = true)
    (l26 : K.lookup f26 = some ⟨oc26, od26, .func (PySem.W.fnOf "sure_filled" "ByteReader.sure_filled" (defArgs s_ByteReader_sure_filled) (defBody s_ByteReader_sure_filled) (defScope s_ByteReader_sure_filled) .none kV26 dc26 pm26 an26 cd26 ct26), sl26⟩)
    (cc26 : PySem.W.codeIn K cd26 "ByteReader.sure_filled" = true)
    (kk26 : PySem.W.keepIn K (.ref f26) = true)
    (a27 : PySem.W.findIn K (.ref CByteReader) "next_piece" = some (some (.ref f27)))
    (i27 : PySem.W.isFn K (.ref f27) = true)
    (l27 : K.lookup f27 = some ⟨oc27, od27, .func (PySem.W.fnOf "next_piece" "ByteReader.next_piece" (defArgs s_ByteReader_next_piece) (defBody s_ByteReader_next_piece) (defScope s_ByteReader_next_piece) .none kV27 dc27 pm27 an27 cd27 ct27), sl27⟩)
    (cc27 : PySem.W.codeIn K cd27 "ByteReader.next_piece" = true)
    (kk27 : PySem.W.keepIn K (.ref f27) = true)
    (a28 : PySem.W.findIn K (.ref CByteReader) "ended" = some (some (.ref f28)))
    (i28 : PySem.W.isFn K (.ref f28) = true)
    (l28 : K.lookup f28 = some ⟨oc28, od28, .func (PySem.W.fnOf "ended" "ByteReader.ended" (defArgs s_ByteReader_ended) (defBody s_ByteReader_ended) (defScope s_ByteReader_ended) .none kV28 dc28 pm28 an28 cd28 ct28), sl28⟩)
    (cc28 : PySem.W.codeIn K cd28 "ByteReader.ended" = true)
    (kk28 : PySem.W.keepIn K (.ref f28) = true)
    (a29 : PySem.W.nsIn K mainGlobals "read_piece" = some (some (.ref f29)))
    (l29 : K.lookup f29 = some ⟨oc29, od29, .func (PySem.W.fnOf "read_piece" "read_piece" (defArgs s_read_piece) (defBody s_read_piece) (defScope s_read_piece) .none kV29 dc29 pm29 an29 cd29 ct29), sl29⟩)
    (cc29 : PySem.W.codeIn K cd29 "read_piece" = true)
    (kk29 : PySem.W.keepIn K (.ref f29) = true)
    (a30 : PySem.W.nsIn K mainGlobals "_law_draws" = some (some (.ref f30)))
    (l30 : K.lookup f30 = some ⟨oc30, od30, .func (PySem.W.fnOf "_law_draws" "_law_draws" (defArgs s__law_draws) (defBody s__law_draws) (defScope s__law_draws) .none kV30 dc30 pm30 an30 cd30 ct30), sl30⟩)
    (cc30 : PySem.W.codeIn K cd30 "_law_draws" = true)
    (kk30 : PySem.W.keepIn K (.ref f30) = true)
    (a31 : PySem.W.nsIn K mainGlobals "_law_pop" = some (some (.ref f31)))
    (l31 : K.lookup f31 = some ⟨oc31, od31, .func (PySem.W.fnOf "_law_pop" "_law_pop" (defArgs s__law_pop) (defBody s__law_pop) (defScope s__law_pop) .none kV31 dc31 pm31 an31 cd31 ct31), sl31⟩)
    (cc31 : PySem.W.codeIn K cd31 "_law_pop" = true)
    (kk31 : PySem.W.keepIn K (.ref f31) = true)
    (a32 : PySem.W.nsIn K mainGlobals "_law_alike" = some (some (.ref f32)))
    (l32 : K.lookup f32 = some ⟨oc32, od32, .func (PySem.W.fnOf "_law_alike" "_law_alike" (defArgs s__law_alike) (defBody s__law_alike) (defScope s__law_alike) .none kV32 dc32 pm32 an32 cd32 ct32), sl32⟩)
    (cc32 : PySem.W.codeIn K cd32 "_law_alike" = true)
    (kk32 : PySem.W.keepIn K (.ref f32) = true)
    (a33 : PySem.W.nsIn K mainGlobals "_law_signs" = some (some (.ref f33)))
    (l33 : K.lookup f33 = some ⟨oc33, od33, .func (PySem.W.fnOf "_law_signs" "_law_signs" (defArgs s__law_signs) (defBody s__law_signs) (defScope s__law_signs) .none kV33 dc33 pm33 an33 cd33 ct33), sl33⟩)
    (cc33 : PySem.W.codeIn K cd33 "_law_signs" = true)
    (kk33 : PySem.W.keepIn K (.ref f33) = true)
    (a34 : PySem.W.nsIn K mainGlobals "_law_drawn" = some (some (.ref f34)))
    (l34 : K.lookup f34 = some ⟨oc34, od34, .func (PySem.W.fnOf "_law_drawn" "_law_drawn" (defArgs s__law_drawn) (defBody s__law_drawn) (defScope s__law_drawn) .none kV34 dc34 pm34 an34 cd34 ct34), sl34⟩)
    (cc34 : PySem.W.codeIn K cd34 "_law_drawn" = true)
    (kk34 : PySem.W.keepIn K (.ref f34) = true)
    (a35 : PySem.W.nsIn K mainGlobals "_law_length" = some (some (.ref f35)))
    (l35 : K.lookup f35 = some ⟨oc35, od35, .func (PySem.W.fnOf "_law_length" "_law_length" (defArgs s__law_length) (defBody s__law_length) (defScope s__law_length) .none kV35 dc35 pm35 an35 cd35 ct35), sl35⟩)
    (cc35 : PySem.W.codeIn K cd35 "_law_length" = true)
    (kk35 : PySem.W.keepIn K (.ref f35) = true)
    (a36 : PySem.W.nsIn K mainGlobals "_law_number_bytes" = some (some (.ref f36)))
    (l36 : K.lookup f36 = some ⟨oc36, od36, .func (PySem.W.fnOf "_law_number_bytes" "_law_number_bytes" (defArgs s__law_number_bytes) (defBody s__law_number_bytes) (defScope s__law_number_bytes) .none kV36 dc36 pm36 an36 cd36 ct36), sl36⟩)
    (cc36 : PySem.W.codeIn K cd36 "_law_number_bytes" = true)
    (kk36 : PySem.W.keepIn K (.ref f36) = true)
    (a37 : PySem.W.nsIn K mainGlobals "_law_text_bytes" = some (some (.ref f37)))
    (l37 : K.lookup f37 = some ⟨oc37, od37, .func (PySem.W.fnOf "_law_text_bytes" "_law_text_bytes" (defArgs s__law_text_bytes) (defBody s__law_text_bytes) (defScope s__law_text_bytes) .none kV37 dc37 pm37 an37 cd37 ct37), sl37⟩)
    (cc37 : PySem.W.codeIn K cd37 "_law_text_bytes" = true)
    (kk37 : PySem.W.keepIn K (.ref f37) = true)
    (a38 : PySem.W.nsIn K mainGlobals "_law_postings_bytes" = some (some (.ref f38)))
    (l38 : K.lookup f38 = some ⟨oc38, od38, .func (PySem.W.fnOf "_law_postings_bytes" "_law_postings_bytes" (defArgs s__law_postings_bytes) (defBody s__law_postings_bytes) (defScope s__law_postings_bytes) .none kV38 dc38 pm38 an38 cd38 ct38), sl38⟩)
    (cc38 : PySem.W.codeIn K cd38 "_law_postings_bytes" = true)
    (kk38 : PySem.W.keepIn K (.ref f38) = true)
    (a39 : PySem.W.nsIn K mainGlobals "_law_piece_bytes" = some (some (.ref f39)))
    (l39 : K.lookup f39 = some ⟨oc39, od39, .func (PySem.W.fnOf "_law_piece_bytes" "_law_piece_bytes" (defArgs s__law_piece_bytes) (defBody s__law_piece_bytes) (defScope s__law_piece_bytes) .none kV39 dc39 pm39 an39 cd39 ct39), sl39⟩)
    (cc39 : PySem.W.codeIn K cd39 "_law_piece_bytes" = true)
    (kk39 : PySem.W.keepIn K (.ref f39) = true)
    (a40 : PySem.W.nsIn K mainGlobals "_law_number_in" = some (some (.ref f40)))
    (l40 : K.lookup f40 = some ⟨oc40, od40, .func (PySem.W.fnOf "_law_number_in" "_law_number_in" (defArgs s__law_number_in) (defBody s__law_number_in) (defScope s__law_number_in) .none kV40 dc40 pm40 an40 cd40 ct40), sl40⟩)
    (cc40 : PySem.W.codeIn K cd40 "_law_number_in" = true)
    (kk40 : PySem.W.keepIn K (.ref f40) = true)
    (a41 : PySem.W.nsIn K mainGlobals "_law_rising_in" = some (some (.ref f41)))
    (l41 : K.lookup f41 = some ⟨oc41, od41, .func (PySem.W.fnOf "_law_rising_in" "_law_rising_in" (defArgs s__law_rising_in) (defBody s__law_rising_in) (defScope s__law_rising_in) .none kV41 dc41 pm41 an41 cd41 ct41), sl41⟩)
    (cc41 : PySem.W.codeIn K cd41 "_law_rising_in" = true)
    (kk41 : PySem.W.keepIn K (.ref f41) = true)
    (a42 : PySem.W.nsIn K mainGlobals "_law_text_in" = some (some (.ref f42)))
    (l42 : K.lookup f42 = some ⟨oc42, od42, .func (PySem.W.fnOf "_law_text_in" "_law_text_in" (defArgs s__law_text_in) (defBody s__law_text_in) (defScope s__law_text_in) .none kV42 dc42 pm42 an42 cd42 ct42), sl42⟩)
    (cc42 : PySem.W.codeIn K cd42 "_law_text_in" = true)
    (kk42 : PySem.W.keepIn K (.ref f42) = true)
    (a43 : PySem.W.nsIn K mainGlobals "_law_postings_in" = some (some (.ref f43)))
    (l43 : K.lookup f43 = some ⟨oc43, od43, .func (PySem.W.fnOf "_law_postings_in" "_law_postings_in" (defArgs s__law_postings_in) (defBody s__law_postings_in) (defScope s__law_postings_in) .none kV43 dc43 pm43 an43 cd43 ct43), sl43⟩)
    (cc43 : PySem.W.codeIn K cd43 "_law_postings_in" = true)
    (kk43 : PySem.W.keepIn K (.ref f43) = true)
    (a44 : PySem.W.nsIn K mainGlobals "_law_bent" = some (some (.ref f44)))
    (l44 : K.lookup f44 = some ⟨oc44, od44, .func (PySem.W.fnOf "_law_bent" "_law_bent" (defArgs s__law_bent) (defBody s__law_bent) (defScope s__law_bent) .none kV44 dc44 pm44 an44 cd44 ct44), sl44⟩)
    (cc44 : PySem.W.codeIn K cd44 "_law_bent" = true)
    (kk44 : PySem.W.keepIn K (.ref f44) = true)
    (a45 : PySem.W.nsIn K mainGlobals "_law_kind" = some (some (.ref f45)))
    (l45 : K.lookup f45 = some ⟨oc45, od45, .func (PySem.W.fnOf "_law_kind" "_law_kind" (defArgs s__law_kind) (defBody s__law_kind) (defScope s__law_kind) .none kV45 dc45 pm45 an45 cd45 ct45), sl45⟩)
    (cc45 : PySem.W.codeIn K cd45 "_law_kind" = true)
    (kk45 : PySem.W.keepIn K (.ref f45) = true)
    (a46 : PySem.W.nsIn K mainGlobals "_law_tells" = some (some (.ref f46)))
    (l46 : K.lookup f46 = some ⟨oc46, od46, .func (PySem.W.fnOf "_law_tells" "_law_tells" (defArgs s__law_tells) (defBody s__law_tells) (defScope s__law_tells) .none kV46 dc46 pm46 an46 cd46 ct46), sl46⟩)
    (cc46 : PySem.W.codeIn K cd46 "_law_tells" = true)
    (kk46 : PySem.W.keepIn K (.ref f46) = true)
    (a47 : PySem.W.nsIn K mainGlobals "_law_word_in" = some (some (.ref f47)))
    (l47 : K.lookup f47 = some ⟨oc47, od47, .func (PySem.W.fnOf "_law_word_in" "_law_word_in" (defArgs s__law_word_in) (defBody s__law_word_in) (defScope s__law_word_in) .none kV47 dc47 pm47 an47 cd47 ct47), sl47⟩)
    (cc47 : PySem.W.codeIn K cd47 "_law_word_in" = true)
    (kk47 : PySem.W.keepIn K (.ref f47) = true)
    (a48 : PySem.W.nsIn K mainGlobals "_law_words_in" = some (some (.ref f48)))
    (l48 : K.lookup f48 = some ⟨oc48, od48, .func (PySem.W.fnOf "_law_words_in" "_law_words_in" (defArgs s__law_words_in) (defBody s__law_words_in) (defScope s__law_words_in) .none kV48 dc48 pm48 an48 cd48 ct48), sl48⟩)
    (cc48 : PySem.W.codeIn K cd48 "_law_words_in" = true)
    (kk48 : PySem.W.keepIn K (.ref f48) = true)
    (a49 : PySem.W.nsIn K mainGlobals "_law_field_in" = some (some (.ref f49)))
    (l49 : K.lookup f49 = some ⟨oc49, od49, .func (PySem.W.fnOf "_law_field_in" "_law_field_in" (defArgs s__law_field_in) (defBody s__law_field_in) (defScope s__law_field_in) .none kV49 dc49 pm49 an49 cd49 ct49), sl49⟩)
    (cc49 : PySem.W.codeIn K cd49 "_law_field_in" = true)
    (kk49 : PySem.W.keepIn K (.ref f49) = true)
    (a50 : PySem.W.nsIn K mainGlobals "_law_piece_in" = some (some (.ref f50)))
    (l50 : K.lookup f50 = some ⟨oc50, od50, .func (PySem.W.fnOf "_law_piece_in" "_law_piece_in" (defArgs s__law_piece_in) (defBody s__law_piece_in) (defScope s__law_piece_in) .none kV50 dc50 pm50 an50 cd50 ct50), sl50⟩)
    (cc50 : PySem.W.codeIn K cd50 "_law_piece_in" = true)
    (kk50 : PySem.W.keepIn K (.ref f50) = true)
    (a51 : PySem.W.nsIn K mainGlobals "_law_refused" = some (some (.ref f51)))
    (l51 : K.lookup f51 = some ⟨oc51, od51, .func (PySem.W.fnOf "_law_refused" "_law_refused" (defArgs s__law_refused) (defBody s__law_refused) (defScope s__law_refused) .none kV51 dc51 pm51 an51 cd51 ct51), sl51⟩)
    (cc51 : PySem.W.codeIn K cd51 "_law_refused" = true)
    (kk51 : PySem.W.keepIn K (.ref f51) = true)
    (a52 : PySem.W.nsIn K mainGlobals "law" = some (some (.ref f52)))
    (l52 : K.lookup f52 = some ⟨oc52, od52, .func (PySem.W.fnOf "law" "law" (defArgs s_law) (defBody s_law) (defScope s_law) .none kV52 dc52 pm52 an52 cd52 ct52), sl52⟩)
    (cc52 : PySem.W.codeIn K cd52 "law" = true)
    (kk52 : PySem.W.keepIn K (.ref f52) = true)
    : ∃ fd : FuncData, (∀ (s : Shared) (v : Value), BindsTo s fd ⟨[v], []⟩ [("_law_script", v)]) ∧ ∀ base : Heap, K.In base → base.Ns mainGlobals mg → FnOk l.prog w K mg base CX0 11 fa fd ["_law_script"] (spLaw K) := by
  have e := hfa.symm.trans (PySem.W.mg_of X G a52)
  cases e
  have T : Txt K mg ⟨CPiece, CByteReader, CFindError, CNoField, CNoMake, CNoBytes, CNoDocument, CNoStamp, CNoPiece, CNoPattern, CNoLine, CNoText⟩ :=
    { b_len := PySem.W.mg_none_of X G b_len,
      b_all := PySem.W.mg_none_of X G b_all,
      b_sum := PySem.W.mg_none_of X G b_sum,
      b_ord := PySem.W.mg_none_of X G b_ord,
      b_isinstance := PySem.W.mg_none_of X G b_isinstance,
      b_sorted := PySem.W.mg_none_of X G b_sorted,
      b_int := PySem.W.mg_none_of X G b_int,
      b_str := PySem.W.mg_none_of X G b_str,
      b_bool := PySem.W.mg_none_of X G b_bool,
      b_list := PySem.W.mg_none_of X G b_list,
      b_tuple := PySem.W.mg_none_of X G b_tuple,
      b_dict := PySem.W.mg_none_of X G b_dict,
      b_range := PySem.W.mg_none_of X G b_range,
      b_enumerate := PySem.W.mg_none_of X G b_enumerate,
      b_reversed := PySem.W.mg_none_of X G b_reversed,
      b_ValueError := PySem.W.mg_none_of X G b_ValueError,
      g_LETTERS := ⟨_, PySem.W.mg_of X G g_LETTERS⟩,
      g_FIGURES := ⟨_, PySem.W.mg_of X G g_FIGURES⟩,
      g_SIGNS := ⟨_, PySem.W.mg_of X G g_SIGNS⟩,
      c_Piece := PySem.W.mg_of X G c_Piece,
      c_ByteReader := PySem.W.mg_of X G c_ByteReader,
      c_FindError := PySem.W.mg_of X G c_FindError,
      c_NoField := PySem.W.mg_of X G c_NoField,
      c_NoMake := PySem.W.mg_of X G c_NoMake,
      c_NoBytes := PySem.W.mg_of X G c_NoBytes,
      c_NoDocument := PySem.W.mg_of X G c_NoDocument,
      c_NoStamp := PySem.W.mg_of X G c_NoStamp,
      c_NoPiece := PySem.W.mg_of X G c_NoPiece,
      c_NoPattern := PySem.W.mg_of X G c_NoPattern,
      c_NoLine := PySem.W.mg_of X G c_NoLine,
      c_NoText := PySem.W.mg_of X G c_NoText,
      k_Piece := ⟨k_Piece1, k_Piece2, k_Piece3, k_Piece4⟩,
      k_ByteReader := ⟨k_ByteReader1, k_ByteReader2, k_ByteReader3, k_ByteReader4⟩,
      a_held_makes := a_held_makes,
      a_lengths := a_lengths,
      a_table := a_table,
      a_row := a_row,
      a_at := a_at,
      a_signs := a_signs,
      x_NoBytes := x_NoBytes,
      kp_NoBytes := kp_NoBytes,
      sb_NoBytes := sb_NoBytes,
      ty_NoBytes := ty_NoBytes,
      e_NoBytes := ⟨e_hg, e_hk, sb_NoBytes, e_hd, e_ha, e_hn, e_ht, e_hm⟩,
      em_NoBytes := PySem.W.exm_ref em1 em2 em3 em4,
      i_NoField := i_NoField,
      n_NoField := n_NoField,
      i_NoMake := i_NoMake,
      n_NoMake := n_NoMake,
      i_NoBytes := i_NoBytes,
      n_NoBytes := n_NoBytes,
      i_NoDocument := i_NoDocument,
      n_NoDocument := n_NoDocument,
      i_NoStamp := i_NoStamp,
      n_NoStamp := n_NoStamp,
      i_NoPiece := i_NoPiece,
      n_NoPiece := n_NoPiece,
      i_NoPattern := i_NoPattern,
      n_NoPattern := n_NoPattern,
      i_NoLine := i_NoLine,
      n_NoLine := n_NoLine,
      i_NoText := i_NoText,
      n_NoText := n_NoText,
      i_ValueError := i_ValueError,
      d_is_name := ⟨_, _, fun_mk (st := s_is_name) l1 cc1 kk1, PySem.W.mg_of X G a1, (fun_mk (st := s_is_name) l1 cc1 kk1).binds (ps := ["text"]) fun _ _ _ _ _ _ us hl => match us, hl with | [_], _ => rfl⟩,
      d_is_word := ⟨_, _, fun_mk (st := s_is_word) l2 cc2 kk2, PySem.W.mg_of X G a2, (fun_mk (st := s_is_word) l2 cc2 kk2).binds (ps := ["text"]) fun _ _ _ _ _ _ us hl => match us, hl with | [_], _ => rfl⟩,
      d_look_at_makes := ⟨_, _, fun_mk (st := s_look_at_makes) l3 cc3 kk3, PySem.W.mg_of X G a3, (fun_mk (st := s_look_at_makes) l3 cc3 kk3).binds (ps := ["makes"]) fun _ _ _ _ _ _ us hl => match us, hl with | [_], _ => rfl⟩,
      d_copied_postings := ⟨_, _, fun_mk (st := s_copied_postings) l4 cc4 kk4, PySem.W.mg_of X G a4, (fun_mk (st := s_copied_postings) l4 cc4 kk4).binds (ps := ["postings"]) fun _ _ _ _ _ _ us hl => match us, hl with | [_], _ => rfl⟩,
      d_Piece_init := ⟨_, _, fun_mk (st := s_Piece__init_) l5 cc5 kk5, ⟨m5, a5, i5, kc5⟩, (fun_mk (st := s_Piece__init_) l5 cc5 kk5).binds (ps := ["self", "makes"]) fun _ _ _ _ _ _ us hl => match us, hl with | [_, _], _ => rfl⟩,
      d_makes := ⟨_, _, fun_mk (st := s_Piece_makes) l6 cc6 kk6, ⟨a6, i6, kk6⟩, (fun_mk (st := s_Piece_makes) l6 cc6 kk6).binds (ps := ["self"]) fun _ _ _ _ _ _ us hl => match us, hl with | [_], _ => rfl⟩,
      d_fields := ⟨_, _, fun_mk (st := s_Piece_fields) l7 cc7 kk7, ⟨a7, i7, kk7⟩, (fun_mk (st := s_Piece_fields) l7 cc7 kk7).binds (ps := ["self"]) fun _ _ _ _ _ _ us hl => match us, hl with | [_], _ => rfl⟩,
      d_words := ⟨_, _, fun_mk (st := s_Piece_words) l8 cc8 kk8, ⟨a8, i8, kk8⟩, (fun_mk (st := s_Piece_words) l8 cc8 kk8).binds (ps := ["self", "field"]) fun _ _ _ _ _ _ us hl => match us, hl with | [_, _], _ => rfl⟩,
      d_postings := ⟨_, _, fun_mk (st := s_Piece_postings) l9 cc9 kk9, ⟨a9, i9, kk9⟩, (fun_mk (st := s_Piece_postings) l9 cc9 kk9).binds (ps := ["self", "field", "word"]) fun _ _ _ _ _ _ us hl => match us, hl with | [_, _, _], _ => rfl⟩,
      d_length := ⟨_, _, fun_mk (st := s_Piece_length) l10 cc10 kk10, ⟨a10, i10, kk10⟩, (fun_mk (st := s_Piece_length) l10 cc10 kk10).binds (ps := ["self", "make", "field"]) fun _ _ _ _ _ _ us hl => match us, hl with | [_, _, _], _ => rfl⟩,
      d_number_bytes := ⟨_, _, fun_mk (st := s_number_bytes) l11 cc11 kk11, PySem.W.mg_of X G a11, (fun_mk (st := s_number_bytes) l11 cc11 kk11).binds (ps := ["number"]) fun _ _ _ _ _ _ us hl => match us, hl with | [_], _ => rfl⟩,
      d_text_bytes := ⟨_, _, fun_mk (st := s_text_bytes) l12 cc12 kk12, PySem.W.mg_of X G a12, (fun_mk (st := s_text_bytes) l12 cc12 kk12).binds (ps := ["text"]) fun _ _ _ _ _ _ us hl => match us, hl with | [_], _ => rfl⟩,
      d_places_bytes := ⟨_, _, fun_mk (st := s_places_bytes) l13 cc13 kk13, PySem.W.mg_of X G a13, (fun_mk (st := s_places_bytes) l13 cc13 kk13).binds (ps := ["places"]) fun _ _ _ _ _ _ us hl => match us, hl with | [_], _ => rfl⟩,
      d_postings_bytes := ⟨_, _, fun_mk (st := s_postings_bytes) l14 cc14 kk14, PySem.W.mg_of X G a14, (fun_mk (st := s_postings_bytes) l14 cc14 kk14).binds (ps := ["postings"]) fun _ _ _ _ _ _ us hl => match us, hl with | [_], _ => rfl⟩,
      d_field_bytes := ⟨_, _, fun_mk (st := s_field_bytes) l15 cc15 kk15, PySem.W.mg_of X G a15, (fun_mk (st := s_field_bytes) l15 cc15 kk15).binds (ps := ["piece", "field"]) fun _ _ _ _ _ _ us hl => match us, hl with | [_, _], _ => rfl⟩,
      d_piece_bytes := ⟨_, _, fun_mk (st := s_piece_bytes) l16 cc16 kk16, PySem.W.mg_of X G a16, (fun_mk (st := s_piece_bytes) l16 cc16 kk16).binds (ps := ["piece"]) fun _ _ _ _ _ _ us hl => match us, hl with | [_], _ => rfl⟩,
      d_ByteReader_init := ⟨_, _, fun_mk (st := s_ByteReader__init_) l17 cc17 kk17, ⟨m17, a17, i17, kc17⟩, (fun_mk (st := s_ByteReader__init_) l17 cc17 kk17).binds (ps := ["self", "row"]) fun _ _ _ _ _ _ us hl => match us, hl with | [_, _], _ => rfl⟩,
      d_sure := ⟨_, _, fun_mk (st := s_ByteReader_sure) l18 cc18 kk18, ⟨a18, i18, kk18⟩, (fun_mk (st := s_ByteReader_sure) l18 cc18 kk18).binds (ps := ["self", "good"]) fun _ _ _ _ _ _ us hl => match us, hl with | [_, _], _ => rfl⟩,
      d_next_byte := ⟨_, _, fun_mk (st := s_ByteReader_next_byte) l19 cc19 kk19, ⟨a19, i19, kk19⟩, (fun_mk (st := s_ByteReader_next_byte) l19 cc19 kk19).binds (ps := ["self"]) fun _ _ _ _ _ _ us hl => match us, hl with | [_], _ => rfl⟩,
      d_next_number := ⟨_, _, fun_mk (st := s_ByteReader_next_number) l20 cc20 kk20, ⟨a20, i20, kk20⟩, (fun_mk (st := s_ByteReader_next_number) l20 cc20 kk20).binds (ps := ["self"]) fun _ _ _ _ _ _ us hl => match us, hl with | [_], _ => rfl⟩,
      d_next_rising := ⟨_, _, fun_mk (st := s_ByteReader_next_rising) l21 cc21 kk21, ⟨a21, i21, kk21⟩, (fun_mk (st := s_ByteReader_next_rising) l21 cc21 kk21).binds (ps := ["self", "many"]) fun _ _ _ _ _ _ us hl => match us, hl with | [_, _], _ => rfl⟩,
      d_next_text := ⟨_, _, fun_mk (st := s_ByteReader_next_text) l22 cc22 kk22, ⟨a22, i22, kk22⟩, (fun_mk (st := s_ByteReader_next_text) l22 cc22 kk22).binds (ps := ["self"]) fun _ _ _ _ _ _ us hl => match us, hl with | [_], _ => rfl⟩,
      d_next_postings := ⟨_, _, fun_mk (st := s_ByteReader_next_postings) l23 cc23 kk23, ⟨a23, i23, kk23⟩, (fun_mk (st := s_ByteReader_next_postings) l23 cc23 kk23).binds (ps := ["self"]) fun _ _ _ _ _ _ us hl => match us, hl with | [_], _ => rfl⟩,
      d_next_words := ⟨_, _, fun_mk (st := s_ByteReader_next_words) l24 cc24 kk24, ⟨a24, i24, kk24⟩, (fun_mk (st := s_ByteReader_next_words) l24 cc24 kk24).binds (ps := ["self"]) fun _ _ _ _ _ _ us hl => match us, hl with | [_], _ => rfl⟩,
      d_next_field := ⟨_, _, fun_mk (st := s_ByteReader_next_field) l25 cc25 kk25, ⟨a25, i25, kk25⟩, (fun_mk (st := s_ByteReader_next_field) l25 cc25 kk25).binds (ps := ["self", "piece", "last"]) fun _ _ _ _ _ _ us hl => match us, hl with | [_, _, _], _ => rfl⟩,
      d_sure_filled := ⟨_, _, fun_mk (st := s_ByteReader_sure_filled) l26 cc26 kk26, ⟨a26, i26, kk26⟩, (fun_mk (st := s_ByteReader_sure_filled) l26 cc26 kk26).binds (ps := ["self", "lengths", "words"]) fun _ _ _ _ _ _ us hl => match us, hl with | [_, _, _], _ => rfl⟩,
      d_next_piece := ⟨_, _, fun_mk (st := s_ByteReader_next_piece) l27 cc27 kk27, ⟨a27, i27, kk27⟩, (fun_mk (st := s_ByteReader_next_piece) l27 cc27 kk27).binds (ps := ["self"]) fun _ _ _ _ _ _ us hl => match us, hl with | [_], _ => rfl⟩,
      d_ended := ⟨_, _, fun_mk (st := s_ByteReader_ended) l28 cc28 kk28, ⟨a28, i28, kk28⟩, (fun_mk (st := s_ByteReader_ended) l28 cc28 kk28).binds (ps := ["self", "told"]) fun _ _ _ _ _ _ us hl => match us, hl with | [_, _], _ => rfl⟩,
      d_read_piece := ⟨_, _, fun_mk (st := s_read_piece) l29 cc29 kk29, PySem.W.mg_of X G a29, (fun_mk (st := s_read_piece) l29 cc29 kk29).binds (ps := ["row"]) fun _ _ _ _ _ _ us hl => match us, hl with | [_], _ => rfl⟩,
      d__law_draws := ⟨_, _, fun_mk (st := s__law_draws) l30 cc30 kk30, PySem.W.mg_of X G a30, (fun_mk (st := s__law_draws) l30 cc30 kk30).binds (ps := ["_law_script", "_law_turn", "_law_many"]) fun _ _ _ _ _ _ us hl => match us, hl with | [_, _, _], _ => rfl⟩,
      d__law_pop := ⟨_, _, fun_mk (st := s__law_pop) l31 cc31 kk31, PySem.W.mg_of X G a31, (fun_mk (st := s__law_pop) l31 cc31 kk31).binds (ps := ["_law_draws_here"]) fun _ _ _ _ _ _ us hl => match us, hl with | [_], _ => rfl⟩,
      d__law_alike := ⟨_, _, fun_mk (st := s__law_alike) l32 cc32 kk32, PySem.W.mg_of X G a32, (fun_mk (st := s__law_alike) l32 cc32 kk32).binds (ps := ["_law_found", "_law_due"]) fun _ _ _ _ _ _ us hl => match us, hl with | [_, _], _ => rfl⟩,
      d__law_signs := ⟨_, _, fun_mk (st := s__law_signs) l33 cc33 kk33, PySem.W.mg_of X G a33, (fun_mk (st := s__law_signs) l33 cc33 kk33).binds (ps := []) fun _ _ _ _ _ _ us hl => match us, hl with | [], _ => rfl⟩,
      d__law_drawn := ⟨_, _, fun_mk (st := s__law_drawn) l34 cc34 kk34, PySem.W.mg_of X G a34, (fun_mk (st := s__law_drawn) l34 cc34 kk34).binds (ps := ["_law_draws_here"]) fun _ _ _ _ _ _ us hl => match us, hl with | [_], _ => rfl⟩,
      d__law_length := ⟨_, _, fun_mk (st := s__law_length) l35 cc35 kk35, PySem.W.mg_of X G a35, (fun_mk (st := s__law_length) l35 cc35 kk35).binds (ps := ["_law_table", "_law_make", "_law_field"]) fun _ _ _ _ _ _ us hl => match us, hl with | [_, _, _], _ => rfl⟩,
      d__law_number_bytes := ⟨_, _, fun_mk (st := s__law_number_bytes) l36 cc36 kk36, PySem.W.mg_of X G a36, (fun_mk (st := s__law_number_bytes) l36 cc36 kk36).binds (ps := ["_law_number"]) fun _ _ _ _ _ _ us hl => match us, hl with | [_], _ => rfl⟩,
      d__law_text_bytes := ⟨_, _, fun_mk (st := s__law_text_bytes) l37 cc37 kk37, PySem.W.mg_of X G a37, (fun_mk (st := s__law_text_bytes) l37 cc37 kk37).binds (ps := ["_law_text"]) fun _ _ _ _ _ _ us hl => match us, hl with | [_], _ => rfl⟩,
      d__law_postings_bytes := ⟨_, _, fun_mk (st := s__law_postings_bytes) l38 cc38 kk38, PySem.W.mg_of X G a38, (fun_mk (st := s__law_postings_bytes) l38 cc38 kk38).binds (ps := ["_law_postings"]) fun _ _ _ _ _ _ us hl => match us, hl with | [_], _ => rfl⟩,
      d__law_piece_bytes := ⟨_, _, fun_mk (st := s__law_piece_bytes) l39 cc39 kk39, PySem.W.mg_of X G a39, (fun_mk (st := s__law_piece_bytes) l39 cc39 kk39).binds (ps := ["_law_makes", "_law_table"]) fun _ _ _ _ _ _ us hl => match us, hl with | [_, _], _ => rfl⟩,
      d__law_number_in := ⟨_, _, fun_mk (st := s__law_number_in) l40 cc40 kk40, PySem.W.mg_of X G a40, (fun_mk (st := s__law_number_in) l40 cc40 kk40).binds (ps := ["_law_row", "_law_at"]) fun _ _ _ _ _ _ us hl => match us, hl with | [_, _], _ => rfl⟩,
      d__law_rising_in := ⟨_, _, fun_mk (st := s__law_rising_in) l41 cc41 kk41, PySem.W.mg_of X G a41, (fun_mk (st := s__law_rising_in) l41 cc41 kk41).binds (ps := ["_law_row", "_law_at", "_law_many"]) fun _ _ _ _ _ _ us hl => match us, hl with | [_, _, _], _ => rfl⟩,
      d__law_text_in := ⟨_, _, fun_mk (st := s__law_text_in) l42 cc42 kk42, PySem.W.mg_of X G a42, (fun_mk (st := s__law_text_in) l42 cc42 kk42).binds (ps := ["_law_row", "_law_at"]) fun _ _ _ _ _ _ us hl => match us, hl with | [_, _], _ => rfl⟩,
      d__law_postings_in := ⟨_, _, fun_mk (st := s__law_postings_in) l43 cc43 kk43, PySem.W.mg_of X G a43, (fun_mk (st := s__law_postings_in) l43 cc43 kk43).binds (ps := ["_law_row", "_law_at"]) fun _ _ _ _ _ _ us hl => match us, hl with | [_, _], _ => rfl⟩,
      d__law_bent := ⟨_, _, fun_mk (st := s__law_bent) l44 cc44 kk44, PySem.W.mg_of X G a44, (fun_mk (st := s__law_bent) l44 cc44 kk44).binds (ps := ["_law_row", "_law_draws_here"]) fun _ _ _ _ _ _ us hl => match us, hl with | [_, _], _ => rfl⟩,
      d__law_kind := ⟨_, _, fun_mk (st := s__law_kind) l45 cc45 kk45, PySem.W.mg_of X G a45, (fun_mk (st := s__law_kind) l45 cc45 kk45).binds (ps := ["_law_error"]) fun _ _ _ _ _ _ us hl => match us, hl with | [_], _ => rfl⟩,
      d__law_tells := ⟨_, _, fun_mk (st := s__law_tells) l46 cc46 kk46, PySem.W.mg_of X G a46, (fun_mk (st := s__law_tells) l46 cc46 kk46).binds (ps := ["_law_piece", "_law_makes", "_law_table"]) fun _ _ _ _ _ _ us hl => match us, hl with | [_, _, _], _ => rfl⟩,
      d__law_word_in := ⟨_, _, fun_mk (st := s__law_word_in) l47 cc47 kk47, PySem.W.mg_of X G a47, (fun_mk (st := s__law_word_in) l47 cc47 kk47).binds (ps := ["_law_row", "_law_at", "_law_last", "_law_figures"]) fun _ _ _ _ _ _ us hl => match us, hl with | [_, _, _, _], _ => rfl⟩,
      d__law_words_in := ⟨_, _, fun_mk (st := s__law_words_in) l48 cc48 kk48, PySem.W.mg_of X G a48, (fun_mk (st := s__law_words_in) l48 cc48 kk48).binds (ps := ["_law_row", "_law_at"]) fun _ _ _ _ _ _ us hl => match us, hl with | [_, _], _ => rfl⟩,
      d__law_field_in := ⟨_, _, fun_mk (st := s__law_field_in) l49 cc49 kk49, PySem.W.mg_of X G a49, (fun_mk (st := s__law_field_in) l49 cc49 kk49).binds (ps := ["_law_row", "_law_at", "_law_last", "_law_makes"]) fun _ _ _ _ _ _ us hl => match us, hl with | [_, _, _, _], _ => rfl⟩,
      d__law_piece_in := ⟨_, _, fun_mk (st := s__law_piece_in) l50 cc50 kk50, PySem.W.mg_of X G a50, (fun_mk (st := s__law_piece_in) l50 cc50 kk50).binds (ps := ["_law_row"]) fun _ _ _ _ _ _ us hl => match us, hl with | [_], _ => rfl⟩,
      d__law_refused := ⟨_, _, fun_mk (st := s__law_refused) l51 cc51 kk51, PySem.W.mg_of X G a51, (fun_mk (st := s__law_refused) l51 cc51 kk51).binds (ps := ["_law_row"]) fun _ _ _ _ _ _ us hl => match us, hl with | [_], _ => rfl⟩,
      d_law := ⟨_, _, fun_mk (st := s_law) l52 cc52 kk52, PySem.W.mg_of X G a52, (fun_mk (st := s_law) l52 cc52 kk52).binds (ps := ["_law_script"]) fun _ _ _ _ _ _ us hl => match us, hl with | [_], _ => rfl⟩ }
  exact ⟨PySem.W.fnOf "law" "law" (defArgs s_law) (defBody s_law) (defScope s_law) .none kV52 dc52 pm52 an52 cd52 ct52, fun s v => .of_eq rfl, fun base _ _ => ok_law T (fun_mk (st := s_law) l52 cc52 kk52)⟩
theorem walk {l : PySem.W.OpenLaw} {q : Program} {loose : List Str} {XP : (Str → Option Value) → Heap → Prop} {YP : World → Heap → Prop} {d : DefRec} {K : Params → PySem.W.Frag} (hn : l.most = some 63) (hdf : d.params.defaults = [])
    (hY : ∀ (w : World) (h : Heap), YP w h → (K w.params).In h)
    (F : ∀ (w : World) (mg : Str → Option Value) (fa : Addr) (h : Heap), (K w.params).In h → h.Ns mainGlobals mg → mg d.name = some (.ref fa) →
      ∃ fd : FuncData, (∀ (s : Shared) (u : Value), BindsTo s fd ⟨[u], []⟩ [("_law_script", u)]) ∧ ∀ base : Heap, (K w.params).In base → base.Ns mainGlobals mg → FnOk l.prog w (K w.params) mg base CX0 11 fa fd ["_law_script"] (spLaw (K w.params))) :
    PySem.W.WalkO q loose XP YP l.row.toRowW d [] (fun f vs => PySem.call f vs) :=
  L2.walk_of (n := 63) (k := 11) (x := "_law_script") (CX := fun _ => CX0) (sp := fun w => spLaw (K w.params)) hn (by decide) hdf ⟨rfl, by decide, by decide⟩ hY F (fun _ _ a ns hl _ hS => ⟨a, ns, rfl, hS, hl, fun _ => rfl⟩) fun _ _ _ _ _ z => z
end FC
open PySem PySem.W PyProof.Rows
set_option maxRecDepth 100000 in
set_option maxHeartbeats 0 in
theorem PySem.Challenge.cw_findcourt_k15_bytes_of_pieces_looked_at_holds : PySem.Challenge.rw_findcourt_k15_bytes_of_pieces_looked_at.Holds := by
  w_on; o_law; k_head; (case hw => w_witness2)
  k_fill
  refine FC.walk (l := PySem.Challenge.rw_findcourt_k15_bytes_of_pieces_looked_at) rfl rfl (fun w h Y => PySem.W.kIn_of Y) ?F
  case F =>
    intro w mg fa h KX G hmg
    refine' FC.all_mk KX G hmg ?b_len ?b_all ?b_sum ?b_ord ?b_isinstance ?b_sorted ?b_int ?b_str ?b_bool ?b_list ?b_tuple ?b_dict ?b_range ?b_enumerate ?b_reversed ?b_ValueError ?g_LETTERS ?g_FIGURES ?g_SIGNS ?c_Piece ?c_ByteReader ?c_FindError ?c_NoField ?c_NoMake ?c_NoBytes ?c_NoDocument ?c_NoStamp ?c_NoPiece ?c_NoPattern ?c_NoLine ?c_NoText ?k_Piece1 ?k_Piece2 ?k_Piece3 ?k_Piece4 ?k_ByteReader1 ?k_ByteReader2 ?k_ByteReader3 ?k_ByteReader4 ?a_held_makes ?a_lengths ?a_table ?a_row ?a_at ?a_signs ?x_NoBytes ?kp_NoBytes ?sb_NoBytes ?ty_NoBytes ?e_hg ?e_hk ?e_hd ?e_ha ?e_hn ?e_ht ?e_hm ?em1 ?em2 ?em3 ?em4 ?i_NoField ?n_NoField ?i_NoMake ?n_NoMake ?i_NoBytes ?n_NoBytes ?i_NoDocument ?n_NoDocument ?i_NoStamp ?n_NoStamp ?i_NoPiece ?n_NoPiece ?i_NoPattern ?n_NoPattern ?i_NoLine ?n_NoLine ?i_NoText ?n_NoText ?i_ValueError ?a1 ?l1 ?cc1 ?kk1 ?a2 ?l2 ?cc2 ?kk2 ?a3 ?l3 ?cc3 ?kk3 ?a4 ?l4 ?cc4 ?kk4 ?a5 ?i5 ?m5 ?kc5 ?l5 ?cc5 ?kk5 ?a6 ?i6 ?l6 ?cc6 ?kk6 ?a7 ?i7 ?l7 ?cc7 ?kk7 ?a8 ?i8 ?l8 ?cc8 ?kk8 ?a9 ?i9 ?l9 ?cc9 ?kk9 ?a10 ?i10 ?l10 ?cc10 ?kk10 ?a11 ?l11 ?cc11 ?kk11 ?a12 ?l12 ?cc12 ?kk12 ?a13 ?l13 ?cc13 ?kk13 ?a14 ?l14 ?cc14 ?kk14 ?a15 ?l15 ?cc15 ?kk15 ?a16 ?l16 ?cc16 ?kk16 ?a17 ?i17 ?m17 ?kc17 ?l17 ?cc17 ?kk17 ?a18 ?i18 ?l18 ?cc18 ?kk18 ?a19 ?i19 ?l19 ?cc19 ?kk19 ?a20 ?i20 ?l20 ?cc20 ?kk20 ?a21 ?i21 ?l21 ?cc21 ?kk21 ?a22 ?i22 ?l22 ?cc22 ?kk22 ?a23 ?i23 ?l23 ?cc23 ?kk23 ?a24 ?i24 ?l24 ?cc24 ?kk24 ?a25 ?i25 ?l25 ?cc25 ?kk25 ?a26 ?i26 ?l26 ?cc26 ?kk26 ?a27 ?i27 ?l27 ?cc27 ?kk27 ?a28 ?i28 ?l28 ?cc28 ?kk28 ?a29 ?l29 ?cc29 ?kk29 ?a30 ?l30 ?cc30 ?kk30 ?a31 ?l31 ?cc31 ?kk31 ?a32 ?l32 ?cc32 ?kk32 ?a33 ?l33 ?cc33 ?kk33 ?a34 ?l34 ?cc34 ?kk34 ?a35 ?l35 ?cc35 ?kk35 ?a36 ?l36 ?cc36 ?kk36 ?a37 ?l37 ?cc37 ?kk37 ?a38 ?l38 ?cc38 ?kk38 ?a39 ?l39 ?cc39 ?kk39 ?a40 ?l40 ?cc40 ?kk40 ?a41 ?l41 ?cc41 ?kk41 ?a42 ?l42 ?cc42 ?kk42 ?a43 ?l43 ?cc43 ?kk43 ?a44 ?l44 ?cc44 ?kk44 ?a45 ?l45 ?cc45 ?kk45 ?a46 ?l46 ?cc46 ?kk46 ?a47 ?l47 ?cc47 ?kk47 ?a48 ?l48 ?cc48 ?kk48 ?a49 ?l49 ?cc49 ?kk49 ?a50 ?l50 ?cc50 ?kk50 ?a51 ?l51 ?cc51 ?kk51 ?a52 ?l52 ?cc52 ?kk52
    (case b_len => k_is)
    (case b_all => k_is)
    (case b_sum => k_is)
    (case b_ord => k_is)
    (case b_isinstance => k_is)
    (case b_sorted => k_is)
    (case b_int => k_is)
    (case b_str => k_is)
    (case b_bool => k_is)
    (case b_list => k_is)
    (case b_tuple => k_is)
    (case b_dict => k_is)
    (case b_range => k_is)
    (case b_enumerate => k_is)
    (case b_reversed => k_is)
    (case b_ValueError => k_is)
    (case g_LETTERS => k_is)
    (case g_FIGURES => k_is)
    (case g_SIGNS => k_is)
    (case c_Piece => k_is)
    (case c_ByteReader => k_is)
    (case c_FindError => k_is)
    (case c_NoField => k_is)
    (case c_NoMake => k_is)
    (case c_NoBytes => k_is)
    (case c_NoDocument => k_is)
    (case c_NoStamp => k_is)
    (case c_NoPiece => k_is)
    (case c_NoPattern => k_is)
    (case c_NoLine => k_is)
    (case c_NoText => k_is)
    (case k_Piece1 => k_is)
    (case k_Piece2 => k_is)
    (case k_Piece3 => k_is)
    (case k_Piece4 => k_is)
    (case k_ByteReader1 => k_is)
    (case k_ByteReader2 => k_is)
    (case k_ByteReader3 => k_is)
    (case k_ByteReader4 => k_is)
    (case a_held_makes => k_is)
    (case a_lengths => k_is)
    (case a_table => k_is)
    (case a_row => k_is)
    (case a_at => k_is)
    (case a_signs => k_is)
    (case x_NoBytes => k_exc)
    (case kp_NoBytes => k_is)
    (case sb_NoBytes => k_is)
    (case ty_NoBytes => k_is)
    (case e_hg => k_is)
    (case e_hk => k_is)
    (case e_hd => k_is)
    (case e_ha => k_is)
    (case e_hn => k_is)
    (case e_ht => k_is)
    (case e_hm => k_is)
    (case em1 => k_is)
    (case em2 => k_is)
    (case em3 => k_is)
    (case em4 => k_is)
    (case i_NoField => first | k_is | kit_is | decide +kernel)
    (case n_NoField => first | k_is | kit_is | decide +kernel)
    (case i_NoMake => first | k_is | kit_is | decide +kernel)
    (case n_NoMake => first | k_is | kit_is | decide +kernel)
    (case i_NoBytes => first | k_is | kit_is | decide +kernel)
    (case n_NoBytes => first | k_is | kit_is | decide +kernel)
    (case i_NoDocument => first | k_is | kit_is | decide +kernel)
    (case n_NoDocument => first | k_is | kit_is | decide +kernel)
    (case i_NoStamp => first | k_is | kit_is | decide +kernel)
    (case n_NoStamp => first | k_is | kit_is | decide +kernel)
    (case i_NoPiece => first | k_is | kit_is | decide +kernel)
    (case n_NoPiece => first | k_is | kit_is | decide +kernel)
    (case i_NoPattern => first | k_is | kit_is | decide +kernel)
    (case n_NoPattern => first | k_is | kit_is | decide +kernel)
    (case i_NoLine => first | k_is | kit_is | decide +kernel)
    (case n_NoLine => first | k_is | kit_is | decide +kernel)
    (case i_NoText => first | k_is | kit_is | decide +kernel)
    (case n_NoText => first | k_is | kit_is | decide +kernel)
    (case i_ValueError => first | k_is | kit_is | decide +kernel)
    (case a1 => k_is)
    (case l1 => k_is)
    (case cc1 => k_is)
    (case kk1 => k_is)
    (case a2 => k_is)
    (case l2 => k_is)
    (case cc2 => k_is)
    (case kk2 => k_is)
    (case a3 => k_is)
    (case l3 => k_is)
    (case cc3 => k_is)
    (case kk3 => k_is)
    (case a4 => k_is)
    (case l4 => k_is)
    (case cc4 => k_is)
    (case kk4 => k_is)
    (case a5 => k_is)
    (case i5 => k_is)
    (case m5 => k_is)
    (case kc5 => k_is)
    (case l5 => k_is)
    (case cc5 => k_is)
    (case kk5 => k_is)
    (case a6 => k_is)
    (case i6 => k_is)
    (case l6 => k_is)
    (case cc6 => k_is)
    (case kk6 => k_is)
    (case a7 => k_is)
    (case i7 => k_is)
    (case l7 => k_is)
    (case cc7 => k_is)
    (case kk7 => k_is)
    (case a8 => k_is)
    (case i8 => k_is)
    (case l8 => k_is)
    (case cc8 => k_is)
    (case kk8 => k_is)
    (case a9 => k_is)
    (case i9 => k_is)
    (case l9 => k_is)
    (case cc9 => k_is)
    (case kk9 => k_is)
    (case a10 => k_is)
    (case i10 => k_is)
    (case l10 => k_is)
    (case cc10 => k_is)
    (case kk10 => k_is)
    (case a11 => k_is)
    (case l11 => k_is)
    (case cc11 => k_is)
    (case kk11 => k_is)
    (case a12 => k_is)
    (case l12 => k_is)
    (case cc12 => k_is)
    (case kk12 => k_is)
    (case a13 => k_is)
    (case l13 => k_is)
    (case cc13 => k_is)
    (case kk13 => k_is)
    (case a14 => k_is)
    (case l14 => k_is)
    (case cc14 => k_is)
    (case kk14 => k_is)
    (case a15 => k_is)
    (case l15 => k_is)
    (case cc15 => k_is)
    (case kk15 => k_is)
    (case a16 => k_is)
    (case l16 => k_is)
    (case cc16 => k_is)
    (case kk16 => k_is)
    (case a17 => k_is)
    (case i17 => k_is)
    (case m17 => k_is)
    (case kc17 => k_is)
    (case l17 => k_is)
    (case cc17 => k_is)
    (case kk17 => k_is)
    (case a18 => k_is)
    (case i18 => k_is)
    (case l18 => k_is)
    (case cc18 => k_is)
    (case kk18 => k_is)
    (case a19 => k_is)
    (case i19 => k_is)
    (case l19 => k_is)
    (case cc19 => k_is)
    (case kk19 => k_is)
    (case a20 => k_is)
    (case i20 => k_is)
    (case l20 => k_is)
    (case cc20 => k_is)
    (case kk20 => k_is)
    (case a21 => k_is)
    (case i21 => k_is)
    (case l21 => k_is)
    (case cc21 => k_is)
    (case kk21 => k_is)
    (case a22 => k_is)
    (case i22 => k_is)
    (case l22 => k_is)
    (case cc22 => k_is)
    (case kk22 => k_is)
    (case a23 => k_is)
    (case i23 => k_is)
    (case l23 => k_is)
    (case cc23 => k_is)
    (case kk23 => k_is)
    (case a24 => k_is)
    (case i24 => k_is)
    (case l24 => k_is)
    (case cc24 => k_is)
    (case kk24 => k_is)
    (case a25 => k_is)
    (case i25 => k_is)
    (case l25 => k_is)
    (case cc25 => k_is)
    (case kk25 => k_is)
    (case a26 => k_is)
    (case i26 => k_is)
    (case l26 => k_is)
    (case cc26 => k_is)
    (case kk26 => k_is)
    (case a27 => k_is)
    (case i27 => k_is)
    (case l27 => k_is)
    (case cc27 => k_is)
    (case kk27 => k_is)
    (case a28 => k_is)
    (case i28 => k_is)
    (case l28 => k_is)
    (case cc28 => k_is)
    (case kk28 => k_is)
    (case a29 => k_is)
    (case l29 => k_is)
    (case cc29 => k_is)
    (case kk29 => k_is)
    (case a30 => k_is)
    (case l30 => k_is)
    (case cc30 => k_is)
    (case kk30 => k_is)
    (case a31 => k_is)
    (case l31 => k_is)
    (case cc31 => k_is)
    (case kk31 => k_is)
    (case a32 => k_is)
    (case l32 => k_is)
    (case cc32 => k_is)
    (case kk32 => k_is)
    (case a33 => k_is)
    (case l33 => k_is)
    (case cc33 => k_is)
    (case kk33 => k_is)
    (case a34 => k_is)
    (case l34 => k_is)
    (case cc34 => k_is)
    (case kk34 => k_is)
    (case a35 => k_is)
    (case l35 => k_is)
    (case cc35 => k_is)
    (case kk35 => k_is)
    (case a36 => k_is)
    (case l36 => k_is)
    (case cc36 => k_is)
    (case kk36 => k_is)
    (case a37 => k_is)
    (case l37 => k_is)
    (case cc37 => k_is)
    (case kk37 => k_is)
    (case a38 => k_is)
    (case l38 => k_is)
    (case cc38 => k_is)
    (case kk38 => k_is)
    (case a39 => k_is)
    (case l39 => k_is)
    (case cc39 => k_is)
    (case kk39 => k_is)
    (case a40 => k_is)
    (case l40 => k_is)
    (case cc40 => k_is)
    (case kk40 => k_is)
    (case a41 => k_is)
    (case l41 => k_is)
    (case cc41 => k_is)
    (case kk41 => k_is)
    (case a42 => k_is)
    (case l42 => k_is)
    (case cc42 => k_is)
    (case kk42 => k_is)
    (case a43 => k_is)
    (case l43 => k_is)
    (case cc43 => k_is)
    (case kk43 => k_is)
    (case a44 => k_is)
    (case l44 => k_is)
    (case cc44 => k_is)
    (case kk44 => k_is)
    (case a45 => k_is)
    (case l45 => k_is)
    (case cc45 => k_is)
    (case kk45 => k_is)
    (case a46 => k_is)
    (case l46 => k_is)
    (case cc46 => k_is)
    (case kk46 => k_is)
    (case a47 => k_is)
    (case l47 => k_is)
    (case cc47 => k_is)
    (case kk47 => k_is)
    (case a48 => k_is)
    (case l48 => k_is)
    (case cc48 => k_is)
    (case kk48 => k_is)
    (case a49 => k_is)
    (case l49 => k_is)
    (case cc49 => k_is)
    (case kk49 => k_is)
    (case a50 => k_is)
    (case l50 => k_is)
    (case cc50 => k_is)
    (case kk50 => k_is)
    (case a51 => k_is)
    (case l51 => k_is)
    (case cc51 => k_is)
    (case kk51 => k_is)
    (case a52 => k_is)
    (case l52 => k_is)
    (case cc52 => k_is)
    (case kk52 => k_is)
