import PyProof.Rows.All
import Wide.All
import OpenK.AllK
import Wide.FinOn
import PySem.Challenge.RW_sungbyturns_k15_inference_in_large_books
import KE.KStateDown
import KE.KNestM
import HandS.Words
import HandS.Head0
import HandS.Head1
import HandS.Head2
import HandS.HeadHook1
import HandS.HeadHook4
import HandS.ForMost
import HandS.Exc
import HandS.ExcOwn
import HandS.TryOnly
import HandS.WordsExc
import HandS.Wide
import HandS.Lambda
import HandS.TupAny
import HandS.IsInst
import HandS.Iter
import HandS.Text
import HandS.SortInts
import HandS.Zip
import KE.GoesNew
import KE.GoesMore
import KE.GoesEnum
import HandS.CallSlots
import HandS.Walk
import HandS.ExcInit
import HandS.Dict
import HandS.Style
import HandS.Comp
import HandS.EndBits
import HandS.EndTab
import HandS.Set
import HandS.SetFor
import HandS.Strs
import HandS.More
import HandS.DictComp
import HandS.TupMul
import KE.KDictCopyH
import HandS.DictTup
import KE.SortData
import HandS.ExcIs
import KE.DataFind
import HandS.ExcField
import HandS.MakeKwOnly
import KE.KExcIs
import KE.DataEq
import KE.KLam
import KE.KEqNest
import KE.KEqDict
import HandS.Nested
import KE.KDictPairs
import HandS.Conv
import PyProof.Rows.StrMeet
import PyProof.Rows.SortStr
set_option Elab.async false
set_option linter.all false
set_option maxRecDepth 100000
set_option maxHeartbeats 4000000
namespace D0
open PySem PySem.Spec PyProof.Rows L2
/-- what the module's names reach in n steps, newest part by newest part -/
def asF (g : Addr → Option Obj) : Nat → List Addr → List Addr
  | 0, _ => []
  | n + 1, as => (as.flatMap fun a => match g a with
    | some o => He.refsO o
    | none => []) ++ asF g n (as.flatMap fun a => match g a with
    | some o => He.refsO o
    | none => [])
abbrev Fct : Type := PySem.W.Frag → Bool
abbrev AlF : Type := Bool × List He.FnV
def fragF (n : Nat) (g : Addr → Option Obj) : PySem.W.Frag := He.frT g (mainGlobals :: cStatics :: asF g n [mainGlobals])
def obsF (n : Nat) (fa : List Fct) (fn : List He.FnD) (g : Addr → Option Obj) : AlF :=
  (fun K : PySem.W.Frag => ((fa.all fun f => f K) && fn.all fun d => (He.Fa.code d.at_ d.qual).ok K, fn.map fun d => He.fnObs K d.at_)) (fragF n g)
def valF (fn : List He.FnD) : AlF := (true, fn.map He.FnD.val)
structure SaysF (fa : List Fct) (fn : List He.FnD) (K : PySem.W.Frag) : Prop where
  fs : ∀ f ∈ fa, f K = true
  ds : ∀ d ∈ fn, ∃ oc od osl kV doc pm an cdv ct, K.lookup (He.fAd K d.at_) = some ⟨oc, od, .func (PySem.W.fnOf d.name d.qual d.params d.body d.scope .none kV doc pm an cdv ct), osl⟩ ∧ PySem.W.codeIn K cdv d.qual = true
theorem saysF_of {fa : List Fct} {fn : List He.FnD} {K : PySem.W.Frag} (e : (((fa.all fun f => f K) && fn.all fun d => (He.Fa.code d.at_ d.qual).ok K, fn.map fun d => He.fnObs K d.at_) : AlF) = valF fn) : SaysF fa fn K := by
  have e1 : ((fa.all fun f => f K) && fn.all fun d => (He.Fa.code d.at_ d.qual).ok K) = true := congrArg (fun z : AlF => z.1) e
  have e2 : (fn.map fun d => He.fnObs K d.at_) = fn.map He.FnD.val := congrArg (fun z : AlF => z.2) e
  obtain ⟨h1, h2⟩ := He.ba e1
  refine ⟨fun f hf => List.all_eq_true.mp h1 f hf, fun d hd => ?_⟩
  refine He.fn_ok ?_ (List.all_eq_true.mp h2 d hd)
  obtain ⟨i, hi, ei⟩ := List.mem_iff_getElem.mp hd
  have e3 : (fn.map fun d => He.fnObs K d.at_)[i]? = (fn.map He.FnD.val)[i]? := by rw [e2]
  rw [List.getElem?_map, List.getElem?_map, List.getElem?_eq_getElem hi, ei] at e3
  exact Option.some.inj e3
def hookF (n : Nat) (fa : List Fct) (fn : List He.FnD) : PySem.W.Hook where
  α := AlF
  obs := fun s => obsF n fa fn s.heap.get?
  val := fun _ => valF fn
  says := fun _ h => ∃ K : PySem.W.Frag, K.In h ∧ SaysF fa fn K
  of := fun _ _ e => ⟨_, He.frT_in, saysF_of e⟩
  keeps := fun _ _ _ ⟨K, hK, c⟩ k => ⟨K, PySem.W.Frag.In.keeps hK k, c⟩
theorem obsF_eq {n : Nat} {fa : List Fct} {fn : List He.FnD} {g : Addr → Option Obj} {s : Shared} (h : ∀ a, g a = s.heap.get? a) : obsF n fa fn g = (hookF n fa fn).obs s := by
  have e : g = s.heap.get? := funext h
  rw [e] <;> rfl
section
variable {K : PySem.W.Frag}
def cFr (x : Str) : Fct := fun K => He.eqO (PySem.W.nsIn K mainGlobals x) (some none)
theorem cFr_ok {x : Str} (h : cFr x K = true) : PySem.W.nsIn K mainGlobals x = some none := He.eqO_ok h
def cGl (x : Str) : Fct := fun K => He.eqO (PySem.W.nsIn K mainGlobals x) (some (some (.ref (He.ga K x))))
theorem cGl_ok {x : Str} (h : cGl x K = true) : PySem.W.nsIn K mainGlobals x = some (some (.ref (He.ga K x))) := He.eqO_ok h
def tkV : Option (Option Value) → Tok
  | some (some (.int _ t)) => t
  | some (some (.str _ t)) => t
  | _ => default
def cIn (x : Str) (i : Int) : Fct := fun K => He.eqO (PySem.W.nsIn K mainGlobals x) (some (some (.int i (tkV (PySem.W.nsIn K mainGlobals x)))))
theorem cIn_ok {x : Str} {i : Int} (h : cIn x i K = true) : PySem.W.nsIn K mainGlobals x = some (some (.int i (tkV (PySem.W.nsIn K mainGlobals x)))) := He.eqO_ok h
def cSt (x z : Str) : Fct := fun K => He.eqO (PySem.W.nsIn K mainGlobals x) (some (some (.str z (tkV (PySem.W.nsIn K mainGlobals x)))))
theorem cSt_ok {x z : Str} (h : cSt x z K = true) : PySem.W.nsIn K mainGlobals x = some (some (.str z (tkV (PySem.W.nsIn K mainGlobals x)))) := He.eqO_ok h
/-- any of the given names' facts -/
def cSa (x : Str) : Fct := fun K => He.eqO (PySem.W.findIn K (.ref (He.ga K x)) "__setattr__") (some (some (.builtin "object.__setattr__")))
theorem cSa_ok {x : Str} (h : cSa x K = true) : PySem.W.findIn K (.ref (He.ga K x)) "__setattr__" = some (some (.builtin "object.__setattr__")) := He.eqO_ok h
def cPg (x : Str) : Fct := fun K => PySem.W.plainGet K (He.ga K x) Str.empty
def cHd (x : Str) : Fct := fun K => PySem.W.hasDictIn K (He.ga K x)
def cPo (x : Str) : Fct := fun K => PySem.W.plainOver K (He.ga K x)
def cMk (x : Str) : Fct := fun K => PySem.W.makesIn K (He.ga K x)
def cKc (x : Str) : Fct := fun K => PySem.W.keepIn K (.ref (He.ga K x))
def cXq (x : Str) : Fct := fun K => PySem.W.excIn K (He.ga K x) [.type "ValueError", .type "Exception", .type "BaseException", .type "object"] "ValueError.__new__"
def cXb (x : Str) : Fct := fun K => decide (PySem.W.subIn K (.ref (He.ga K x)) (.type "BaseException") = some true)
theorem cXb_ok {x : Str} (h : cXb x K = true) : PySem.W.subIn K (.ref (He.ga K x)) (.type "BaseException") = some true := of_decide_eq_true h
def cXt (x : Str) : Fct := fun K => decide (PySem.W.typeIn K (.ref (He.ga K x)) = some (.type "type"))
theorem cXt_ok {x : Str} (h : cXt x K = true) : PySem.W.typeIn K (.ref (He.ga K x)) = some (.type "type") := of_decide_eq_true h
def cNf (x f : Str) : Fct := fun K => He.eqO (PySem.W.findIn K (.ref (He.ga K x)) f) (some none)
theorem cNf_ok {x f : Str} (h : cNf x f K = true) : PySem.W.findIn K (.ref (He.ga K x)) f = some none := He.eqO_ok h
def cMe (x m : Str) : Fct := fun K => He.eqO (PySem.W.findIn K (.ref (He.ga K x)) m) (some (some (.ref (He.ma K (He.ga K x) m))))
theorem cMe_ok {x m : Str} (h : cMe x m K = true) : PySem.W.findIn K (.ref (He.ga K x)) m = some (some (.ref (He.ma K (He.ga K x) m))) := He.eqO_ok h
def cFn (p : Str × Option Str) : Fct := fun K => PySem.W.isFn K (.ref (He.fAd K p))
def cKp (p : Str × Option Str) : Fct := fun K => PySem.W.keepIn K (.ref (He.fAd K p))
def excF (K : PySem.W.Frag) (D : Addr) : Bool := decide (PySem.W.findIn K (.ref D) "__getattribute__" = some (some (.builtin "BaseException.__getattribute__"))) && (decide (PySem.W.findIn K (.ref D) "__getattr__" = some none) && (decide (PySem.W.subIn K (.ref D) (.type "BaseException") = some true) && (PySem.W.hasDictIn K D &&
  (decide (PySem.W.findIn K (.ref D) "__class__" = some (some (.builtin "object.__class__"))) && (decide (PySem.W.specialIn K (.builtin "object.__class__") "__get__" = some (some (.builtin "getset_descriptor.__get__"))) && (decide (PySem.W.takesIn K (.builtin "object.__class__") = some true) && decide (PySem.W.mroIn K D (.type "object") = some true)))))))
def rowF (K : PySem.W.Frag) (SE D : Addr) (cs : List Addr) : Bool := excF K D && (decide (PySem.W.exmOne K (.ref D) (.ref SE) = some true) && (decide (PySem.W.kitOne K (.ref D) (.type "ValueError") = some true) && cs.all fun C => decide (PySem.W.kitOne K (.ref D) (.ref C) = some (decide (D = C)))))
def resF (K : PySem.W.Frag) (SE : Addr) (cs : List Addr) : Bool := decide cs.Nodup && (cs.drop 1).all fun D => rowF K SE D cs
def cRe (x : Str) (l : List Str) : Fct := fun K => resF K (He.ga K x) (l.map (He.ga K))
/-- a def with lambdas: its code object and its table -/
def cLa (p : Str × Option Str) : Fct := fun K => (match K.lookup (He.codeOf K p) with
  | some ⟨_, _, .fields vs, _⟩ => (match (vs[11]? : Option Value) with
    | some (.ref P) => decide (P = He.tabOf K (He.codeOf K p))
    | _ => false)
  | _ => false) && (PySem.W.codeHdIn K (He.codeOf K p) (He.tabOf K (He.codeOf K p)) && (K.lookup (He.tabOf K (He.codeOf K p))).isNone)
theorem cLa_ok {p : Str × Option Str} (h : cLa p K = true) : ∃ e dd vs sk, K.lookup (He.codeOf K p) = some ⟨e, dd, .fields vs, sk⟩ ∧ vs[11]? = some (.ref (He.tabOf K (He.codeOf K p))) ∧ PySem.W.codeHdIn K (He.codeOf K p) (He.tabOf K (He.codeOf K p)) = true ∧ K.lookup (He.tabOf K (He.codeOf K p)) = none := by
  obtain ⟨h1, h2⟩ := He.ba h
  obtain ⟨h3, h4⟩ := He.ba h2
  generalize He.tabOf K (He.codeOf K p) = T at h1 h3 h4 ⊢
  cases q : K.lookup (He.codeOf K p) with
  | none => rw [q] at h1; cases h1
  | some o =>
    obtain ⟨oc, od, dt, sl⟩ := o
    rw [q] at h1
    cases dt with
    | fields vs =>
      refine ⟨oc, od, vs, sl, rfl, ?_, h3, Option.isNone_iff_eq_none.mp h4⟩
      have h5 : (match (vs[11]? : Option Value) with
        | some (.ref P) => decide (P = T)
        | _ => false) = true := h1
      cases z : vs[11]? with
      | none => rw [z] at h5; cases h5
      | some u =>
        rw [z] at h5
        cases u with
        | ref P =>
          have e : P = T := of_decide_eq_true h5
          rw [e]
        | _ => cases h5
    | _ => cases h1
theorem laCd {p : Str × Option Str} {oc : Value} {od : Option Addr} {osl : Array (Option Value)} {nm q : Str} {a : Arguments} {b : List Stmt} {sc : Scope} {kV doc pm : Value} {an : Option Addr} {cdv ct : Value}
    (lk : K.lookup (He.fAd K p) = some ⟨oc, od, .func (PySem.W.fnOf nm q a b sc .none kV doc pm an cdv ct), osl⟩) (cc : PySem.W.codeIn K cdv q = true) : cdv = .ref (He.codeOf K p) := by
  obtain ⟨c, e⟩ := He.codeIn_ref cc
  rw [He.codeOf_eq lk (c := c) (by subst e; rfl)]
  exact e
structure FW (K : PySem.W.Frag) (d : He.FnD) where
  oc : Value
  od : Option Addr
  osl : Array (Option Value)
  kV : Value
  doc : Value
  pm : Value
  an : Option Addr
  cdv : Value
  ct : Value
  lk : K.lookup (He.fAd K d.at_) = some ⟨oc, od, .func (PySem.W.fnOf d.name d.qual d.params d.body d.scope .none kV doc pm an cdv ct), osl⟩
  cc : PySem.W.codeIn K cdv d.qual = true
structure LmW (K : PySem.W.Frag) (d : He.FnD) where
  oc : Value
  od : Option Addr
  osl : Array (Option Value)
  kV : Value
  doc : Value
  pm : Value
  an : Option Addr
  ct : Value
  e : Value
  dd : Option Addr
  vs : Array Value
  sk : Array (Option Value)
  lk : K.lookup (He.fAd K d.at_) = some ⟨oc, od, .func (PySem.W.fnOf d.name d.qual d.params d.body d.scope .none kV doc pm an (.ref (He.codeOf K d.at_)) ct), osl⟩
  cc : PySem.W.codeIn K (.ref (He.codeOf K d.at_)) d.qual = true
  lc : K.lookup (He.codeOf K d.at_) = some ⟨e, dd, .fields vs, sk⟩
  tp : (vs[11]? : Option Value) = some (.ref (He.tabOf K (He.codeOf K d.at_)))
  ch : PySem.W.codeHdIn K (He.codeOf K d.at_) (He.tabOf K (He.codeOf K d.at_)) = true
  nl : K.lookup (He.tabOf K (He.codeOf K d.at_)) = none
noncomputable def SaysF.fw' {fa : List Fct} {fn dn : List He.FnD} (c : SaysF fa fn K) (hm : ∀ d : He.FnD, d ∈ dn → d ∈ fn) (i : Nat) (d : He.FnD) (h : dn[i]? = some d) : FW K d := Classical.choice (by
  obtain ⟨oc, od, osl, kV, doc, pm, an, cdv, ct, lk, cc⟩ := c.ds d (hm d (List.mem_of_getElem? h))
  exact ⟨⟨oc, od, osl, kV, doc, pm, an, cdv, ct, lk, cc⟩⟩)
noncomputable def SaysF.lw' {fa : List Fct} {fn dn : List He.FnD} (c : SaysF fa fn K) (hm : ∀ d : He.FnD, d ∈ dn → d ∈ fn) (i : Nat) (d : He.FnD) (h : dn[i]? = some d) (l : cLa d.at_ K = true) : LmW K d := Classical.choice (by
  obtain ⟨oc, od, osl, kV, doc, pm, an, cdv, ct, lk, cc⟩ := c.ds d (hm d (List.mem_of_getElem? h))
  obtain ⟨e, dd, vs, sk, h1, h2, h3, h4⟩ := cLa_ok l
  have z := laCd lk cc
  subst z
  exact ⟨⟨oc, od, osl, kV, doc, pm, an, ct, e, dd, vs, sk, lk, cc, h1, h2, h3, h4⟩⟩)
end
end D0
set_option Elab.async false
set_option linter.all false
set_option maxRecDepth 100000
set_option maxHeartbeats 2000000
namespace K15
open PySem PySem.Spec PyProof.Rows L2 D0
def topF (i : Nat) : Stmt := PySem.Challenge.pw_sungbyturns_k15_inference_in_large_books.main.body.getD i (.Pass ⟨0, 0, 0, 0⟩)
abbrev q_Lbegun : Stmt := topF 29
abbrev q_Lthin : Stmt := topF 40
abbrev q_Ltake : Stmt := topF 30
abbrev q_Lbook : Stmt := topF 33
abbrev q_Lturns : Stmt := topF 34
abbrev q_Lfrom : Stmt := topF 37
abbrev q_is_word : Stmt := topF 17
abbrev q_is_valid_item : Stmt := topF 18
abbrev q_first_invalid_verse : Stmt := topF 19
abbrev q_validate_book : Stmt := topF 20
abbrev q_Candidate_init : Stmt := inClass (topF 24) 0
abbrev q_Candidate_possible_turns : Stmt := inClass (topF 24) 2
abbrev q_Candidate_opening_words : Stmt := inClass (topF 24) 4
abbrev q_Candidate_current_item : Stmt := inClass (topF 24) 3
abbrev q_Candidate_after_word : Stmt := inClass (topF 24) 7
abbrev q_Candidate_started_at : Stmt := inClass (topF 24) 1
abbrev q_Candidate_after_hearing : Stmt := inClass (topF 24) 6
abbrev q_filter_candidates : Stmt := topF 25
abbrev q_Candidate_following_words : Stmt := inClass (topF 24) 5
abbrev q_Candidate_size : Stmt := inClass (topF 24) 8
abbrev q_Candidate_known_turn : Stmt := inClass (topF 24) 9
abbrev q_certain_turns : Stmt := topF 26
abbrev q_infer_turns : Stmt := topF 27
abbrev q_Lalike : Stmt := topF 31
abbrev q_Lstart : Stmt := topF 36
abbrev q_Lsing : Stmt := topF 35
abbrev q_law : Stmt := topF 41
abbrev q_Lresult : Stmt := topF 32
def hf0 : List Fct := cFr "ValueError" ::
  cFr "all" ::
  cFr "bool" ::
  cFr "enumerate" ::
  cFr "int" ::
  cFr "isinstance" ::
  cFr "len" ::
  cFr "list" ::
  cFr "max" ::
  cFr "range" ::
  cFr "set" ::
  cFr "sorted" ::
  cFr "str" ::
  cFr "sum" ::
  cFr "tuple" ::
  cFr "zip" ::
  cSt "LETTERS" "abcdefghijklmnopqrstuvwxyz" ::
  cIn "MAX_CANDIDATES" 500 ::
  cIn "MAX_HEARD" 60 ::
  cIn "MAX_ITEMS" 6 ::
  cIn "MAX_LETTERS" 8 ::
  cIn "MAX_REFRAINS" 60 ::
  cIn "MAX_VERSES" 4 ::
  cGl "Candidate" ::
  cPg "Candidate" ::
  cHd "Candidate" ::
  cPo "Candidate" ::
  cSa "Candidate" ::
  cGl "BadBook" ::
  cGl "BadCertificate" ::
  cGl "BadCount" ::
  cGl "BadRefrain" ::
  cGl "BadState" ::
  cGl "BadTurns" ::
  cGl "RefrainBusy" ::
  cGl "SongError" ::
  cGl "TooManyCandidates" ::
  cGl "TooManyWords" ::
  cXq "TooManyCandidates" ::
  cKc "TooManyCandidates" :: []
def hf1 : List Fct := cXb "TooManyCandidates" ::
  cXt "TooManyCandidates" ::
  cXq "TooManyWords" ::
  cKc "TooManyWords" ::
  cXb "TooManyWords" ::
  cXt "TooManyWords" ::
  cRe "SongError" ["BadBook", "BadCertificate", "BadCount", "BadRefrain", "BadState", "BadTurns", "RefrainBusy", "TooManyCandidates", "TooManyWords"] ::
  cGl "_law_begun" ::
  cKp ("_law_begun", none) ::
  cGl "_law_thin" ::
  cKp ("_law_thin", none) ::
  cGl "_law_take" ::
  cKp ("_law_take", none) ::
  cGl "_law_book" ::
  cKp ("_law_book", none) ::
  cGl "_law_turns" ::
  cKp ("_law_turns", none) ::
  cGl "_law_from" ::
  cKp ("_law_from", none) ::
  cGl "is_word" ::
  cKp ("is_word", none) ::
  cGl "is_valid_item" ::
  cKp ("is_valid_item", none) ::
  cGl "first_invalid_verse" ::
  cKp ("first_invalid_verse", none) ::
  cGl "validate_book" ::
  cKp ("validate_book", none) ::
  cMe "Candidate" "__init__" ::
  cFn ("Candidate", some "__init__") ::
  cKp ("Candidate", some "__init__") ::
  cMe "Candidate" "possible_turns" ::
  cFn ("Candidate", some "possible_turns") ::
  cKp ("Candidate", some "possible_turns") ::
  cMe "Candidate" "opening_words" ::
  cFn ("Candidate", some "opening_words") ::
  cKp ("Candidate", some "opening_words") ::
  cMe "Candidate" "current_item" ::
  cFn ("Candidate", some "current_item") ::
  cKp ("Candidate", some "current_item") ::
  cMe "Candidate" "after_word" :: []
def hf2 : List Fct := cFn ("Candidate", some "after_word") ::
  cKp ("Candidate", some "after_word") ::
  cMe "Candidate" "started_at" ::
  cFn ("Candidate", some "started_at") ::
  cKp ("Candidate", some "started_at") ::
  cMe "Candidate" "after_hearing" ::
  cFn ("Candidate", some "after_hearing") ::
  cKp ("Candidate", some "after_hearing") ::
  cGl "filter_candidates" ::
  cKp ("filter_candidates", none) ::
  cMe "Candidate" "following_words" ::
  cFn ("Candidate", some "following_words") ::
  cKp ("Candidate", some "following_words") ::
  cMe "Candidate" "size" ::
  cFn ("Candidate", some "size") ::
  cKp ("Candidate", some "size") ::
  cMe "Candidate" "known_turn" ::
  cFn ("Candidate", some "known_turn") ::
  cKp ("Candidate", some "known_turn") ::
  cGl "certain_turns" ::
  cKp ("certain_turns", none) ::
  cGl "infer_turns" ::
  cKp ("infer_turns", none) ::
  cGl "_law_alike" ::
  cKp ("_law_alike", none) ::
  cGl "_law_start" ::
  cKp ("_law_start", none) ::
  cGl "_law_sing" ::
  cKp ("_law_sing", none) ::
  cGl "law" ::
  cLa ("law", none) ::
  cKp ("law", none) ::
  cGl "_law_result" ::
  cKp ("_law_result", none) ::
  cMk "Candidate" ::
  cKc "Candidate" ::
  cNf "Candidate" "book" ::
  cNf "Candidate" "current_turns" ::
  cNf "Candidate" "entries" ::
  cNf "Candidate" "first_turns" :: []
def hfs : List Fct := hf0 ++ hf1 ++ hf2
def hn0 : List He.FnD := ⟨("_law_begun", none), "_law_begun", "_law_begun", defArgs q_Lbegun, defBody q_Lbegun, defScope q_Lbegun⟩ ::
  ⟨("_law_thin", none), "_law_thin", "_law_thin", defArgs q_Lthin, defBody q_Lthin, defScope q_Lthin⟩ ::
  ⟨("_law_take", none), "_law_take", "_law_take", defArgs q_Ltake, defBody q_Ltake, defScope q_Ltake⟩ ::
  ⟨("_law_book", none), "_law_book", "_law_book", defArgs q_Lbook, defBody q_Lbook, defScope q_Lbook⟩ ::
  ⟨("_law_turns", none), "_law_turns", "_law_turns", defArgs q_Lturns, defBody q_Lturns, defScope q_Lturns⟩ ::
  ⟨("_law_from", none), "_law_from", "_law_from", defArgs q_Lfrom, defBody q_Lfrom, defScope q_Lfrom⟩ ::
  ⟨("is_word", none), "is_word", "is_word", defArgs q_is_word, defBody q_is_word, defScope q_is_word⟩ ::
  ⟨("is_valid_item", none), "is_valid_item", "is_valid_item", defArgs q_is_valid_item, defBody q_is_valid_item, defScope q_is_valid_item⟩ ::
  ⟨("first_invalid_verse", none), "first_invalid_verse", "first_invalid_verse", defArgs q_first_invalid_verse, defBody q_first_invalid_verse, defScope q_first_invalid_verse⟩ ::
  ⟨("validate_book", none), "validate_book", "validate_book", defArgs q_validate_book, defBody q_validate_book, defScope q_validate_book⟩ ::
  ⟨("Candidate", some "__init__"), "__init__", "Candidate.__init__", defArgs q_Candidate_init, defBody q_Candidate_init, defScope q_Candidate_init⟩ ::
  ⟨("Candidate", some "possible_turns"), "possible_turns", "Candidate.possible_turns", defArgs q_Candidate_possible_turns, defBody q_Candidate_possible_turns, defScope q_Candidate_possible_turns⟩ ::
  ⟨("Candidate", some "opening_words"), "opening_words", "Candidate.opening_words", defArgs q_Candidate_opening_words, defBody q_Candidate_opening_words, defScope q_Candidate_opening_words⟩ ::
  ⟨("Candidate", some "current_item"), "current_item", "Candidate.current_item", defArgs q_Candidate_current_item, defBody q_Candidate_current_item, defScope q_Candidate_current_item⟩ ::
  ⟨("Candidate", some "after_word"), "after_word", "Candidate.after_word", defArgs q_Candidate_after_word, defBody q_Candidate_after_word, defScope q_Candidate_after_word⟩ ::
  ⟨("Candidate", some "started_at"), "started_at", "Candidate.started_at", defArgs q_Candidate_started_at, defBody q_Candidate_started_at, defScope q_Candidate_started_at⟩ ::
  ⟨("Candidate", some "after_hearing"), "after_hearing", "Candidate.after_hearing", defArgs q_Candidate_after_hearing, defBody q_Candidate_after_hearing, defScope q_Candidate_after_hearing⟩ ::
  ⟨("filter_candidates", none), "filter_candidates", "filter_candidates", defArgs q_filter_candidates, defBody q_filter_candidates, defScope q_filter_candidates⟩ ::
  ⟨("Candidate", some "following_words"), "following_words", "Candidate.following_words", defArgs q_Candidate_following_words, defBody q_Candidate_following_words, defScope q_Candidate_following_words⟩ ::
  ⟨("Candidate", some "size"), "size", "Candidate.size", defArgs q_Candidate_size, defBody q_Candidate_size, defScope q_Candidate_size⟩ :: []
def hn1 : List He.FnD := ⟨("Candidate", some "known_turn"), "known_turn", "Candidate.known_turn", defArgs q_Candidate_known_turn, defBody q_Candidate_known_turn, defScope q_Candidate_known_turn⟩ ::
  ⟨("certain_turns", none), "certain_turns", "certain_turns", defArgs q_certain_turns, defBody q_certain_turns, defScope q_certain_turns⟩ ::
  ⟨("infer_turns", none), "infer_turns", "infer_turns", defArgs q_infer_turns, defBody q_infer_turns, defScope q_infer_turns⟩ ::
  ⟨("_law_alike", none), "_law_alike", "_law_alike", defArgs q_Lalike, defBody q_Lalike, defScope q_Lalike⟩ ::
  ⟨("_law_start", none), "_law_start", "_law_start", defArgs q_Lstart, defBody q_Lstart, defScope q_Lstart⟩ ::
  ⟨("_law_sing", none), "_law_sing", "_law_sing", defArgs q_Lsing, defBody q_Lsing, defScope q_Lsing⟩ ::
  ⟨("law", none), "law", "law", defArgs q_law, defBody q_law, defScope q_law⟩ ::
  ⟨("_law_result", none), "_law_result", "_law_result", defArgs q_Lresult, defBody q_Lresult, defScope q_Lresult⟩ :: []
def hns : List He.FnD := hn0 ++ hn1
theorem hfact0 {K : PySem.W.Frag} (c : SaysF hfs hns K) (i : Nat) {f : Fct} (h : hf0[i]? = some f) : f K = true := c.fs f (by have z := List.mem_of_getElem? h; unfold hfs; simp only [List.mem_append, z, true_or, or_true])
theorem hfact1 {K : PySem.W.Frag} (c : SaysF hfs hns K) (i : Nat) {f : Fct} (h : hf1[i]? = some f) : f K = true := c.fs f (by have z := List.mem_of_getElem? h; unfold hfs; simp only [List.mem_append, z, true_or, or_true])
theorem hfact2 {K : PySem.W.Frag} (c : SaysF hfs hns K) (i : Nat) {f : Fct} (h : hf2[i]? = some f) : f K = true := c.fs f (by have z := List.mem_of_getElem? h; unfold hfs; simp only [List.mem_append, z, true_or, or_true])
theorem hdef0 {d : He.FnD} (h : d ∈ hn0) : d ∈ hns := by unfold hns; simp only [List.mem_append, h, true_or, or_true]
theorem hdef1 {d : He.FnD} (h : d ∈ hn1) : d ∈ hns := by unfold hns; simp only [List.mem_append, h, true_or, or_true]
abbrev hR : PySem.W.OpenRow := PySem.W.OpenLaw.row PySem.Challenge.rw_sungbyturns_k15_inference_in_large_books
abbrev hq : Program := PySem.W.view hR.prog [41]
def ho0 : List Str := "__name__" :: "SongError" :: "BadBook" :: "BadTurns" :: "BadState" :: "BadCount" :: "BadRefrain" :: "BadCertificate" :: "TooManyWords" :: "TooManyCandidates" :: "RefrainBusy" :: "LETTERS" :: "MAX_LETTERS" :: "MAX_REFRAINS" :: "MAX_VERSES" :: "MAX_ITEMS" :: "is_word" :: "is_valid_item" :: "first_invalid_verse" :: "validate_book" :: "MAX_HEARD" :: "MAX_CANDIDATES" :: "Candidate" :: "filter_candidates" :: "certain_turns" :: "infer_turns" :: "_law_begun" :: "_law_take" :: "_law_alike" :: "_law_result" :: []
def ho1 : List Str := "_law_book" :: "_law_turns" :: "_law_sing" :: "_law_start" :: "_law_from" :: "_law_state_of" :: "_law_state" :: "_law_thin" :: []
def hos : List Str := ho0 ++ ho1
abbrev hk : PySem.W.Hook := hookF 4 hfs hns
def hob (s : PySem.W.SharedT) : AlF := obsF 4 hfs hns (HandSHeadRun.getT s)
theorem hob_eq (s : PySem.W.SharedT) : hob s = hk.obs s.abs := obsF_eq (HandSHeadRun.getT_eq s)
theorem hrun (w : World) : HandSHeadRun.RunEq hR hq hk hob 12000 hos w := by
  intro os
  kernel_rfl
end K15
set_option Elab.async false
set_option linter.all false
set_option maxRecDepth 100000
set_option maxHeartbeats 2000000
namespace D3
open PySem PySem.Spec PyProof.Rows L2
/-- a value: tuples and read-only lists as they are, mutable objects by their index in the store, the module's own things by address -/
inductive Dv where
  | non | bl (b : Bool) | int (i : Int) | str (x : Str) | byt (b : Array UInt8) | ty (n : String) | adr (a : Addr) | obj (i : Nat) | tup (ds : List Dv) | fls (ds : List Dv)
inductive Mo where
  | lst (xs : List Dv) | dk (kvs : List (Key × Dv)) | ldk (kvs : List (Key × Dv)) | ins (C : Addr) (fs : List (Str × Dv))
abbrev Store := List Mo
abbrev Sl := List (Option Dv)
structure Cf where
  K : PySem.W.Frag
  T : List (Addr × Str)
/-- a list that nothing writes -/
def FzL (K : PySem.W.Frag) (H : Hp) (a : Addr) (xs : List V) : Prop :=
  (∃ o, H a = some (.frz o (.lst xs))) ∨
    ∃ (o : Obj) (its : Array Value) (n : Nat), K.lookup a = some o ∧ o.cls = .type "list" ∧ o.dict = none ∧ o.data = .seq its n ∧ its.size ≤ sizeLine ∧ Vals xs its.toList
theorem FzL.sq {K : PySem.W.Frag} {H : Hp} {a : Addr} {xs : List V} (h : FzL K H a xs) : SqL K H a xs := by
  rcases h with ⟨o, h⟩ | h
  · exact .inl (.inr ⟨o, h⟩)
  · exact .inr h
/-- a tuple -/
def TpL (K : PySem.W.Frag) (H : Hp) (a : Addr) (xs : List V) : Prop :=
  H a = some (.tup xs) ∨
    ∃ (o : Obj) (its : Array Value) (n : Nat), K.lookup a = some o ∧ o.cls = .type "tuple" ∧ o.data = .seq its n ∧ its.size ≤ sizeLine ∧ Vals xs its.toList
theorem TpL.sq {K : PySem.W.Frag} {H : Hp} {a : Addr} {xs : List V} (h : TpL K H a xs) : SqT K H a xs := by
  rcases h with h | h
  · exact .inl (.inl h)
  · exact .inr h
mutual
inductive Rep (G : Cf) (π : List Addr) (H : Hp) : Dv → V → Prop
  | non : Rep G π H .non .non
  | bl (b : Bool) : Rep G π H (.bl b) (.bl b)
  | int (i : Int) : Rep G π H (.int i) (.int i)
  | str (x : Str) : Rep G π H (.str x) (.str x)
  | byt (x : Array UInt8) : Rep G π H (.byt x) (.byt x)
  | ty (n : String) : Rep G π H (.ty n) (.ty n)
  | adr (a : Addr) : Rep G π H (.adr a) (.ref a)
  | obj {i : Nat} {a : Addr} (h : π[i]? = some a) : Rep G π H (.obj i) (.ref a)
  | tup {a : Addr} {xs : List V} {ds : List Dv} (h : TpL G.K H a xs) (r : RepL G π H ds xs) : Rep G π H (.tup ds) (.ref a)
  | fls {a : Addr} {xs : List V} {ds : List Dv} (h : FzL G.K H a xs) (r : RepL G π H ds xs) : Rep G π H (.fls ds) (.ref a)
inductive RepL (G : Cf) (π : List Addr) (H : Hp) : List Dv → List V → Prop
  | nil : RepL G π H [] []
  | cons {d : Dv} {v : V} {ds : List Dv} {vs : List V} (h : Rep G π H d v) (t : RepL G π H ds vs) : RepL G π H (d :: ds) (v :: vs)
end
/-- what data lean on stays -/
structure Mon (G : Cf) (π : List Addr) (H : Hp) (π' : List Addr) (H' : Hp) : Prop where
  get : ∀ (i : Nat) (a : Addr), π[i]? = some a → π'[i]? = some a
  tup : ∀ a xs, TpL G.K H a xs → TpL G.K H' a xs
  fzl : ∀ a xs, FzL G.K H a xs → FzL G.K H' a xs
/-- nothing stands there but, may be, a table of code objects -/
def Nn (H : Hp) (b : Addr) : Prop := ∀ o, H b = some o → ∃ ps, o = .tbl ps
theorem Nn.of {H : Hp} {b : Addr} (h : H b = none) : Nn H b := fun o e => by rw [h] at e; cases e
/-- what a later state keeps of an earlier one -/
structure Ext (G : Cf) (π : List Addr) (H : Hp) (π' : List Addr) (H' : Hp) : Prop where
  pre : ∃ t, π' = π ++ t ∧ ∀ a ∈ t, Nn H a
  tup : ∀ a xs, TpL G.K H a xs → TpL G.K H' a xs
  fzl : ∀ a xs, FzL G.K H a xs → FzL G.K H' a xs
  frm : ∀ b o, H b = some o → b ∉ π → (∀ ps, o ≠ .tbl ps) → H' b = some o
  there : ∀ b, Nn H' b → Nn H b
  lck : ∀ b od u, H b = some (.frz od u) → H' b = some (.frz od u)
theorem Ext.refl (G : Cf) (π : List Addr) (H : Hp) : Ext G π H π H :=
  ⟨⟨[], by simp, fun _ h => by cases h⟩, fun _ _ h => h, fun _ _ h => h, fun _ _ h _ _ => h, fun _ h => h, fun _ _ _ h => h⟩
theorem Ext.trans {G : Cf} {π π1 π2 : List Addr} {H H1 H2 : Hp} (x : Ext G π H π1 H1) (y : Ext G π1 H1 π2 H2) : Ext G π H π2 H2 := by
  obtain ⟨t, e, n⟩ := x.pre
  obtain ⟨t2, e2, n2⟩ := y.pre
  refine ⟨⟨t ++ t2, by rw [e2, e, List.append_assoc], fun a ha => ?_⟩, fun a xs h => y.tup a xs (x.tup a xs h), fun a xs h => y.fzl a xs (x.fzl a xs h), fun b o h hb hn => ?_, fun b h => x.there b (y.there b h), fun b od u h => y.lck b od u (x.lck b od u h)⟩
  · rcases List.mem_append.mp ha with h | h
    · exact n a h
    · exact x.there a (n2 a h)
  · refine y.frm b o (x.frm b o h hb hn) (fun z => ?_) hn
    rw [e] at z
    rcases List.mem_append.mp z with z | z
    · exact hb z
    · obtain ⟨ps, w⟩ := n b z _ h
      exact hn ps w
theorem Ext.get {G : Cf} {π π' : List Addr} {H H' : Hp} (x : Ext G π H π' H') {i : Nat} {a : Addr} (h : π[i]? = some a) : π'[i]? = some a := by
  obtain ⟨t, e, _⟩ := x.pre
  rw [e, List.getElem?_append_left (List.getElem?_eq_some_iff.mp h).1]
  exact h
theorem Ext.mon {G : Cf} {π π' : List Addr} {H H' : Hp} (x : Ext G π H π' H') : Mon G π H π' H' := ⟨fun _ _ h => x.get h, x.tup, x.fzl⟩
section
variable {G : Cf} {π π' : List Addr} {H H' : Hp}
mutual
theorem Rep.mon (x : Mon G π H π' H') : ∀ {d : Dv} {v : V}, Rep G π H d v → Rep G π' H' d v
  | _, _, .non => .non
  | _, _, .bl b => .bl b
  | _, _, .int i => .int i
  | _, _, .str s => .str s
  | _, _, .byt b => .byt b
  | _, _, .ty n => .ty n
  | _, _, .adr a => .adr a
  | _, _, .obj h => .obj (x.get _ _ h)
  | _, _, .tup h r => .tup (x.tup _ _ h) (RepL.mon x r)
  | _, _, .fls h r => .fls (x.fzl _ _ h) (RepL.mon x r)
theorem RepL.mon (x : Mon G π H π' H') : ∀ {ds : List Dv} {vs : List V}, RepL G π H ds vs → RepL G π' H' ds vs
  | _, _, .nil => .nil
  | _, _, .cons h t => .cons (Rep.mon x h) (RepL.mon x t)
end
theorem Rep.mono (x : Ext G π H π' H') {d : Dv} {v : V} (h : Rep G π H d v) : Rep G π' H' d v := h.mon x.mon
theorem RepL.mono (x : Ext G π H π' H') {d : List Dv} {v : List V} (h : RepL G π H d v) : RepL G π' H' d v := h.mon x.mon
theorem RepL.length : ∀ {ds : List Dv} {vs : List V}, RepL G π H ds vs → ds.length = vs.length
  | _, _, .nil => rfl
  | _, _, .cons _ t => by rw [List.length_cons, List.length_cons, RepL.length t]
theorem RepL.get : ∀ {ds : List Dv} {vs : List V} {i : Nat} {d : Dv}, RepL G π H ds vs → ds[i]? = some d → ∃ v, vs[i]? = some v ∧ Rep G π H d v
  | _, _, _, _, .nil, e => by simp at e
  | _, _, 0, _, .cons h _, e => by simp at e; subst e; exact ⟨_, rfl, h⟩
  | _, _, i + 1, _, .cons _ t, e => by
    obtain ⟨v, h1, h2⟩ := RepL.get (i := i) t (by simpa using e)
    exact ⟨v, by simpa using h1, h2⟩
theorem RepL.getV : ∀ {ds : List Dv} {vs : List V} {i : Nat} {v : V}, RepL G π H ds vs → vs[i]? = some v → ∃ d, ds[i]? = some d ∧ Rep G π H d v
  | _, _, _, _, .nil, e => by simp at e
  | _, _, 0, _, .cons h _, e => by simp at e; subst e; exact ⟨_, rfl, h⟩
  | _, _, i + 1, _, .cons _ t, e => by
    obtain ⟨d, h1, h2⟩ := RepL.getV (i := i) t (by simpa using e)
    exact ⟨d, by simpa using h1, h2⟩
theorem RepL.append : ∀ {ds es : List Dv} {vs ws : List V}, RepL G π H ds vs → RepL G π H es ws → RepL G π H (ds ++ es) (vs ++ ws)
  | _, _, _, _, .nil, s => s
  | _, _, _, _, .cons h t, s => .cons h (RepL.append t s)
theorem RepL.take : ∀ {ds : List Dv} {vs : List V} (n : Nat), RepL G π H ds vs → RepL G π H (ds.take n) (vs.take n)
  | _, _, 0, _ => .nil
  | _, _, _ + 1, .nil => .nil
  | _, _, n + 1, .cons h t => .cons h (RepL.take n t)
theorem RepL.drop : ∀ {ds : List Dv} {vs : List V} (n : Nat), RepL G π H ds vs → RepL G π H (ds.drop n) (vs.drop n)
  | _, _, 0, r => r
  | _, _, _ + 1, .nil => .nil
  | _, _, n + 1, .cons _ t => RepL.drop n t
theorem RepL.set {d : Dv} {v : V} (r : Rep G π H d v) : ∀ {ds : List Dv} {vs : List V} (i : Nat), RepL G π H ds vs → RepL G π H (ds.set i d) (vs.set i v)
  | _, _, _, .nil => .nil
  | _, _, 0, .cons _ t => .cons r t
  | _, _, i + 1, .cons h t => .cons h (RepL.set r i t)
theorem RepL.erase : ∀ {ds : List Dv} {vs : List V} (i : Nat), RepL G π H ds vs → RepL G π H (ds.eraseIdx i) (vs.eraseIdx i)
  | _, _, _, .nil => by simpa using .nil
  | _, _, 0, .cons _ t => by simpa using t
  | _, _, i + 1, .cons h t => by simpa using .cons h (RepL.erase i t)
theorem RepL.dropLast {ds : List Dv} {vs : List V} (r : RepL G π H ds vs) : RepL G π H ds.dropLast vs.dropLast := by
  rw [List.dropLast_eq_take, List.dropLast_eq_take, r.length]
  exact r.take _
theorem RepL.one {d : Dv} {v : V} (h : Rep G π H d v) : RepL G π H [d] [v] := .cons h .nil
theorem RepL.one_inv {d : Dv} {vs : List V} (h : RepL G π H [d] vs) : ∃ v, vs = [v] ∧ Rep G π H d v := by
  cases h with
  | cons h t => cases t; exact ⟨_, rfl, h⟩
theorem RepL.two_inv {d e : Dv} {vs : List V} (h : RepL G π H [d, e] vs) : ∃ v u, vs = [v, u] ∧ Rep G π H d v ∧ Rep G π H e u := by
  cases h with
  | cons h t =>
    obtain ⟨u, rfl, hu⟩ := RepL.one_inv t
    exact ⟨_, _, rfl, h, hu⟩
theorem RepL.nil_inv {vs : List V} (h : RepL G π H [] vs) : vs = [] := by cases h; rfl
theorem RepL.flat {ds : List Dv} {vs : List V} (h : RepL G π H ds vs) : ∀ n : Nat, RepL G π H (List.replicate n ds).flatten (List.replicate n vs).flatten
  | 0 => .nil
  | n + 1 => by
    rw [List.replicate_succ, List.replicate_succ, List.flatten_cons, List.flatten_cons]
    exact RepL.append h (RepL.flat h n)
theorem Rep.int_inv {i : Int} {v : V} (h : Rep G π H (.int i) v) : v = .int i := by cases h; rfl
theorem Rep.bl_inv {i : Bool} {v : V} (h : Rep G π H (.bl i) v) : v = .bl i := by cases h; rfl
theorem Rep.str_inv {i : Str} {v : V} (h : Rep G π H (.str i) v) : v = .str i := by cases h; rfl
theorem Rep.byt_inv {i : Array UInt8} {v : V} (h : Rep G π H (.byt i) v) : v = .byt i := by cases h; rfl
theorem Rep.non_inv {v : V} (h : Rep G π H .non v) : v = .non := by cases h; rfl
theorem Rep.ty_inv {i : String} {v : V} (h : Rep G π H (.ty i) v) : v = .ty i := by cases h; rfl
theorem Rep.obj_inv {i : Nat} {v : V} (h : Rep G π H (.obj i) v) : ∃ a, v = .ref a ∧ π[i]? = some a := by cases h with | obj h => exact ⟨_, rfl, h⟩
theorem Rep.tup_inv {ds : List Dv} {v : V} (h : Rep G π H (.tup ds) v) : ∃ a xs, v = .ref a ∧ TpL G.K H a xs ∧ RepL G π H ds xs := by cases h with | tup h r => exact ⟨_, _, rfl, h, r⟩
theorem Rep.fls_inv {ds : List Dv} {v : V} (h : Rep G π H (.fls ds) v) : ∃ a xs, v = .ref a ∧ FzL G.K H a xs ∧ RepL G π H ds xs := by cases h with | fls h r => exact ⟨_, _, rfl, h, r⟩
end
/-- fields, entries -/
def RepF (G : Cf) (π : List Addr) (H : Hp) : List (Str × Dv) → List (Str × V) → Prop := Paired fun p q => p.1 = q.1 ∧ Rep G π H p.2 q.2
def RepK (G : Cf) (π : List Addr) (H : Hp) : List (Key × Dv) → List (Key × V) → Prop := Paired fun p q => p.1 = q.1 ∧ Rep G π H p.2 q.2
theorem paired_imp {α β : Type} {F F' : α → β → Prop} (h : ∀ a b, F a b → F' a b) : ∀ {l : List α} {m : List β}, Paired F l m → Paired F' l m
  | _, _, .nil => .nil
  | _, _, .cons r t => .cons (h _ _ r) (paired_imp h t)
def MRep (G : Cf) (π : List Addr) (H : Hp) : Mo → Addr → Prop
  | .lst ds, a => ∃ xs, H a = some (.lst xs) ∧ RepL G π H ds xs
  | .dk kvs, a => ∃ ws, H a = some (.dK ws) ∧ RepK G π H kvs ws
  | .ldk kvs, a => ∃ ws, (∃ od, H a = some (.frz od (.dK ws))) ∧ RepK G π H kvs ws
  | .ins C fs, a => ∃ dx vs, H a = some (.ins C dx vs) ∧ RepF G π H fs vs
theorem MRep.mon {G : Cf} {π π' : List Addr} {H H' : Hp} (x : Mon G π H π' H') {m : Mo} {a : Addr} (e : H' a = H a) (h : MRep G π H m a) : MRep G π' H' m a := by
  cases m with
  | lst ds => obtain ⟨xs, h1, h2⟩ := h; exact ⟨xs, e.trans h1, h2.mon x⟩
  | dk kvs => obtain ⟨xs, h1, h2⟩ := h; exact ⟨xs, e.trans h1, paired_imp (fun _ _ q => ⟨q.1, q.2.mon x⟩) h2⟩
  | ldk kvs => obtain ⟨xs, ⟨od, h1⟩, h2⟩ := h; exact ⟨xs, ⟨od, e.trans h1⟩, paired_imp (fun _ _ q => ⟨q.1, q.2.mon x⟩) h2⟩
  | ins C fs => obtain ⟨dx, vs, h1, h2⟩ := h; exact ⟨dx, vs, e.trans h1, paired_imp (fun _ _ q => ⟨q.1, q.2.mon x⟩) h2⟩
/-- what a store's object is in the abstract heap -/
def isMo : HO → Bool
  | .lst _ => true
  | .dK _ => true
  | .frz _ (.dK _) => true
  | .ins _ _ _ => true
  | _ => false
theorem MRep.mo {G : Cf} {π : List Addr} {H : Hp} {m : Mo} {a : Addr} (h : MRep G π H m a) : ∃ o, H a = some o ∧ isMo o = true := by
  cases m with
  | lst ds => obtain ⟨xs, h1, h2⟩ := h; exact ⟨_, h1, rfl⟩
  | dk kvs => obtain ⟨xs, h1, h2⟩ := h; exact ⟨_, h1, rfl⟩
  | ldk kvs => obtain ⟨xs, ⟨_, h1⟩, h2⟩ := h; exact ⟨_, h1, rfl⟩
  | ins C fs => obtain ⟨dx, vs, h1, h2⟩ := h; exact ⟨_, h1, rfl⟩
structure RepS (G : Cf) (π : List Addr) (H : Hp) (S : Store) : Prop where
  len : π.length = S.length
  nd : π.Nodup
  at_ : ∀ (i : Nat) (m : Mo) (a : Addr), S[i]? = some m → π[i]? = some a → MRep G π H m a
  tab : LamX.Tabs G.T H
theorem RepS.addr {G : Cf} {π : List Addr} {H : Hp} {S : Store} (R : RepS G π H S) {i : Nat} {m : Mo} (h : S[i]? = some m) : ∃ a, π[i]? = some a ∧ MRep G π H m a := by
  have hi : i < π.length := by rw [R.len]; exact (List.getElem?_eq_some_iff.mp h).1
  exact ⟨π[i], List.getElem?_eq_getElem hi, R.at_ i m _ h (List.getElem?_eq_getElem hi)⟩
theorem RepS.here {G : Cf} {π : List Addr} {H : Hp} {S : Store} (R : RepS G π H S) {i : Nat} {m : Mo} {v : V} (h : S[i]? = some m) (r : Rep G π H (.obj i) v) : ∃ a, v = .ref a ∧ π[i]? = some a ∧ MRep G π H m a := by
  obtain ⟨a, rfl, e⟩ := r.obj_inv
  exact ⟨a, rfl, e, R.at_ i m a h e⟩
/-- what stands at a store's address -/
theorem RepS.kind {G : Cf} {π : List Addr} {H : Hp} {S : Store} (R : RepS G π H S) {a : Addr} (h : a ∈ π) : ∃ o, H a = some o ∧ isMo o = true := by
  obtain ⟨i, hi, e⟩ := List.getElem_of_mem h
  have hs : i < S.length := by rw [← R.len]; exact hi
  exact (R.at_ i S[i] a (List.getElem?_eq_getElem hs) (by rw [List.getElem?_eq_getElem hi, e])).mo
theorem RepS.out {G : Cf} {π : List Addr} {H : Hp} {S : Store} (R : RepS G π H S) {a : Addr} {o : HO} (h : H a = some o) (n : isMo o = false) : a ∉ π := fun z => by
  obtain ⟨u, e, t⟩ := R.kind z
  rw [h] at e
  cases e
  rw [n] at t
  cases t
theorem RepS.new {G : Cf} {π : List Addr} {H : Hp} {S : Store} (R : RepS G π H S) {a : Addr} (h : H a = none) : a ∉ π := fun z => by
  obtain ⟨u, e, t⟩ := R.kind z
  rw [h] at e
  cases e
/-- the tables stand where neither they nor the code objects that they tell are written -/
theorem tabs_keep {T : List (Addr × Str)} {H H' : Hp} (t : LamX.Tabs T H) (k : ∀ b o, H b = some o → isMo o = false → H' b = some o) : LamX.Tabs T H' := fun p hp => by
  obtain ⟨ps, h1, h2, h3⟩ := t p hp
  refine ⟨ps, k _ _ h1 rfl, h2, fun pos cv hc => ?_⟩
  obtain ⟨c, e1, e2⟩ := h3 pos cv hc
  exact ⟨c, e1, k _ _ e2 rfl⟩
theorem nodup_at {α : Type} {l : List α} (nd : l.Nodup) {i j : Nat} {a : α} (h : l[i]? = some a) (h' : l[j]? = some a) : i = j := by
  obtain ⟨hi, e⟩ := List.getElem?_eq_some_iff.mp h
  obtain ⟨hj, e'⟩ := List.getElem?_eq_some_iff.mp h'
  rcases Nat.lt_trichotomy i j with q | q | q
  · exact absurd (e.trans e'.symm) (List.pairwise_iff_getElem.mp nd i j hi hj q)
  · exact q
  · exact absurd (e'.trans e.symm) (List.pairwise_iff_getElem.mp nd j i hj hi q)
section
variable {G : Cf} {π : List Addr} {H H' : Hp} {S : Store}
/-- all that was tracked stands -/
theorem ext_same (k : ∀ b o, H b = some o → H' b = some o) : Ext G π H π H' := by
  refine ⟨⟨[], by simp, fun _ h => by cases h⟩, fun a xs h => ?_, fun a xs h => ?_, fun b u e _ _ => k b u e, fun b e => ?_, fun b od u e => k b _ e⟩
  · rcases h with h | h
    · exact .inl (k _ _ h)
    · exact .inr h
  · rcases h with ⟨_, h⟩ | h
    · exact .inl ⟨_, k _ _ h⟩
    · exact .inr h
  · exact fun o q => e o (k b o q)
theorem step_same (R : RepS G π H S) (k : ∀ b o, H b = some o → H' b = some o) : RepS G π H' S ∧ Ext G π H π H' := by
  have x : Ext G π H π H' := ext_same k
  refine ⟨⟨R.len, R.nd, fun i m a h1 h2 => ?_, tabs_keep R.tab fun b o e _ => k b o e⟩, x⟩
  have q := R.at_ i m a h1 h2
  obtain ⟨o, e, _⟩ := q.mo
  exact q.mon x.mon ((k _ _ e).trans e.symm)
theorem same_upd {p : Addr} {o : HO} (hp : H p = none) : ∀ b u, H b = some u → upd H p o b = some u := fun b u e => by rw [upd_ne (ne_of_none e hp)]; exact e
/-- a new object that is no part of the store (a tuple, an instance's dict) -/
theorem step_aside (R : RepS G π H S) {p : Addr} {o : HO} (hp : H p = none) : RepS G π (upd H p o) S ∧ Ext G π H π (upd H p o) := step_same R (same_upd hp)
/-- what stands at D becomes the store's last -/
theorem step_adopt (R : RepS G π H S) {D : Addr} {m : Mo} (hn : D ∉ π) (h : MRep G (π ++ [D]) H m D) : RepS G (π ++ [D]) H (S ++ [m]) := by
  have mo : Mon G π H (π ++ [D]) H := ⟨fun i a e => by rw [List.getElem?_append_left (List.getElem?_eq_some_iff.mp e).1]; exact e, fun _ _ h => h, fun _ _ h => h⟩
  refine ⟨by rw [List.length_append, List.length_append, R.len]; rfl, ?_, fun i m' a h1 h2 => ?_, R.tab⟩
  · rw [List.nodup_append]
    refine ⟨R.nd, by simp, fun a ha b hb e => ?_⟩
    rw [List.mem_singleton] at hb
    rw [e, hb] at ha
    exact hn ha
  · by_cases hi : i < S.length
    · rw [List.getElem?_append_left hi] at h1
      rw [List.getElem?_append_left (by rw [R.len]; exact hi)] at h2
      exact (R.at_ i m' a h1 h2).mon mo rfl
    · have ei : i = S.length := by
        have := (List.getElem?_eq_some_iff.mp h1).1
        rw [List.length_append, List.length_singleton] at this
        omega
      subst ei
      rw [List.getElem?_append_right (Nat.le_refl _), Nat.sub_self] at h1
      rw [← R.len, List.getElem?_append_right (Nat.le_refl _), Nat.sub_self] at h2
      simp at h1 h2
      subst h1
      subst h2
      exact h
theorem ext_adopt {H1 : Hp} {π' : List Addr} {D : Addr} {o : HO} (x : Ext G π (upd H1 D o) π' H') (h : H1 D = none) : Ext G π H1 (π' ++ [D]) H' := by
  have y : Ext G π H1 π (upd H1 D o) := ext_same (same_upd h)
  have z := y.trans x
  obtain ⟨t, e, n⟩ := z.pre
  refine ⟨⟨t ++ [D], by rw [e, List.append_assoc], fun a ha => ?_⟩, z.tup, z.fzl, z.frm, z.there, z.lck⟩
  rcases List.mem_append.mp ha with q | q
  · exact n a q
  · rw [List.mem_singleton.mp q]; exact .of h
/-- a new object of the store's -/
theorem step_new (R : RepS G π H S) {p : Addr} {o : HO} {m : Mo} (hp : H p = none) (h : MRep G (π ++ [p]) (upd H p o) m p) :
    RepS G (π ++ [p]) (upd H p o) (S ++ [m]) ∧ Ext G π H (π ++ [p]) (upd H p o) :=
  ⟨step_adopt (step_aside R hp).1 (R.new hp) h, ext_adopt (Ext.refl _ _ _) hp⟩
/-- an object of the store's is written -/
theorem mon_write (R : RepS G π H S) {i : Nat} {a : Addr} (o : HO) (hi : π[i]? = some a) : Mon G π H π (upd H a o) := by
  have ha : a ∈ π := List.mem_of_getElem? hi
  have k : ∀ b u, H b = some u → isMo u = false → upd H a o b = some u := fun b u e n => by rw [upd_ne (fun z => R.out e n (by rw [z]; exact ha))]; exact e
  refine ⟨fun _ _ h => h, fun b xs h => ?_, fun b xs h => ?_⟩
  · rcases h with h | h
    · exact .inl (k _ _ h rfl)
    · exact .inr h
  · rcases h with ⟨_, h⟩ | h
    · exact .inl ⟨_, k _ _ h rfl⟩
    · exact .inr h
theorem ext_write (R : RepS G π H S) {i : Nat} {a : Addr} (o : HO) (hi : π[i]? = some a) (hz : ∀ od u, H a ≠ some (.frz od u)) (ho : ∀ ps, o ≠ .tbl ps := by intro ps z; cases z) : Ext G π H π (upd H a o) := by
  have ha : a ∈ π := List.mem_of_getElem? hi
  have m := mon_write R o hi
  refine ⟨⟨[], by simp, fun _ h => by cases h⟩, m.tup, m.fzl, fun b u e hb _ => by rw [upd_ne (fun z => hb (by rw [z]; exact ha))]; exact e, fun b e => ?_, fun b od u e => by rw [upd_ne (fun z => hz od u (by rw [← z]; exact e))]; exact e⟩
  by_cases q : b = a
  · subst q
    obtain ⟨ps, w⟩ := e _ upd_same
    exact (ho ps w).elim
  · exact fun u hu => e u (by rw [upd_ne q]; exact hu)
theorem step_write (R : RepS G π H S) {i : Nat} {a : Addr} {o : HO} {m : Mo} (hi : π[i]? = some a) (h : MRep G π (upd H a o) m a) :
    RepS G π (upd H a o) (S.set i m) := by
  have ha : a ∈ π := List.mem_of_getElem? hi
  have k : ∀ b u, H b = some u → isMo u = false → upd H a o b = some u := fun b u e n => by rw [upd_ne (fun z => R.out e n (by rw [z]; exact ha))]; exact e
  have x := mon_write R o hi
  refine ⟨by rw [List.length_set]; exact R.len, R.nd, fun j m' b h1 h2 => ?_, tabs_keep R.tab k⟩
  by_cases e : j = i
  · subst e
    rw [hi] at h2
    cases h2
    have hj : j < S.length := by have q := (List.getElem?_eq_some_iff.mp h1).1; rw [List.length_set] at q; exact q
    rw [List.getElem?_set_self hj] at h1
    cases h1
    exact h
  · rw [List.getElem?_set_ne (fun z => e z.symm)] at h1
    refine (R.at_ j m' b h1 h2).mon x (upd_ne fun z => e ?_)
    rw [z] at h2
    exact nodup_at R.nd h2 hi
end
mutual
def Dv.clo (n : Nat) : Dv → Bool
  | .obj i => decide (i < n)
  | .tup ds => Dv.cloL n ds
  | .fls ds => Dv.cloL n ds
  | .non => true
  | .bl _ => true
  | .int _ => true
  | .str _ => true
  | .byt _ => true
  | .ty _ => true
  | .adr _ => true
def Dv.cloL (n : Nat) : List Dv → Bool
  | [] => true
  | d :: ds => Dv.clo n d && Dv.cloL n ds
end
def Mo.clo (n : Nat) : Mo → Bool
  | .lst ds => Dv.cloL n ds
  | .dk kvs => kvs.all fun p => p.2.clo n
  | .ldk kvs => kvs.all fun p => p.2.clo n
  | .ins _ fs => fs.all fun p => p.2.clo n
mutual
theorem clo_le {n m : Nat} (h : n ≤ m) : ∀ (d : Dv), d.clo n = true → d.clo m = true
  | .obj i, c => decide_eq_true (Nat.lt_of_lt_of_le (of_decide_eq_true c) h)
  | .tup ds, c => cloL_le h ds c
  | .fls ds, c => cloL_le h ds c
  | .non, _ => rfl
  | .bl _, _ => rfl
  | .int _, _ => rfl
  | .str _, _ => rfl
  | .byt _, _ => rfl
  | .ty _, _ => rfl
  | .adr _, _ => rfl
theorem cloL_le {n m : Nat} (h : n ≤ m) : ∀ (ds : List Dv), Dv.cloL n ds = true → Dv.cloL m ds = true
  | [], _ => rfl
  | d :: ds, c => by
    have c' : (Dv.clo n d && Dv.cloL n ds) = true := c
    rw [Bool.and_eq_true] at c'
    show (Dv.clo m d && Dv.cloL m ds) = true
    rw [clo_le h d c'.1, cloL_le h ds c'.2]; rfl
end
theorem mo_clo_le {n k : Nat} (h : n ≤ k) {m : Mo} (c : m.clo n = true) : m.clo k = true := by
  cases m with
  | lst ds => exact cloL_le h ds c
  | dk kvs => exact List.all_eq_true.mpr fun p hp => clo_le h _ (List.all_eq_true.mp c p hp)
  | ldk kvs => exact List.all_eq_true.mpr fun p hp => clo_le h _ (List.all_eq_true.mp c p hp)
  | ins C fs => exact List.all_eq_true.mpr fun p hp => clo_le h _ (List.all_eq_true.mp c p hp)
def StClo (S : Store) : Prop := ∀ m ∈ S, m.clo S.length = true
section
variable {G : Cf} {π π' : List Addr} {H H' : Hp}
mutual
theorem Rep.clo : ∀ {d : Dv} {v : V}, Rep G π H d v → d.clo π.length = true
  | _, _, .non => rfl
  | _, _, .bl _ => rfl
  | _, _, .int _ => rfl
  | _, _, .str _ => rfl
  | _, _, .byt _ => rfl
  | _, _, .ty _ => rfl
  | _, _, .adr _ => rfl
  | _, _, .obj h => decide_eq_true (List.getElem?_eq_some_iff.mp h).1
  | _, _, .tup _ r => RepL.clo r
  | _, _, .fls _ r => RepL.clo r
theorem RepL.clo : ∀ {ds : List Dv} {vs : List V}, RepL G π H ds vs → Dv.cloL π.length ds = true
  | _, _, .nil => rfl
  | _, _, .cons h t => by show (Dv.clo _ _ && Dv.cloL _ _) = true; rw [Rep.clo h, RepL.clo t]; rfl
end
mutual
theorem Rep.drop (n : Nat) : ∀ {d : Dv} {v : V}, Rep G π H d v → d.clo n = true → Rep G (π.take n) H d v
  | _, _, .non, _ => .non
  | _, _, .bl b, _ => .bl b
  | _, _, .int i, _ => .int i
  | _, _, .str s, _ => .str s
  | _, _, .byt b, _ => .byt b
  | _, _, .ty n, _ => .ty n
  | _, _, .adr a, _ => .adr a
  | _, _, .obj h, c => .obj (by
      have q : _ < n := of_decide_eq_true c
      rw [List.getElem?_take_of_lt q]; exact h)
  | _, _, .tup h r, c => .tup h (RepL.dropN n r c)
  | _, _, .fls h r, c => .fls h (RepL.dropN n r c)
theorem RepL.dropN (n : Nat) : ∀ {ds : List Dv} {vs : List V}, RepL G π H ds vs → Dv.cloL n ds = true → RepL G (π.take n) H ds vs
  | _, _, .nil, _ => .nil
  | _, _, .cons h t, c => by
    have c' : (Dv.clo n _ && Dv.cloL n _) = true := c
    rw [Bool.and_eq_true] at c'
    exact .cons (Rep.drop n h c'.1) (RepL.dropN n t c'.2)
end
theorem paired_clo {κ : Type} {n : Nat} : ∀ {l : List (κ × Dv)} {m : List (κ × V)}, Paired (fun (p : κ × Dv) (q : κ × V) => p.1 = q.1 ∧ Rep G π H p.2 q.2) l m → π.length = n → (l.all fun p => p.2.clo n) = true
  | _, _, .nil, _ => rfl
  | _, _, .cons r t, e => by rw [List.all_cons, paired_clo t e, ← e, r.2.clo]; rfl
theorem paired_drop {κ : Type} {n : Nat} : ∀ {l : List (κ × Dv)} {m : List (κ × V)}, Paired (fun (p : κ × Dv) (q : κ × V) => p.1 = q.1 ∧ Rep G π H p.2 q.2) l m → (l.all fun p => p.2.clo n) = true →
    Paired (fun (p : κ × Dv) (q : κ × V) => p.1 = q.1 ∧ Rep G (π.take n) H p.2 q.2) l m
  | _, _, .nil, _ => .nil
  | _, _, .cons r t, e => by
    rw [List.all_cons, Bool.and_eq_true] at e
    exact .cons ⟨r.1, r.2.drop n e.1⟩ (paired_drop t e.2)
theorem MRep.clo {m : Mo} {a : Addr} (h : MRep G π H m a) : m.clo π.length = true := by
  cases m with
  | lst ds => obtain ⟨_, _, r⟩ := h; exact r.clo
  | dk kvs => obtain ⟨_, _, r⟩ := h; exact paired_clo r rfl
  | ldk kvs => obtain ⟨_, _, r⟩ := h; exact paired_clo r rfl
  | ins C fs => obtain ⟨_, _, _, r⟩ := h; exact paired_clo r rfl
theorem MRep.drop (n : Nat) {m : Mo} {a : Addr} (h : MRep G π H m a) (c : m.clo n = true) : MRep G (π.take n) H m a := by
  cases m with
  | lst ds => obtain ⟨xs, h1, r⟩ := h; exact ⟨xs, h1, r.dropN n c⟩
  | dk kvs => obtain ⟨xs, h1, r⟩ := h; exact ⟨xs, h1, paired_drop r c⟩
  | ldk kvs => obtain ⟨xs, h1, r⟩ := h; exact ⟨xs, h1, paired_drop r c⟩
  | ins C fs => obtain ⟨dx, vs, h1, r⟩ := h; exact ⟨dx, vs, h1, paired_drop r c⟩
theorem RepS.clo {S : Store} (R : RepS G π H S) : StClo S := fun m hm => by
  obtain ⟨i, hi, e⟩ := List.getElem_of_mem hm
  obtain ⟨a, _, h⟩ := R.addr (i := i) (m := m) (by rw [List.getElem?_eq_getElem hi, e])
  rw [← R.len]
  exact h.clo
theorem RepS.drop {S : Store} (R : RepS G π H S) (n : Nat) (c : StClo (S.take n)) : RepS G (π.take n) H (S.take n) := by
  refine ⟨by rw [List.length_take, List.length_take, R.len], List.Nodup.sublist (List.take_sublist _ _) R.nd, fun i m a h1 h2 => ?_, R.tab⟩
  have cm := c m (List.mem_of_getElem? h1)
  rw [List.getElem?_take] at h1 h2
  split at h1
  · rename_i q
    rw [if_pos q] at h2
    have h := R.at_ i m a h1 h2
    refine h.drop n ?_
    by_cases z : n ≤ S.length
    · rw [List.length_take, Nat.min_eq_left z] at cm
      exact cm
    · rw [List.length_take, Nat.min_eq_right (by omega)] at cm
      exact mo_clo_le (by omega) cm
  · cases h1
theorem Ext.drop (x : Ext G π H π' H') {n : Nat} (h : π.length ≤ n) : Ext G π H (π'.take n) H' := by
  obtain ⟨t, e, hn⟩ := x.pre
  refine ⟨⟨t.take (n - π.length), by rw [e, List.take_append, List.take_of_length_le h], fun a ha => hn a (List.mem_of_mem_take ha)⟩, x.tup, x.fzl, x.frm, x.there, x.lck⟩
end
end D3
set_option Elab.async false
set_option linter.all false
set_option maxRecDepth 100000
set_option maxHeartbeats 2000000
namespace D3
open PySem PySem.Spec PyProof.Rows L2
abbrev KD := Dv → Store → Prop
abbrev TEd := Sl → Store → KD → Prop
abbrev TTd := Sl → Store → (Bool → Store → Prop) → Prop
abbrev TAd := Sl → Store → (List Dv → Store → Prop) → Prop
structure EndsD where
  nx : Sl → Store → Prop
  rt : KD
  bk : Sl → Store → Prop := fun _ _ => False
  ct : Sl → Store → Prop := fun _ _ => False
abbrev TSd := EndsD → Sl → Store → Prop
abbrev TGd := Dv → Sl → Store → (Sl → Store → Prop) → Prop
abbrev TGsd := List Dv → Sl → Store → (Sl → Store → Prop) → Prop
abbrev RD1 := Dv → Store → KD → Prop
abbrev RD2 := Dv → Dv → Store → KD → Prop
abbrev RDs := List Dv → Store → KD → Prop
structure Bs where
  G : Cf
  π0 : List Addr
  H0 : Hp
def RepSl (G : Cf) (π : List Addr) (H : Hp) (σd : Sl) (σ : L2.St) : Prop := σ.length = σd.length ∧ ∀ (i : Nat) (d : Dv), σd[i]? = some (some d) → ∃ v : V, σ[i]? = some (some v) ∧ Rep G π H d v
structure Rs (B : Bs) (π : List Addr) (H : Hp) (S : Store) (σd : Sl) (σ : L2.St) : Prop where
  ext : Ext B.G B.π0 B.H0 π H
  sto : RepS B.G π H S
  slt : RepSl B.G π H σd σ
theorem RepSl.mono {G : Cf} {π π' : List Addr} {H H' : Hp} {σd : Sl} {σ : L2.St} (x : Ext G π H π' H') (h : RepSl G π H σd σ) : RepSl G π' H' σd σ :=
  ⟨h.1, fun i d e => by obtain ⟨v, h1, h2⟩ := h.2 i d e; exact ⟨v, h1, h2.mono x⟩⟩
theorem Rs.to {B : Bs} {π π' : List Addr} {H H' : Hp} {S S' : Store} {σd : Sl} {σ : L2.St} (R : Rs B π H S σd σ) (x : Ext B.G π H π' H') (R' : RepS B.G π' H' S') : Rs B π' H' S' σd σ :=
  ⟨R.ext.trans x, R', R.slt.mono x⟩
theorem RepSl.set {G : Cf} {π : List Addr} {H : Hp} {σd : Sl} {σ : L2.St} {d : Dv} {v : V} (h : RepSl G π H σd σ) (r : Rep G π H d v) (i : Nat) : RepSl G π H (σd.set i (some d)) (σ.set i (some v)) := by
  refine ⟨by rw [List.length_set, List.length_set]; exact h.1, fun j e q => ?_⟩
  by_cases z : j = i
  · subst z
    have hj : j < σd.length := by have q := (List.getElem?_eq_some_iff.mp q).1; rw [List.length_set] at q; exact q
    rw [List.getElem?_set_self hj] at q
    cases q
    exact ⟨v, List.getElem?_set_self (by rw [h.1]; exact hj), r⟩
  · rw [List.getElem?_set_ne (fun y => z y.symm)] at q
    obtain ⟨u, h1, h2⟩ := h.2 j e q
    exact ⟨u, by rw [List.getElem?_set_ne (fun y => z y.symm)]; exact h1, h2⟩
theorem RepSl.setN {G : Cf} {π : List Addr} {H : Hp} {σd : Sl} {σ : L2.St} (h : RepSl G π H σd σ) (i : Nat) (o : Option V) : RepSl G π H (σd.set i none) (σ.set i o) := by
  refine ⟨by rw [List.length_set, List.length_set]; exact h.1, fun j e q => ?_⟩
  by_cases z : j = i
  · subst z
    have hj : j < σd.length := by have q := (List.getElem?_eq_some_iff.mp q).1; rw [List.length_set] at q; exact q
    rw [List.getElem?_set_self hj] at q
    cases q
  · rw [List.getElem?_set_ne (fun y => z y.symm)] at q
    obtain ⟨u, h1, h2⟩ := h.2 j e q
    exact ⟨u, by rw [List.getElem?_set_ne (fun y => z y.symm)]; exact h1, h2⟩
def KV' (B : Bs) (π : List Addr) (H : Hp) (Qd : KD) (Q : VK) : Prop := ∀ π' H' S' d v, Ext B.G π H π' H' → RepS B.G π' H' S' → Rep B.G π' H' d v → Qd d S' → Q v H'
def LE (B : Bs) (td : TEd) : TE := fun σ H Q => ∃ π S σd Qd, Rs B π H S σd σ ∧ td σd S Qd ∧ KV' B π H Qd Q
def LT (B : Bs) (td : TTd) : TT := fun σ H Q => ∃ π S σd Qd, Rs B π H S σd σ ∧ td σd S Qd ∧ ∀ π' H' S' b, Ext B.G π H π' H' → RepS B.G π' H' S' → Qd b S' → Q b H'
def LA (B : Bs) (td : TAd) : TA := fun σ H Q => ∃ π S σd Qd, Rs B π H S σd σ ∧ td σd S Qd ∧ ∀ π' H' S' ds vs, Ext B.G π H π' H' → RepS B.G π' H' S' → RepL B.G π' H' ds vs → Qd ds S' → Q vs H'
def EndsR (B : Bs) (π : List Addr) (H : Hp) (Dd : EndsD) (D : Ends) : Prop :=
  (∀ π' H' S' σd' σ', Ext B.G π H π' H' → RepS B.G π' H' S' → RepSl B.G π' H' σd' σ' → Dd.nx σd' S' → D.nx σ' H') ∧
  (∀ π' H' S' d v, Ext B.G π H π' H' → RepS B.G π' H' S' → Rep B.G π' H' d v → Dd.rt d S' → D.rt v H') ∧
  (∀ π' H' S' σd' σ', Ext B.G π H π' H' → RepS B.G π' H' S' → RepSl B.G π' H' σd' σ' → Dd.bk σd' S' → D.bk σ' H') ∧
  (∀ π' H' S' σd' σ', Ext B.G π H π' H' → RepS B.G π' H' S' → RepSl B.G π' H' σd' σ' → Dd.ct σd' S' → D.ct σ' H')
def LS (B : Bs) (td : TSd) : TS := fun D σ H => ∃ π S σd Dd, Rs B π H S σd σ ∧ td Dd σd S ∧ EndsR B π H Dd D
def LG (B : Bs) (g : TGd) : TG := fun v σ H Q => ∃ π S σd d Qd, Rs B π H S σd σ ∧ Rep B.G π H d v ∧ g d σd S Qd ∧ ∀ π' H' S' σd' σ', Ext B.G π H π' H' → RepS B.G π' H' S' → RepSl B.G π' H' σd' σ' → Qd σd' S' → Q σ' H'
def LGs (B : Bs) (g : TGsd) : TGs := fun vs σ H Q => ∃ π S σd ds Qd, Rs B π H S σd σ ∧ RepL B.G π H ds vs ∧ g ds σd S Qd ∧ ∀ π' H' S' σd' σ', Ext B.G π H π' H' → RepS B.G π' H' S' → RepSl B.G π' H' σd' σ' → Qd σd' S' → Q σ' H'
/-- by values -/
def L1 (B : Bs) (r : RD1) : V → Hp → VK → Prop := fun v H Q => ∃ π S d Qd, RepS B.G π H S ∧ Rep B.G π H d v ∧ r d S Qd ∧ KV' B π H Qd Q
def L2' (B : Bs) (r : RD2) : R2 := fun v u H Q => ∃ π S d e Qd, RepS B.G π H S ∧ Rep B.G π H d v ∧ Rep B.G π H e u ∧ r d e S Qd ∧ KV' B π H Qd Q
def LC (B : Bs) (r : RDs) : List V → Hp → VK → Prop := fun vs H Q => ∃ π S ds Qd, RepS B.G π H S ∧ RepL B.G π H ds vs ∧ r ds S Qd ∧ KV' B π H Qd Q
def LM (B : Bs) (r : Dv → RDs) : V → List V → Hp → VK → Prop := fun v vs H Q => ∃ π S d ds Qd, RepS B.G π H S ∧ Rep B.G π H d v ∧ RepL B.G π H ds vs ∧ r d ds S Qd ∧ KV' B π H Qd Q
theorem KV'.to {B : Bs} {π π1 : List Addr} {H H1 : Hp} {Qd : KD} {Q : VK} (k : KV' B π H Qd Q) (x : Ext B.G π H π1 H1) : KV' B π1 H1 Qd Q := fun π' H' S' d v y R r q => k π' H' S' d v (x.trans y) R r q
theorem EndsR.to {B : Bs} {π π1 : List Addr} {H H1 : Hp} {Dd : EndsD} {D : Ends} (k : EndsR B π H Dd D) (x : Ext B.G π H π1 H1) : EndsR B π1 H1 Dd D :=
  ⟨fun π' H' S' d v y R r q => k.1 π' H' S' d v (x.trans y) R r q, fun π' H' S' d v y R r q => k.2.1 π' H' S' d v (x.trans y) R r q,
    fun π' H' S' d v y R r q => k.2.2.1 π' H' S' d v (x.trans y) R r q, fun π' H' S' d v y R r q => k.2.2.2 π' H' S' d v (x.trans y) R r q⟩
/-- an end, at once -/
theorem KV'.here {B : Bs} {π : List Addr} {H : Hp} {S : Store} {Qd : KD} {Q : VK} {d : Dv} {v : V} (k : KV' B π H Qd Q) (R : RepS B.G π H S) (r : Rep B.G π H d v) (q : Qd d S) : Q v H := k π H S d v (Ext.refl _ _ _) R r q
/-- .. with a new tuple -/
theorem KV'.tup {B : Bs} {π : List Addr} {H : Hp} {S : Store} {Qd : KD} {Q : VK} {ds : List Dv} {vs : List V} (k : KV' B π H Qd Q) (R : RepS B.G π H S) (r : RepL B.G π H ds vs) (q : Qd (.tup ds) S) {p : Addr} (hp : H p = none) : Q (.ref p) (upd H p (.tup vs)) := by
  obtain ⟨R1, x⟩ := step_aside R (o := .tup vs) hp
  exact k π _ S (.tup ds) _ x R1 (.tup (.inl upd_same) (r.mono x)) q
/-- .. with a new list -/
theorem KV'.lst {B : Bs} {π : List Addr} {H : Hp} {S : Store} {Qd : KD} {Q : VK} {ds : List Dv} {vs : List V} (k : KV' B π H Qd Q) (R : RepS B.G π H S) (r : RepL B.G π H ds vs) (q : Qd (.obj S.length) (S ++ [.lst ds])) {p : Addr} (hp : H p = none) : Q (.ref p) (upd H p (.lst vs)) := by
  have x1 : Ext B.G π H (π ++ [p]) (upd H p (.lst vs)) := ext_adopt (Ext.refl _ _ _) hp
  obtain ⟨R1, x⟩ := step_new R (o := .lst vs) (m := .lst ds) hp ⟨vs, upd_same, r.mono x1⟩
  exact k _ _ _ (.obj S.length) _ x R1 (.obj (by rw [← R.len, List.getElem?_append_right (Nat.le_refl _), Nat.sub_self]; rfl)) q
/-- .. with an object written -/
theorem KV'.wr {B : Bs} {π : List Addr} {H : Hp} {S : Store} {Qd : KD} {Q : VK} {ds : List Dv} {vs : List V} {i : Nat} {a : Addr} {d : Dv} {v : V} (k : KV' B π H Qd Q) (R : RepS B.G π H S) (hi : π[i]? = some a) {zs : List V} (hz : H a = some (.lst zs)) (r : RepL B.G π H ds vs) (rd : Rep B.G π H d v)
    (q : Qd d (S.set i (.lst ds))) : Q v (upd H a (.lst vs)) := by
  have x := ext_write R (.lst vs) hi (fun od u e => by rw [hz] at e; cases e)
  exact k _ _ _ d v x (step_write (m := .lst ds) R hi ⟨vs, upd_same, r.mono x⟩) (rd.mono x) q
section
variable {X : Cx}
theorem PE_imp {e : Expr} {t t' : TE} (h : PE X e t) (k : ∀ σ H Q, t' σ H Q → t σ H Q) : PE X e t' := ⟨fun pins s σ H Q I q => h.run pins s σ H Q I (k σ H Q q)⟩
theorem PT_imp {e : Expr} {t t' : TT} (h : PT X e t) (k : ∀ σ H Q, t' σ H Q → t σ H Q) : PT X e t' := ⟨fun pins s σ H Q I q => h.run pins s σ H Q I (k σ H Q q)⟩
theorem PW_imp {e : Expr} {t t' : TT} (h : PW X e t) (k : ∀ σ H Q, t' σ H Q → t σ H Q) : PW X e t' := ⟨fun w pins s σ H Q I q => h.run w pins s σ H Q I (k σ H Q q)⟩
theorem PA_imp {e : List Expr} {t t' : TA} (h : PA X e t) (k : ∀ σ H Q, t' σ H Q → t σ H Q) : PA X e t' := ⟨fun pos pins s σ H Q I q => h.run pos pins s σ H Q I (k σ H Q q)⟩
theorem PS_imp {e : Stmt} {t t' : TS} (h : PS X e t) (k : ∀ D σ H, t' D σ H → t D σ H) : PS X e t' := ⟨fun pins s σ H D I q => h.run pins s σ H D I (k D σ H q)⟩
theorem PSs_imp {e : List Stmt} {t t' : TS} (h : PSs X e t) (k : ∀ D σ H, t' D σ H → t D σ H) : PSs X e t' := ⟨fun pins s σ H D I q => h.run pins s σ H D I (k D σ H q)⟩
theorem PG_imp {e : Expr} {t t' : TG} (h : PG X e t) (k : ∀ v σ H Q, t' v σ H Q → t v σ H Q) : PG X e t' := ⟨fun pins s σ H v u Q I r q => h.run pins s σ H v u Q I r (k v σ H Q q)⟩
theorem PGs_imp {e : List Expr} {t t' : TGs} (h : PGs X e t) (k : ∀ v σ H Q, t' v σ H Q → t v σ H Q) : PGs X e t' := ⟨fun pins s σ H v u Q I r q => h.run pins s σ H v u Q I r (k v σ H Q q)⟩
theorem OpR_imp {f : Value → Value → Sem Value} {r r' : R2} (h : OpR X f r) (k : ∀ x y H Q, r' x y H Q → r x y H Q) : OpR X f r' := fun pins s σ H x y v u Q I rx ry q => h pins s σ H x y v u Q I rx ry (k _ _ _ _ q)
theorem UnR_imp {f : Value → Sem Value} {r r' : V → Hp → VK → Prop} (h : UnR X f r) (k : ∀ x H Q, r' x H Q → r x H Q) : UnR X f r' := fun pins s σ H x v Q I rx q => h pins s σ H x v Q I rx (k _ _ _ q)
theorem CallR_imp {f : Value} {r r' : List V → Hp → VK → Prop} (h : CallR X f r) (k : ∀ x H Q, r' x H Q → r x H Q) : CallR X f r' := fun pins s σ H x v Q I rx q => h pins s σ H x v Q I rx (k _ _ _ q)
end
end D3
set_option Elab.async false
set_option linter.all false
set_option maxRecDepth 100000
set_option maxHeartbeats 2000000
namespace D3
open PySem PySem.Spec PyProof.Rows L2
def eVar (i : Nat) : TEd := fun σ S Q => ∃ d, σ[i]? = some (some d) ∧ Q d S
def eC (d : Dv) : TEd := fun _ S Q => Q d S
def eOp (r : RD2) (a b : TEd) : TEd := fun σ S Q => a σ S fun x S1 => b σ S1 fun y S2 => r x y S2 Q
def eUn (r : RD1) (a : TEd) : TEd := fun σ S Q => a σ S fun x S1 => r x S1 Q
def cVal (t : TEd) : TTd := fun σ S Q => t σ S fun x S1 => ∃ c, x = .bl c ∧ Q c S1
def eChain (r r' : RD2) (a b c : TEd) : TEd := fun σ S Q => a σ S fun x S1 => b σ S1 fun y S2 => r x y S2 fun z S3 => ∃ k, z = .bl k ∧ (if k = true then c σ S3 fun w S4 => r' y w S4 Q else Q (.bl false) S3)
def cAnd (t u : TTd) : TTd := fun σ S Q => t σ S fun c S1 => if c = true then u σ S1 Q else Q false S1
def cOr (t u : TTd) : TTd := fun σ S Q => t σ S fun c S1 => if c = true then Q true S1 else u σ S1 Q
def cNot (t : TTd) : TTd := fun σ S Q => t σ S fun c S1 => Q (!c) S1
def eAnd (a b : TEd) : TEd := fun σ S Q => a σ S fun x S1 => ∃ c, x = .bl c ∧ if c = true then b σ S1 Q else Q (.bl false) S1
def eOr (a b : TEd) : TEd := fun σ S Q => a σ S fun x S1 => ∃ c, x = .bl c ∧ if c = true then Q (.bl true) S1 else b σ S1 Q
def eNot (a : TEd) : TEd := fun σ S Q => a σ S fun x S1 => ∃ c, x = .bl c ∧ Q (.bl (!c)) S1
def eIf (t : TTd) (a b : TEd) : TEd := fun σ S Q => t σ S fun c S1 => if c = true then a σ S1 Q else b σ S1 Q
def aNil : TAd := fun _ S Q => Q [] S
def aCons (e : TEd) (r : TAd) : TAd := fun σ S Q => e σ S fun x S1 => r σ S1 fun xs S2 => Q (x :: xs) S2
def eTup (t : TAd) : TEd := fun σ S Q => t σ S fun xs S1 => xs.length ≤ sizeLine ∧ Q (.tup xs) S1
def eLst (t : TAd) : TEd := fun σ S Q => t σ S fun xs S1 => xs.length ≤ sizeLine ∧ Q (.obj S1.length) (S1 ++ [.lst xs])
def eArgs (r : RDs) (t : TAd) : TEd := fun σ S Q => t σ S fun xs S1 => r xs S1 Q
section
variable {X : Cx} {B : Bs} {a b c e : Expr} {pos : Pos} {ta tb tc td : TEd}
theorem LE_same {t : TE} {td : TEd} (h : ∀ π S σd σ H Qd Q, Rs B π H S σd σ → td σd S Qd → KV' B π H Qd Q → t σ H Q) : ∀ σ H Q, LE B td σ H Q → t σ H Q := fun σ H Q ⟨π, S, σd, Qd, R, q, k⟩ => h π S σd σ H Qd Q R q k
theorem pv' (i : Nat) {x : Str} (hN : X.N[i]? = some x := by rfl) (hv : Vis X.env.scope x := by first | exact Or.inl rfl | exact Or.inr (Or.inl rfl) | exact Or.inr (Or.inr rfl)) (hd : (x == ("__debug__" : Str)) = false := by decide)
    (hcd : (x == ("__classdict__" : Str)) = false := by decide) : PE X (.Name x pos) (LE B (eVar i)) :=
  PE_imp (pe_var hN hv hd hcd) (LE_same fun π S σd σ H Qd Q R ⟨d, e, q⟩ k => by
    obtain ⟨v, h1, h2⟩ := R.slt.2 i d e
    exact ⟨v, h1, k.here R.sto h2 q⟩)
theorem pC {d : Dv} {v : V} (h : PE X e (tC v)) (r : ∀ π H, Rep B.G π H d v) : PE X e (LE B (eC d)) :=
  PE_imp h (LE_same fun π S σd σ H Qd Q R q k => k.here R.sto (r _ _) q)
theorem pInt {i : Int} {j : Nat} : PE X (.Constant (.int i) j pos) (LE B (eC (.int i))) := pC pe_int fun _ _ => .int i
theorem pBl {i : Bool} {j : Nat} : PE X (.Constant (.bool i) j pos) (LE B (eC (.bl i))) := pC pe_bl fun _ _ => .bl i
theorem pNon {j : Nat} : PE X (.Constant .none j pos) (LE B (eC .non)) := pC pe_non fun _ _ => .non
theorem pStr {i : Str} {j : Nat} : PE X (.Constant (.str i) j pos) (LE B (eC (.str i))) := pC pe_str fun _ _ => .str i
theorem pGlob {x : Str} {d : Dv} {v : V} {u : Value} (hg : Gl X x) (hm : X.mg x = some u) (r : RelV v u) (rd : ∀ π H, Rep B.G π H d v) (hd : (x == ("__debug__" : Str)) = false := by decide) : PE X (.Name x pos) (LE B (eC d)) := pC (pe_glob hg hm r hd) rd
theorem pTy {x : Str} {n : String} (hg : Gl X x) (hm : X.mg x = none) (hv : bootBuiltins x = some (.type n)) (hn : x ≠ "__name__" := by decide) (hd : (x == ("__debug__" : Str)) = false := by decide) : PE X (.Name x pos) (LE B (eC (.ty n))) := pC (pe_bltn hg hm hv (v := .ty n) rfl hn hd) fun _ _ => .ty n
theorem LE_op {r : RD2} (ta tb : TEd) : ∀ σ H Q, LE B (eOp r ta tb) σ H Q → tOp (L2' B r) (LE B ta) (LE B tb) σ H Q := by
  rintro σ H Q ⟨π, S, σd, Qd, R, h, k⟩
  refine ⟨π, S, σd, _, R, h, fun π1 H1 S1 x v e1 R1 rx q => ?_⟩
  refine ⟨π1, S1, σd, _, R.to e1 R1, q, fun π2 H2 S2 y u e2 R2 ry q2 => ?_⟩
  exact ⟨π2, S2, x, y, Qd, R2, rx.mono e2, ry, q2, k.to (e1.trans e2)⟩
theorem LE_un {r : RD1} (ta : TEd) : ∀ σ H Q, LE B (eUn r ta) σ H Q → tUn (L1 B r) (LE B ta) σ H Q := by
  rintro σ H Q ⟨π, S, σd, Qd, R, h, k⟩
  exact ⟨π, S, σd, _, R, h, fun π1 H1 S1 x v e1 R1 rx q => ⟨π1, S1, x, Qd, R1, rx, q, k.to e1⟩⟩
theorem pOp {op : Operator} {r : RD2} (ho : OpR X (binaryOp op) (L2' B r)) (ha : PE X a (LE B ta)) (hb : PE X b (LE B tb)) : PE X (.BinOp a op b pos) (LE B (eOp r ta tb)) := PE_imp (pe_op ho ha hb) (LE_op ta tb)
theorem pUn {op : UnaryOp} {r : RD1} (ho : UnR X (unaryOp op) (L1 B r)) (ha : PE X a (LE B ta)) : PE X (.UnaryOp op a pos) (LE B (eUn r ta)) := PE_imp (pe_un ho ha) (LE_un ta)
theorem pCmp {op : CmpOp} {r : RD2} (ho : OpR X (compareOp op) (L2' B r)) (ha : PE X a (LE B ta)) (hb : PE X b (LE B tb)) (hm : behindInMarks op b = false := by first | exact nomark _ (by decide) (by decide) | rfl | with_unfolding_all rfl) : PE X (.Compare a [op] [b] pos) (LE B (eOp r ta tb)) := PE_imp (pe_cmpR ho ha hb hm) (LE_op ta tb)
theorem pChain {op op' : CmpOp} {r r' : RD2} (ho : OpR X (compareOp op) (L2' B r)) (ho' : OpR X (compareOp op') (L2' B r')) (ha : PE X a (LE B ta)) (hb : PE X b (LE B tb)) (hc : PE X c (LE B tc))
    (hm : lastMarks [op, op'] [b, c] = false := by with_unfolding_all rfl) : PE X (.Compare a [op, op'] [b, c] pos) (LE B (eChain r r' ta tb tc)) := by
  refine PE_imp (pe_chain ho ho' ha hb hc hm) ?_
  rintro σ H Q ⟨π, S, σd, Qd, R, h, k⟩
  refine ⟨π, S, σd, _, R, h, fun π1 H1 S1 x v e1 R1 rx q => ?_⟩
  refine ⟨π1, S1, σd, _, R.to e1 R1, q, fun π2 H2 S2 y u e2 R2 ry q2 => ?_⟩
  refine ⟨π2, S2, x, y, _, R2, rx.mono e2, ry, q2, fun π3 H3 S3 z w e3 R3 rz q3 => ?_⟩
  obtain ⟨kk, rfl, q4⟩ := q3
  obtain rfl := rz.bl_inv
  refine ⟨kk, rfl, ?_⟩
  cases kk with
  | true =>
    rw [if_pos rfl] at q4 ⊢
    refine ⟨π3, S3, σd, _, R.to (e1.trans (e2.trans e3)) R3, q4, fun π4 H4 S4 d4 v4 e4 R4 r4 q5 => ?_⟩
    exact ⟨π4, S4, y, d4, Qd, R4, ry.mono (e3.trans e4), r4, q5, k.to (e1.trans (e2.trans (e3.trans e4)))⟩
  | false =>
    rw [if_neg Bool.false_ne_true] at q4 ⊢
    exact k π3 H3 S3 _ _ (e1.trans (e2.trans e3)) R3 (.bl false) q4
theorem LT_val (td : TEd) : ∀ σ H Q, LT B (cVal td) σ H Q → tB (LE B td) σ H Q := by
  rintro σ H Q ⟨π, S, σd, Qd, R, h, k⟩
  refine ⟨π, S, σd, _, R, h, fun π1 H1 S1 x v e1 R1 rx q => ?_⟩
  obtain ⟨c, rfl, q⟩ := q
  obtain rfl := rx.bl_inv
  exact ⟨c, rfl, k π1 H1 S1 c e1 R1 q⟩
theorem tVal (h : PE X e (LE B td)) (he : ∀ whole, isTrue e X.env whole = (do let v ← whole; standAt e.pos; holding [v] (truthy v)) := by intro _; rfl) : PT X e (LT B (cVal td)) := PT_imp (pt_val h he) (LT_val td)
theorem tCmp' {op : CmpOp} {r : RD2} (ho : OpR X (compareOp op) (L2' B r)) (ha : PE X a (LE B ta)) (hb : PE X b (LE B tb)) (hm : behindInMarks op b = false := by first | exact nomark _ (by decide) (by decide) | rfl | with_unfolding_all rfl) : PT X (.Compare a [op] [b] pos) (LT B (cVal (eOp r ta tb))) :=
  PT_imp (pt_cmpR ho ha hb hm) (by
    rintro σ H Q ⟨π, S, σd, Qd, R, h, k⟩
    have q := LE_op (B := B) (r := r) ta tb σ H (fun x H1 => ∃ c, x = .bl c ∧ Q c H1) ⟨π, S, σd, _, R, h, fun π1 H1 S1 x v e1 R1 rx q => by
      obtain ⟨c, rfl, q⟩ := q
      obtain rfl := rx.bl_inv
      exact ⟨c, rfl, k π1 H1 S1 c e1 R1 q⟩⟩
    exact q)
theorem tChain' {op op' : CmpOp} {r r' : RD2} (ho : OpR X (compareOp op) (L2' B r)) (ho' : OpR X (compareOp op') (L2' B r')) (ha : PE X a (LE B ta)) (hb : PE X b (LE B tb)) (hc : PE X c (LE B tc))
    (hm : lastMarks [op, op'] [b, c] = false := by with_unfolding_all rfl) : PT X (.Compare a [op, op'] [b, c] pos) (LT B (cVal (eChain r r' ta tb tc))) := by
  refine PT_imp (pt_chain ho ho' ha hb hc hm) ?_
  rintro σ H Q ⟨π, S, σd, Qd, R, h, k⟩
  refine ⟨π, S, σd, _, R, h, fun π1 H1 S1 x v e1 R1 rx q => ?_⟩
  refine ⟨π1, S1, σd, _, R.to e1 R1, q, fun π2 H2 S2 y u e2 R2 ry q2 => ?_⟩
  refine ⟨π2, S2, x, y, _, R2, rx.mono e2, ry, q2, fun π3 H3 S3 z w e3 R3 rz q3 => ?_⟩
  obtain ⟨kk, rfl, q4⟩ := q3
  obtain rfl := rz.bl_inv
  refine ⟨kk, rfl, ?_⟩
  cases kk with
  | true =>
    rw [if_pos rfl] at q4 ⊢
    refine ⟨π3, S3, σd, _, R.to (e1.trans (e2.trans e3)) R3, q4, fun π4 H4 S4 d4 v4 e4 R4 r4 q5 => ?_⟩
    refine ⟨π4, S4, y, d4, _, R4, ry.mono (e3.trans e4), r4, q5, fun π5 H5 S5 d5 v5 e5 R5 r5 q6 => ?_⟩
    obtain ⟨c, rfl, q7⟩ := q6
    obtain rfl := r5.bl_inv
    exact ⟨c, rfl, k π5 H5 S5 c (e1.trans (e2.trans (e3.trans (e4.trans e5)))) R5 q7⟩
  | false =>
    rw [if_neg Bool.false_ne_true] at q4 ⊢
    obtain ⟨c, hc, q7⟩ := q4
    cases hc
    exact ⟨false, rfl, k π3 H3 S3 false (e1.trans (e2.trans e3)) R3 q7⟩
variable {tA tB' : TTd} {rest : List Expr}
theorem LT_and (t u : TTd) : ∀ σ H Q, LT B (cAnd t u) σ H Q → tAnd (LT B t) (LT B u) σ H Q := by
  rintro σ H Q ⟨π, S, σd, Qd, R, h, k⟩
  refine ⟨π, S, σd, _, R, h, fun π1 H1 S1 c e1 R1 q => ?_⟩
  cases c with
  | true =>
    rw [if_pos rfl] at q ⊢
    exact ⟨π1, S1, σd, Qd, R.to e1 R1, q, fun π2 H2 S2 c e2 R2 q => k π2 H2 S2 c (e1.trans e2) R2 q⟩
  | false =>
    rw [if_neg Bool.false_ne_true] at q ⊢
    exact k π1 H1 S1 false e1 R1 q
theorem LT_or (t u : TTd) : ∀ σ H Q, LT B (cOr t u) σ H Q → tOr (LT B t) (LT B u) σ H Q := by
  rintro σ H Q ⟨π, S, σd, Qd, R, h, k⟩
  refine ⟨π, S, σd, _, R, h, fun π1 H1 S1 c e1 R1 q => ?_⟩
  cases c with
  | false =>
    rw [if_neg Bool.false_ne_true] at q ⊢
    exact ⟨π1, S1, σd, Qd, R.to e1 R1, q, fun π2 H2 S2 c e2 R2 q => k π2 H2 S2 c (e1.trans e2) R2 q⟩
  | true =>
    rw [if_pos rfl] at q ⊢
    exact k π1 H1 S1 true e1 R1 q
theorem wAnd1 (ha : PT X a (LT B tA)) : PW X (.BoolOp .And [a] pos) (LT B tA) := pw_and1 ha
theorem wOr1 (ha : PT X a (LT B tA)) : PW X (.BoolOp .Or [a] pos) (LT B tA) := pw_or1 ha
theorem wAnd (ha : PT X a (LT B tA)) (hb : PW X (.BoolOp .And (b :: rest) pos) (LT B tB')) : PW X (.BoolOp .And (a :: b :: rest) pos) (LT B (cAnd tA tB')) := PW_imp (pw_and ha hb) (LT_and _ _)
theorem wOr (ha : PT X a (LT B tA)) (hb : PW X (.BoolOp .Or (b :: rest) pos) (LT B tB')) : PW X (.BoolOp .Or (a :: b :: rest) pos) (LT B (cOr tA tB')) := PW_imp (pw_or ha hb) (LT_or _ _)
theorem tNot' (ha : PT X a (LT B tA)) : PT X (.UnaryOp .Not a pos) (LT B (cNot tA)) := PT_imp (pt_not ha) (by
  rintro σ H Q ⟨π, S, σd, Qd, R, h, k⟩
  exact ⟨π, S, σd, _, R, h, fun π1 H1 S1 c e1 R1 q => k π1 H1 S1 _ e1 R1 q⟩)
/-- .. as values -/
theorem pOne {op} (h : PE X a (LE B ta)) : PE X (.BoolOp op [a] pos) (LE B ta) := pe_one h
theorem pAnd (ha : PE X a (LE B ta)) (hb : PE X (.BoolOp .And (b :: rest) pos) (LE B tb)) : PE X (.BoolOp .And (a :: b :: rest) pos) (LE B (eAnd ta tb)) := PE_imp (pe_and ha hb) (by
  rintro σ H Q ⟨π, S, σd, Qd, R, h, k⟩
  refine ⟨π, S, σd, _, R, h, fun π1 H1 S1 x v e1 R1 rx q => ?_⟩
  obtain ⟨c, rfl, q⟩ := q
  obtain rfl := rx.bl_inv
  refine ⟨c, rfl, ?_⟩
  cases c with
  | true =>
    rw [if_pos rfl] at q ⊢
    exact ⟨π1, S1, σd, Qd, R.to e1 R1, q, k.to e1⟩
  | false =>
    rw [if_neg Bool.false_ne_true] at q ⊢
    exact k π1 H1 S1 _ _ e1 R1 (.bl false) q)
theorem pNot (ha : PE X a (LE B ta)) : PE X (.UnaryOp .Not a pos) (LE B (eNot ta)) := PE_imp (pe_not ha) (by
  rintro σ H Q ⟨π, S, σd, Qd, R, h, k⟩
  refine ⟨π, S, σd, _, R, h, fun π1 H1 S1 x v e1 R1 rx q => ?_⟩
  obtain ⟨c, rfl, q⟩ := q
  obtain rfl := rx.bl_inv
  exact ⟨c, rfl, k π1 H1 S1 _ _ e1 R1 (.bl _) q⟩)
theorem pIfE (hc : PT X c (LT B tA)) (ha : PE X a (LE B ta)) (hb : PE X b (LE B tb)) : PE X (.IfExp c a b pos) (LE B (eIf tA ta tb)) := PE_imp (pe_ifExp hc ha hb) (by
  rintro σ H Q ⟨π, S, σd, Qd, R, h, k⟩
  refine ⟨π, S, σd, _, R, h, fun π1 H1 S1 c e1 R1 q => ?_⟩
  cases c with
  | false =>
    rw [if_neg Bool.false_ne_true] at q ⊢
    exact ⟨π1, S1, σd, Qd, R.to e1 R1, q, k.to e1⟩
  | true =>
    rw [if_pos rfl] at q ⊢
    exact ⟨π1, S1, σd, Qd, R.to e1 R1, q, k.to e1⟩)
variable {es : List Expr} {t : TAd}
theorem aNil' : PA X [] (LA B aNil) := PA_imp pa_nil (by
  rintro σ H Q ⟨π, S, σd, Qd, R, h, k⟩
  exact k π H S [] [] (Ext.refl _ _ _) R.sto .nil h)
theorem aCons' (ha : PE X e (LE B ta)) (hr : PA X es (LA B t)) (hs : starEach (e :: es) X.env = (false, eval e X.env) :: starEach es X.env := by rfl) : PA X (e :: es) (LA B (aCons ta t)) := PA_imp (pa_cons ha hr hs) (by
  rintro σ H Q ⟨π, S, σd, Qd, R, h, k⟩
  refine ⟨π, S, σd, _, R, h, fun π1 H1 S1 x v e1 R1 rx q => ?_⟩
  refine ⟨π1, S1, σd, _, R.to e1 R1, q, fun π2 H2 S2 ys us e2 R2 ry q2 => ?_⟩
  exact k π2 H2 S2 _ _ (e1.trans e2) R2 (.cons (rx.mono e2) ry) q2)
theorem pTup {x1} (h : PA X es (LA B t)) : PE X (.Tuple es x1 pos) (LE B (eTup t)) := PE_imp (pe_tup h) (by
  rintro σ H Q ⟨π, S, σd, Qd, R, h, k⟩
  refine ⟨π, S, σd, _, R, h, fun π1 H1 S1 ys us e1 R1 ry q => ⟨by rw [← ry.length]; exact q.1, fun p hp => ?_⟩⟩
  exact (k.to e1).tup R1 ry q.2 hp)
theorem pLst (h : PA X es (LA B t)) : PE X (.List es pos) (LE B (eLst t)) := PE_imp (pe_lst h) (by
  rintro σ H Q ⟨π, S, σd, Qd, R, h, k⟩
  refine ⟨π, S, σd, _, R, h, fun π1 H1 S1 ys us e1 R1 ry q => ⟨by rw [← ry.length]; exact q.1, fun p hp => ?_⟩⟩
  exact (k.to e1).lst R1 ry q.2 hp)
end
end D3
set_option Elab.async false
set_option linter.all false
set_option maxRecDepth 100000
set_option maxHeartbeats 2000000
namespace D3
open PySem PySem.Spec PyProof.Rows L2
def getL (S : Store) (i : Nat) : Option (List Dv) := match S[i]? with | some (.lst xs) => some xs | _ => none
theorem getL_iff {S : Store} {i : Nat} {xs : List Dv} : getL S i = some xs ↔ S[i]? = some (.lst xs) := by
  unfold getL
  split
  · rename_i ys h; rw [h]; simp
  · rename_i h; constructor
    · intro z; cases z
    · intro z; exact (h _ z).elim
def dAdd : RD2 := fun x y S Q => match x, y with
  | .int i, .int j => Q (.int (i + j)) S
  | .str a, .str b => a.length + b.length ≤ sizeLine ∧ Q (.str (a ++ b)) S
  | .byt a, .byt b => a.size + b.size ≤ 16777216 ∧ Q (.byt (a ++ b)) S
  | .tup a, .tup b => a.length + b.length ≤ sizeLine ∧ Q (.tup (a ++ b)) S
  | .obj i, .obj j => ∃ xs ys, getL S i = some xs ∧ getL S j = some ys ∧ xs.length + ys.length ≤ sizeLine ∧ Q (.obj S.length) (S ++ [.lst (xs ++ ys)])
  | _, _ => False
def dSub : RD2 := fun x y S Q => match x, y with
  | .int i, .int j => Q (.int (i - j)) S
  | _, _ => False
def MulOk (i j : Int) : Prop := CMul i j ∨ CMulW i j
def dMul : RD2 := fun x y S Q => match x, y with
  | .int i, .int j => MulOk i j ∧ Q (.int (i * j)) S
  | .obj i, .int k => ∃ xs, getL S i = some xs ∧ -(2 ^ 63) ≤ k ∧ k < 2 ^ 63 ∧ xs.length * k.toNat ≤ sizeLine ∧ Q (.obj S.length) (S ++ [.lst (List.replicate k.toNat xs).flatten])
  | _, _ => False
def DivOk (i j : Int) : Prop := CDiv i j ∨ CDivW i j
def dDiv : RD2 := fun x y S Q => match x, y with
  | .int i, .int j => DivOk i j ∧ Q (.int (i / j)) S
  | _, _ => False
def dMod : RD2 := fun x y S Q => match x, y with
  | .int i, .int j => 0 < j ∧ Q (.int (i % j)) S
  | _, _ => False
def dPow : RD2 := fun x y S Q => match x, y with
  | .int i, .int j => CPow i j ∧ Q (.int (i ^ j.toNat)) S
  | _, _ => False
def dNeg : RD1 := fun x S Q => match x with
  | .int i => Q (.int (-i)) S
  | _ => False
def dCmpI (p : Int → Int → Bool) : RD2 := fun x y S Q => match x, y with
  | .int i, .int j => Q (.bl (p i j)) S
  | _, _ => False
abbrev dLt : RD2 := dCmpI fun i j => decide (i < j)
abbrev dLe : RD2 := dCmpI fun i j => decide (i ≤ j)
abbrev dGt : RD2 := dCmpI fun i j => decide (j < i)
/-- is None, is not None -/
def isNon : Dv → Bool
  | .non => true
  | _ => false
def dIs : RD2 := fun x y S Q => match y with
  | .non => Q (.bl (isNon x)) S
  | _ => False
def dIsNot : RD2 := fun x y S Q => match y with
  | .non => Q (.bl (!isNon x)) S
  | _ => False
section
variable {X : Cx} {B : Bs}
theorem oAdd (hK : B.G.K = X.K := by rfl) : OpR X (binaryOp .Add) (L2' B dAdd) := by
  refine OpR_imp (OpR.or op_add (OpR.or op_add_str (OpR.or op_add_byt (OpR.or (op_catA (X := X)) op_cat)))) ?_
  rintro v u H Q ⟨π, S, d, e, Qd, R, r1, r2, q, k⟩
  unfold dAdd at q
  split at q
  · obtain rfl := r1.int_inv
    obtain rfl := r2.int_inv
    exact .inl ⟨_, _, rfl, rfl, k.here R (.int _) q⟩
  · obtain rfl := r1.str_inv
    obtain rfl := r2.str_inv
    exact .inr (.inl ⟨_, _, rfl, rfl, q.1, k.here R (.str _) q.2⟩)
  · obtain rfl := r1.byt_inv
    obtain rfl := r2.byt_inv
    exact .inr (.inr (.inl ⟨_, _, rfl, rfl, q.1, k.here R (.byt _) q.2⟩))
  · obtain ⟨a1, xs, rfl, s1, l1⟩ := r1.tup_inv
    obtain ⟨a2, ys, rfl, s2, l2⟩ := r2.tup_inv
    refine .inr (.inr (.inr (.inl ⟨_, _, xs, ys, rfl, rfl, by rw [← hK]; exact s1.sq, by rw [← hK]; exact s2.sq, by rw [← l1.length, ← l2.length]; exact q.1, fun e => ?_, fun _ e => ?_, fun _ _ p hp => k.tup R (l1.append l2) q.2 hp⟩)))
    · subst e
      refine k.here R (d := .tup (_ ++ _)) ?_ q.2
      cases l1
      exact .tup s2 l2
    · subst e
      refine k.here R (d := .tup (_ ++ _)) ?_ q.2
      cases l2
      rw [List.append_nil]
      exact .tup s1 l1
  · obtain ⟨xs, ys, g1, g2, hz, q⟩ := q
    obtain ⟨a, rfl, i1, zs, h1, l1⟩ := R.here (getL_iff.mp g1) r1
    obtain ⟨b, rfl, i2, ws, h2, l2⟩ := R.here (getL_iff.mp g2) r2
    exact .inr (.inr (.inr (.inr ⟨a, b, zs, ws, rfl, rfl, h1, h2, by rw [← l1.length, ← l2.length]; exact hz, fun p hp => k.lst R (l1.append l2) q hp⟩)))
  · exact q.elim
theorem oSub : OpR X (binaryOp .Sub) (L2' B dSub) := by
  refine OpR_imp op_sub ?_
  rintro v u H Q ⟨π, S, d, e, Qd, R, r1, r2, q, k⟩
  unfold dSub at q
  split at q
  · obtain rfl := r1.int_inv
    obtain rfl := r2.int_inv
    exact ⟨_, _, rfl, rfl, k.here R (.int _) q⟩
  · exact q.elim
theorem oMul : OpR X (binaryOp .Mult) (L2' B dMul) := by
  refine OpR_imp (OpR.or op_mul (OpR.or op_mulW op_rep)) ?_
  rintro v u H Q ⟨π, S, d, e, Qd, R, r1, r2, q, k⟩
  unfold dMul at q
  split at q
  · obtain rfl := r1.int_inv
    obtain rfl := r2.int_inv
    rcases q.1 with c | c
    · exact .inl ⟨_, _, rfl, rfl, c, k.here R (.int _) q.2⟩
    · exact .inr (.inl ⟨_, _, rfl, rfl, c, k.here R (.int _) q.2⟩)
  · obtain ⟨xs, g1, h1, h2, hz, q⟩ := q
    obtain ⟨a, rfl, i1, zs, e1, l1⟩ := R.here (getL_iff.mp g1) r1
    obtain rfl := r2.int_inv
    exact .inr (.inr ⟨a, _, zs, rfl, rfl, e1, h1, h2, by rw [← l1.length]; exact hz, fun p hp => k.lst R (l1.flat _) q hp⟩)
  · exact q.elim
theorem oDiv : OpR X (binaryOp .FloorDiv) (L2' B dDiv) := by
  refine OpR_imp (OpR.or op_fdiv op_fdivW) ?_
  rintro v u H Q ⟨π, S, d, e, Qd, R, r1, r2, q, k⟩
  unfold dDiv at q
  split at q
  · obtain rfl := r1.int_inv
    obtain rfl := r2.int_inv
    rcases q.1 with c | c
    · exact .inl ⟨_, _, rfl, rfl, c, k.here R (.int _) q.2⟩
    · exact .inr ⟨_, _, rfl, rfl, c, k.here R (.int _) q.2⟩
  · exact q.elim
theorem oMod : OpR X (binaryOp .Mod) (L2' B dMod) := by
  refine OpR_imp op_mod ?_
  rintro v u H Q ⟨π, S, d, e, Qd, R, r1, r2, q, k⟩
  unfold dMod at q
  split at q
  · obtain rfl := r1.int_inv
    obtain rfl := r2.int_inv
    exact ⟨_, _, rfl, rfl, q.1, k.here R (.int _) q.2⟩
  · exact q.elim
theorem oNeg : UnR X (unaryOp .USub) (L1 B dNeg) := by
  refine UnR_imp un_neg ?_
  rintro v H Q ⟨π, S, d, Qd, R, r1, q, k⟩
  unfold dNeg at q
  split at q
  · obtain rfl := r1.int_inv
    exact ⟨_, rfl, k.here R (.int _) q⟩
  · exact q.elim
theorem oCmpI {op : CmpOp} {p : Int → Int → Bool} (h : OpR X (compareOp op) (rI0 fun i j => .bl (p i j))) : OpR X (compareOp op) (L2' B (dCmpI p)) := by
  refine OpR_imp h ?_
  rintro v u H Q ⟨π, S, d, e, Qd, R, r1, r2, q, k⟩
  unfold dCmpI at q
  split at q
  · obtain rfl := r1.int_inv
    obtain rfl := r2.int_inv
    exact ⟨_, _, rfl, rfl, k.here R (.bl _) q⟩
  · exact q.elim
theorem oLt : OpR X (compareOp .Lt) (L2' B dLt) := oCmpI op_lt
theorem oLe : OpR X (compareOp .LtE) (L2' B dLe) := oCmpI op_le
theorem oGt : OpR X (compareOp .Gt) (L2' B dGt) := oCmpI op_gt
theorem isNon_rep {G : Cf} {π : List Addr} {H : Hp} {d : Dv} {v : V} (r : Rep G π H d v) : decide (v = V.non) = isNon d := by
  cases r <;> first | rfl | (exact decide_eq_false (by intro z; cases z))
theorem oIs : OpR X (compareOp .Is) (L2' B dIs) := by
  refine OpR_imp op_isN ?_
  rintro v u H Q ⟨π, S, d, e, Qd, R, r1, r2, q, k⟩
  unfold dIs at q
  split at q
  · obtain rfl := r2.non_inv
    exact ⟨rfl, by rw [isNon_rep r1]; exact k.here R (.bl _) q⟩
  · exact q.elim
theorem oIsNot : OpR X (compareOp .IsNot) (L2' B dIsNot) := by
  refine OpR_imp op_notN ?_
  rintro v u H Q ⟨π, S, d, e, Qd, R, r1, r2, q, k⟩
  unfold dIsNot at q
  split at q
  · obtain rfl := r2.non_inv
    exact ⟨rfl, by rw [isNon_rep r1]; exact k.here R (.bl _) q⟩
  · exact q.elim
end
mutual
def den (f : Nat → Option PyData) : Dv → Option PyData
  | .non => some .none
  | .bl b => some (.bool b)
  | .int i => some (.int i)
  | .str x => some (.str x)
  | .tup ds => (denL f ds).map .tuple
  | .fls ds => (denL f ds).map .list
  | .obj i => f i
  | .byt _ => none
  | .ty _ => none
  | .adr _ => none
def denL (f : Nat → Option PyData) : List Dv → Option (List PyData)
  | [] => some []
  | d :: ds => match den f d, denL f ds with
    | some x, some xs => some (x :: xs)
    | _, _ => none
end
def fO (S : Store) : Nat → Nat → Option PyData
  | 0, _ => none
  | n + 1, i => match getL S i with
    | some xs => (denL (fO S n) xs).map .list
    | none => none
section
variable {G : Cf} {π : List Addr} {H : Hp} {f : Nat → Option PyData}
mutual
theorem den_dp (hf : ∀ i d a, f i = some d → π[i]? = some a → Dp G.K H (.ref a) d) : ∀ {d : Dv} {v : V} {x : PyData}, Rep G π H d v → den f d = some x → Dp G.K H v x
  | _, _, _, .non, e => by cases e; exact .non
  | _, _, _, .bl b, e => by cases e; exact .bl b
  | _, _, _, .int i, e => by cases e; exact .int i
  | _, _, _, .str s, e => by cases e; exact .str s
  | _, _, _, .byt b, e => by cases e
  | _, _, _, .ty n, e => by cases e
  | _, _, _, .adr a, e => by cases e
  | _, _, _, .obj h, e => hf _ _ _ e h
  | _, _, _, .tup h r, e => by
    unfold den at e
    rw [Option.map_eq_some_iff] at e
    obtain ⟨xs, e1, rfl⟩ := e
    exact .tup h.sq (denL_dp hf r e1)
  | _, _, _, .fls h r, e => by
    unfold den at e
    rw [Option.map_eq_some_iff] at e
    obtain ⟨xs, e1, rfl⟩ := e
    exact .lst h.sq (denL_dp hf r e1)
theorem denL_dp (hf : ∀ i d a, f i = some d → π[i]? = some a → Dp G.K H (.ref a) d) : ∀ {ds : List Dv} {vs : List V} {xs : List PyData}, RepL G π H ds vs → denL f ds = some xs → DpAll G.K H vs xs
  | _, _, _, .nil, e => by cases e; exact .nil
  | _, _, _, .cons h t, e => by
    unfold denL at e
    split at e
    · rename_i x xs e1 e2
      cases e
      exact .cons (den_dp hf h e1) (denL_dp hf t e2)
    · cases e
end
theorem fO_dp {S : Store} (R : RepS G π H S) : ∀ (n : Nat) (i : Nat) (d : PyData) (a : Addr), fO S n i = some d → π[i]? = some a → Dp G.K H (.ref a) d
  | 0, _, _, _, e, _ => by cases e
  | n + 1, i, d, a, e, h => by
    unfold fO at e
    split at e
    · rename_i xs g
      rw [Option.map_eq_some_iff] at e
      obtain ⟨ys, e1, rfl⟩ := e
      obtain ⟨zs, h1, l⟩ := R.at_ i _ a (getL_iff.mp g) h
      exact .lst (SqL.of h1) (denL_dp (fO_dp R n) l e1)
    · cases e
end
/-- == of scalars, at once -/
def sEq : Dv → Dv → Option Bool
  | .int i, .int j => some (decide (i = j))
  | .str a, .str b => some (decide (a = b))
  | .bl a, .bl b => some (decide (a = b))
  | .byt a, .byt b => some (decide (a = b))
  | .non, .non => some true
  | .int _, .str _ => some false
  | .str _, .int _ => some false
  | .non, .int _ => some false
  | .int _, .non => some false
  | .non, .str _ => some false
  | .str _, .non => some false
  | _, _ => none
def dEq : RD2 := fun x y S Q => match sEq x y with
  | some b => Q (.bl b) S
  | none => ∃ dx dy, den (fO S 4) x = some dx ∧ den (fO S 4) y = some dy ∧ SeqAt.shaped dx = true ∧ SeqAt.shaped dy = true ∧ Q (.bl (PyData.eqv dx dy)) S
def dNe : RD2 := fun x y S Q => match sEq x y with
  | some b => Q (.bl (!b)) S
  | none => ∃ dx dy, den (fO S 4) x = some dx ∧ den (fO S 4) y = some dy ∧ SeqAt.shaped dx = true ∧ SeqAt.shaped dy = true ∧ Q (.bl (!PyData.eqv dx dy)) S
theorem sEq_rep {G : Cf} {π : List Addr} {H : Hp} {d e : Dv} {v u : V} {b : Bool} (r1 : Rep G π H d v) (r2 : Rep G π H e u) (h : sEq d e = some b) : scal v u = true ∧ decide (v = u) = b := by
  unfold sEq at h
  split at h
  all_goals first
    | (obtain rfl := r1.int_inv; obtain rfl := r2.int_inv; cases h; refine ⟨rfl, ?_⟩; rw [Bool.eq_iff_iff]; simp)
    | (obtain rfl := r1.str_inv; obtain rfl := r2.str_inv; cases h; refine ⟨rfl, ?_⟩; rw [Bool.eq_iff_iff]; simp)
    | (obtain rfl := r1.bl_inv; obtain rfl := r2.bl_inv; cases h; refine ⟨rfl, ?_⟩; rw [Bool.eq_iff_iff]; simp)
    | (obtain rfl := r1.byt_inv; obtain rfl := r2.byt_inv; cases h; refine ⟨rfl, ?_⟩; rw [Bool.eq_iff_iff]; simp)
    | (obtain rfl := r1.non_inv; obtain rfl := r2.non_inv; cases h; exact ⟨rfl, rfl⟩)
    | (obtain rfl := r1.int_inv; obtain rfl := r2.str_inv; cases h; exact ⟨rfl, rfl⟩)
    | (obtain rfl := r1.str_inv; obtain rfl := r2.int_inv; cases h; exact ⟨rfl, rfl⟩)
    | (obtain rfl := r1.non_inv; obtain rfl := r2.int_inv; cases h; exact ⟨rfl, rfl⟩)
    | (obtain rfl := r1.int_inv; obtain rfl := r2.non_inv; cases h; exact ⟨rfl, rfl⟩)
    | (obtain rfl := r1.non_inv; obtain rfl := r2.str_inv; cases h; exact ⟨rfl, rfl⟩)
    | (obtain rfl := r1.str_inv; obtain rfl := r2.non_inv; cases h; exact ⟨rfl, rfl⟩)
    | cases h
section
variable {X : Cx} {B : Bs}
theorem oEq (hK : B.G.K = X.K := by rfl) (hu : X.A.units + 64 < cLine) : OpR X (compareOp .Eq) (L2' B dEq) := by
  refine OpR_imp (OpR.or op_eq (op_eqD hu)) ?_
  rintro v u H Q ⟨π, S, d, e, Qd, R, r1, r2, q, k⟩
  unfold dEq at q
  split at q
  · rename_i b h
    obtain ⟨h1, h2⟩ := sEq_rep r1 r2 h
    exact .inl ⟨h1, by rw [h2]; exact k.here R (.bl _) q⟩
  · obtain ⟨dx, dy, e1, e2, s1, s2, q⟩ := q
    rw [← hK]
    exact .inr ⟨dx, dy, den_dp (fO_dp R 4) r1 e1, den_dp (fO_dp R 4) r2 e2, s1, s2, k.here R (.bl _) q⟩
theorem oNe (hK : B.G.K = X.K := by rfl) (hu : X.A.units + 64 < cLine) : OpR X (compareOp .NotEq) (L2' B dNe) := by
  refine OpR_imp (OpR.or op_ne (op_neD hu)) ?_
  rintro v u H Q ⟨π, S, d, e, Qd, R, r1, r2, q, k⟩
  unfold dNe at q
  split at q
  · rename_i b h
    obtain ⟨h1, h2⟩ := sEq_rep r1 r2 h
    exact .inl ⟨h1, by rw [h2]; exact k.here R (.bl _) q⟩
  · obtain ⟨dx, dy, e1, e2, s1, s2, q⟩ := q
    rw [← hK]
    exact .inr ⟨dx, dy, den_dp (fO_dp R 4) r1 e1, den_dp (fO_dp R 4) r2 e2, s1, s2, k.here R (.bl _) q⟩
end
end D3
set_option Elab.async false
set_option linter.all false
set_option maxRecDepth 100000
set_option maxHeartbeats 2000000
namespace D3
open PySem PySem.Spec PyProof.Rows L2
def flatD : Dv → Bool
  | .non => true
  | .bl _ => true
  | .int _ => true
  | .str _ => true
  | _ => false
def eqD : Dv → Dv → Bool
  | .non, .non => true
  | .bl a, .bl b => a == b
  | .bl a, .int b => (if a then 1 else 0) == b
  | .int a, .bl b => a == (if b then 1 else 0)
  | .int a, .int b => a == b
  | .str a, .str b => a == b
  | _, _ => false
def inD (x : Dv) (xs : List Dv) : Bool := xs.any fun y => eqD y x
def flatL : List Dv → Bool
  | [] => true
  | d :: ds => flatD d && flatL ds
/-- the items of a sequence -/
def seqOf (S : Store) : Dv → Option (List Dv)
  | .tup ds => some ds
  | .fls ds => some ds
  | .obj i => getL S i
  | _ => none
section
variable {G : Cf} {π : List Addr} {H : Hp} {S : Store}
theorem flat_rep {d : Dv} {v : V} (r : Rep G π H d v) (h : flatD d = true) : flatV v = true := by
  cases r <;> first | rfl | cases h
theorem eqD_rep {d e : Dv} {v u : V} (r1 : Rep G π H d v) (r2 : Rep G π H e u) (h1 : flatD d = true) (h2 : flatD e = true) : eqV v u = eqD d e := by
  cases r1 <;> first | (cases h1; done) | (cases r2 <;> first | rfl | (cases h2; done))
theorem flatL_rep : ∀ {ds : List Dv} {vs : List V}, RepL G π H ds vs → flatL ds = true → vs.all flatV = true
  | _, _, .nil, _ => rfl
  | _, _, .cons h t, e => by
    have e' : (flatD _ && flatL _) = true := e
    rw [Bool.and_eq_true] at e'
    rw [List.all_cons, flat_rep h e'.1, flatL_rep t e'.2]; rfl
theorem inD_rep {d : Dv} {v : V} (r : Rep G π H d v) (h : flatD d = true) : ∀ {ds : List Dv} {vs : List V}, RepL G π H ds vs → flatL ds = true → inV v vs = inD d ds
  | _, _, .nil, _ => rfl
  | _, _, .cons h1 t, e => by
    have e' : (flatD _ && flatL _) = true := e
    rw [Bool.and_eq_true] at e'
    have ih := inD_rep r h t e'.2
    show (eqV _ v || inV v _) = (eqD _ d || inD d _)
    rw [ih, eqD_rep h1 r e'.1 h]
/-- a sequence that is read -/
theorem seq_rep (R : RepS G π H S) {d : Dv} {v : V} {ds : List Dv} (r : Rep G π H d v) (h : seqOf S d = some ds) : ∃ a xs, v = .ref a ∧ (SqL G.K H a xs ∨ TpL G.K H a xs) ∧ RepL G π H ds xs := by
  cases r <;> first | (cases h; done) | skip
  · obtain ⟨a, e, _, xs, h1, l⟩ := R.here (getL_iff.mp h) (.obj ‹_›)
    cases e
    exact ⟨_, xs, rfl, .inl (SqL.of h1), l⟩
  · rename_i h1 l
    cases h
    exact ⟨_, _, rfl, .inr h1, l⟩
  · rename_i h1 l
    cases h
    exact ⟨_, _, rfl, .inl h1.sq, l⟩
end
def strIn (a b : Str) : Bool := !(Builtin.Str.occurrences b a 0 b.length 1).isEmpty
def dIn (neg : Bool) : RD2 := fun x y S Q => match x, y with
  | .str a, .str b => Q (.bl (if neg then !strIn a b else strIn a b)) S
  | x, y => ∃ ds, seqOf S y = some ds ∧ flatD x = true ∧ flatL ds = true ∧ Q (.bl (if neg then !inD x ds else inD x ds)) S
section
variable {X : Cx} {B : Bs}
theorem oIn (hK : B.G.K = X.K := by rfl) : OpR X (compareOp .In) (L2' B (dIn false)) := by
  refine OpR_imp (OpR.or op_in_str op_in_seq) ?_
  rintro v u H Q ⟨π, S, d, e, Qd, R, r1, r2, q, k⟩
  unfold dIn at q
  split at q
  · obtain rfl := r1.str_inv
    obtain rfl := r2.str_inv
    exact .inl ⟨_, _, rfl, rfl, k.here R (.bl _) q⟩
  · obtain ⟨ds, h, f1, f2, q⟩ := q
    obtain ⟨a, xs, rfl, hs, l⟩ := seq_rep R r2 h
    rw [hK] at hs
    refine .inr ⟨a, xs, rfl, hs.imp id TpL.sq, flat_rep r1 f1, flatL_rep l f2, ?_⟩
    have e := inD_rep r1 f1 l f2
    simp only [Bool.false_eq_true, if_false] at q ⊢
    rw [e]
    exact k.here R (.bl _) q
theorem oNotIn (hK : B.G.K = X.K := by rfl) : OpR X (compareOp .NotIn) (L2' B (dIn true)) := by
  refine OpR_imp (OpR.or op_notIn_str op_notIn_seq) ?_
  rintro v u H Q ⟨π, S, d, e, Qd, R, r1, r2, q, k⟩
  unfold dIn at q
  split at q
  · obtain rfl := r1.str_inv
    obtain rfl := r2.str_inv
    exact .inl ⟨_, _, rfl, rfl, k.here R (.bl _) q⟩
  · obtain ⟨ds, h, f1, f2, q⟩ := q
    obtain ⟨a, xs, rfl, hs, l⟩ := seq_rep R r2 h
    rw [hK] at hs
    refine .inr ⟨a, xs, rfl, hs.imp id TpL.sq, flat_rep r1 f1, flatL_rep l f2, ?_⟩
    have e := inD_rep r1 f1 l f2
    simp only [if_true] at q ⊢
    rw [e]
    exact k.here R (.bl _) q
end
def dIx : RD2 := fun x y S Q => match x, y with
  | .str z, .int i => ∃ c, z.length ≤ sizeLine ∧ atI z.cps.toList i = some c ∧ Q (.str ⟨#[c]⟩) S
  | x, .int i => ∃ ds d, seqOf S x = some ds ∧ atI ds i = some d ∧ Q d S
  | _, _ => False
theorem atI_rep {G : Cf} {π : List Addr} {H : Hp} {ds : List Dv} {vs : List V} (l : RepL G π H ds vs) {i : Int} {d : Dv} (h : atI ds i = some d) : ∃ v, atI vs i = some v ∧ Rep G π H d v := by
  unfold atI at h ⊢
  rw [← l.length]
  cases e : ixN ds.length i with
  | none => rw [e] at h; cases h
  | some j =>
    rw [e] at h
    exact l.get h
section
variable {X : Cx} {B : Bs} {a b : Expr} {ta tb : TEd} {pos : Pos}
theorem oIx (hK : B.G.K = X.K := by rfl) : IxR X (L2' B dIx) := by
  intro value slice pins s σ H x y v u Q I rx ry q hs
  refine ix_seq value slice pins s σ H x y v u Q I rx ry ?_ hs
  obtain ⟨π, S, d, e, Qd, R, r1, r2, q, k⟩ := q
  unfold dIx at q
  split at q
  · obtain rfl := r1.str_inv
    obtain rfl := r2.int_inv
    obtain ⟨c, hz, h, q⟩ := q
    exact .inr (.inr ⟨_, _, c, rfl, rfl, hz, h, k.here R (.str _) q⟩)
  · obtain rfl := r2.int_inv
    obtain ⟨ds, d, h, h2, q⟩ := q
    obtain ⟨a, xs, rfl, hs, l⟩ := seq_rep R r1 h
    obtain ⟨w, h3, rw'⟩ := atI_rep l h2
    rw [hK] at hs
    rcases hs with hs | hs
    · exact .inl ⟨a, xs, _, w, rfl, rfl, hs, h3, k.here R rw' q⟩
    · exact .inr (.inl ⟨a, xs, _, w, rfl, rfl, hs.sq, h3, k.here R rw' q⟩)
  · exact q.elim
theorem pIx {r : RD2} (hr : IxR X (L2' B r)) (ha : PE X a (LE B ta)) (hb : PE X b (LE B tb)) (hs : PlainIx b := by first | exact fun _ _ => rfl | intro _ _; rfl) : PE X (.Subscript a b pos) (LE B (eOp r ta tb)) := PE_imp (pe_ix hr ha hb hs) (LE_op ta tb)
end
abbrev TOd := Sl → Store → (Option Int → Store → Prop) → Prop
def LO (B : Bs) (td : TOd) : TO := fun σ H Q => ∃ π S σd Qd, Rs B π H S σd σ ∧ td σd S Qd ∧ ∀ π' H' S' o, Ext B.G π H π' H' → RepS B.G π' H' S' → Qd o S' → Q o H'
def oNo : TOd := fun _ S Q => Q none S
def oSome (t : TEd) : TOd := fun σ S Q => t σ S fun x S1 => ∃ i, x = .int i ∧ Q (some i) S1
def cutD {α : Type} (xs : List α) (lo hi : Option Int) : List α := (xs.drop (HT.sIx xs.length 0 lo)).take (HT.sIx xs.length xs.length hi - HT.sIx xs.length 0 lo)
abbrev RSl := Dv → Option Int → Option Int → Store → KD → Prop
def dSlice : RSl := fun x lo hi S Q => match x with
  | .str z => z.length ≤ sizeLine ∧ Q (.str (cutS z lo hi)) S
  | .tup ds => Q (.tup (cutD ds lo hi)) S
  | .fls ds => Q (.obj S.length) (S ++ [.lst (cutD ds lo hi)])
  | .obj i => ∃ ds, getL S i = some ds ∧ Q (.obj S.length) (S ++ [.lst (cutD ds lo hi)])
  | _ => False
def LSl (B : Bs) (r : RSl) : V → Option Int → Option Int → Hp → VK → Prop := fun v lo hi H Q => ∃ π S d Qd, RepS B.G π H S ∧ Rep B.G π H d v ∧ r d lo hi S Qd ∧ KV' B π H Qd Q
def eSl (r : RSl) (t : TEd) (tl th : TOd) : TEd := fun σ S Q => t σ S fun x S1 => tl σ S1 fun l S2 => th σ S2 fun u S3 => r x l u S3 Q
theorem SlR_imp {X : Cx} {r r' : V → Option Int → Option Int → Hp → VK → Prop} (h : SlR X r) (k : ∀ x lo hi H Q, r' x lo hi H Q → r x lo hi H Q) : SlR X r' := fun pins s σ H x v vl vu lo hi sl Q I rx hs pl pu q => h pins s σ H x v vl vu lo hi sl Q I rx hs pl pu (k _ _ _ _ _ q)
theorem cut_rep {G : Cf} {π : List Addr} {H : Hp} {ds : List Dv} {vs : List V} (l : RepL G π H ds vs) (lo hi : Option Int) : RepL G π H (cutD ds lo hi) (cutV vs lo hi) := by
  unfold cutD cutV
  rw [← l.length]
  exact (l.drop _).take _
theorem cutD_whole {α : Type} {xs : List α} {lo hi : Option Int} (h : HT.sIx xs.length 0 lo = 0 ∧ HT.sIx xs.length xs.length hi = xs.length) : cutD xs lo hi = xs := by
  unfold cutD
  rw [h.1, h.2, List.drop_zero, Nat.sub_zero, List.take_length]
section
variable {X : Cx} {B : Bs} {e : Expr} {te : TEd} {lo hi : Option Expr} {tl th : TOd} {pos p2 : Pos}
theorem poNo : PO X none (LO B oNo) := ⟨fun pins s σ H Q I h => (po_none (X := X)).run pins s σ H Q I (by
  obtain ⟨π, S, σd, Qd, R, q, k⟩ := h
  exact k π H S none (Ext.refl _ _ _) R.sto q)⟩
theorem poSome (h : PE X e (LE B te)) : PO X (some e) (LO B (oSome te)) := ⟨fun pins s σ H Q I q => (po_some h).run pins s σ H Q I (by
  obtain ⟨π, S, σd, Qd, R, q, k⟩ := q
  refine ⟨π, S, σd, _, R, q, fun π1 H1 S1 x v e1 R1 rx q => ?_⟩
  obtain ⟨i, rfl, q⟩ := q
  obtain rfl := rx.int_inv
  exact ⟨i, rfl, k π1 H1 S1 _ e1 R1 q⟩)⟩
theorem oSlice (hK : B.G.K = X.K := by rfl) : SlR X (LSl B dSlice) := by
  refine SlR_imp (SlR.or sl_str (SlR.or (sl_tupA (X := X)) sl_list)) ?_
  rintro v lo hi H Q ⟨π, S, d, Qd, R, r1, q, k⟩
  unfold dSlice at q
  split at q
  · obtain rfl := r1.str_inv
    exact .inl ⟨_, rfl, q.1, k.here R (.str _) q.2⟩
  · obtain ⟨a, xs, rfl, hs, l⟩ := r1.tup_inv
    refine .inr (.inl ⟨a, xs, rfl, by rw [← hK]; exact hs.sq, fun z => ?_, fun z p hp => k.tup R (cut_rep l lo hi) q hp⟩)
    rw [← l.length] at z
    rw [cutD_whole z] at q
    exact k.here R (.tup hs l) q
  · obtain ⟨a, xs, rfl, hs, l⟩ := r1.fls_inv
    exact .inr (.inr ⟨a, xs, rfl, by rw [← hK]; exact hs.sq, fun p hp => k.lst R (cut_rep l lo hi) q hp⟩)
  · obtain ⟨ds, g, q⟩ := q
    obtain ⟨a, rfl, i1, zs, h1, l⟩ := R.here (getL_iff.mp g) r1
    exact .inr (.inr ⟨a, zs, rfl, SqL.of h1, fun p hp => k.lst R (cut_rep l lo hi) q hp⟩)
  · exact q.elim
theorem pSl {r : RSl} (hr : SlR X (LSl B r)) (he : PE X e (LE B te)) (hl : PO X lo (LO B tl)) (hu : PO X hi (LO B th)) : PE X (.Subscript e (.Slice lo hi none p2) pos) (LE B (eSl r te tl th)) := PE_imp (pe_slice hr he hl hu) (by
  rintro σ H Q ⟨π, S, σd, Qd, R, h, k⟩
  refine ⟨π, S, σd, _, R, h, fun π1 H1 S1 x v e1 R1 rx q => ?_⟩
  refine ⟨π1, S1, σd, _, R.to e1 R1, q, fun π2 H2 S2 l e2 R2 q => ?_⟩
  refine ⟨π2, S2, σd, _, R.to (e1.trans e2) R2, q, fun π3 H3 S3 u e3 R3 q => ?_⟩
  exact ⟨π3, S3, x, Qd, R3, rx.mono (e2.trans e3), q, k.to (e1.trans (e2.trans e3))⟩)
end
def dLen : RDs := fun xs S Q => match xs with
  | [.str z] => z.length ≤ sizeLine ∧ Q (.int z.length) S
  | [.byt z] => z.size ≤ sizeLine ∧ Q (.int z.size) S
  | [x] => ∃ ds, seqOf S x = some ds ∧ Q (.int ds.length) S
  | _ => False
def b2i' (k : Bool) : Int := if k then 1 else 0
def dInt : RDs := fun xs S Q => match xs with
  | [.int i] => Q (.int i) S
  | [.bl k] => Q (.int (b2i' k)) S
  | [.str a] => ∃ n, PySem.intText? a = some n ∧ a.length ≤ 640 ∧ Q (.int n) S
  | _ => False
def dAbs : RDs := fun xs S Q => match xs with
  | [.int i] => Q (.int (if i < 0 then -i else i)) S
  | _ => False
def dMax : RDs := fun xs S Q => match xs with
  | [.int i, .int j] => Q (.int (if j > i then j else i)) S
  | _ => False
def dMin : RDs := fun xs S Q => match xs with
  | [.int i, .int j] => Q (.int (if j < i then j else i)) S
  | _ => False
def dList : RDs := fun xs S Q => match xs with
  | [x] => ∃ ds, seqOf S x = some ds ∧ Q (.obj S.length) (S ++ [.lst ds])
  | _ => False
def dTuple : RDs := fun xs S Q => match xs with
  | [x] => ∃ ds, seqOf S x = some ds ∧ Q (.tup ds) S
  | _ => False
def intsOf : List Dv → Option (List Int)
  | [] => some []
  | .int i :: r => (intsOf r).map (i :: ·)
  | _ :: _ => none
def blsOf : List Dv → Option (List Bool)
  | [] => some []
  | .bl i :: r => (blsOf r).map (i :: ·)
  | _ :: _ => none
def dSum : RDs := fun xs S Q => match xs with
  | [.obj i] => ∃ ds ns, getL S i = some ds ∧ intsOf ds = some ns ∧ Q (.int ns.sum) S
  | _ => False
def dAll : RDs := fun xs S Q => match xs with
  | [.obj i] => ∃ ds bs, getL S i = some ds ∧ blsOf ds = some bs ∧ Q (.bl (bs.all id)) S
  | _ => False
def dAny : RDs := fun xs S Q => match xs with
  | [.obj i] => ∃ ds bs, getL S i = some ds ∧ blsOf ds = some bs ∧ Q (.bl (bs.any id)) S
  | _ => False
def dOrd : RDs := fun xs S Q => match xs with
  | [.str x] => x.length = 1 ∧ Q (.int (x.cps.getD 0 0 : Nat)) S
  | _ => False
def dStrI : RDs := fun xs S Q => match xs with
  | [.int i] => i.natAbs.log2 < 1920 ∧ Q (.str (toString i)) S
  | _ => False
section
variable {G : Cf} {π : List Addr} {H : Hp}
theorem ints_rep : ∀ {ds : List Dv} {vs : List V} {ns : List Int}, RepL G π H ds vs → intsOf ds = some ns → vs = ns.map V.int
  | _, _, _, .nil, e => by cases e; rfl
  | _, _, _, .cons h t, e => by
    cases h <;> first | (cases e; done) | skip
    rename_i i
    have e' : (intsOf _).map (i :: ·) = some _ := e
    rw [Option.map_eq_some_iff] at e'
    obtain ⟨ms, e1, rfl⟩ := e'
    rw [ints_rep t e1]
    rfl
theorem bls_rep : ∀ {ds : List Dv} {vs : List V} {ns : List Bool}, RepL G π H ds vs → blsOf ds = some ns → vs = ns.map V.bl
  | _, _, _, .nil, e => by cases e; rfl
  | _, _, _, .cons h t, e => by
    cases h <;> first | (cases e; done) | skip
    rename_i i
    have e' : (blsOf _).map (i :: ·) = some _ := e
    rw [Option.map_eq_some_iff] at e'
    obtain ⟨ms, e1, rfl⟩ := e'
    rw [bls_rep t e1]
    rfl
end
theorem intsOf_map : ∀ ns : List Int, intsOf (ns.map Dv.int) = some ns
  | [] => rfl
  | n :: r => by show (intsOf (r.map Dv.int)).map (n :: ·) = _; rw [intsOf_map r]; rfl
section
variable {X : Cx} {B : Bs}
theorem kLen (hK : B.G.K = X.K := by rfl) : CallR X (.builtin "len") (LC B dLen) := by
  refine CallR_imp call_len ?_
  rintro vs H Q ⟨π, S, ds, Qd, R, r, q, k⟩
  unfold dLen at q
  split at q
  · obtain ⟨v, rfl, r1⟩ := r.one_inv
    obtain rfl := r1.str_inv
    exact ⟨_, _, rfl, ⟨q.1, rfl⟩, k.here R (.int _) q.2⟩
  · obtain ⟨v, rfl, r1⟩ := r.one_inv
    obtain rfl := r1.byt_inv
    exact ⟨_, _, rfl, ⟨q.1, rfl⟩, k.here R (.int _) q.2⟩
  · obtain ⟨v, rfl, r1⟩ := r.one_inv
    obtain ⟨ds, h, q⟩ := q
    obtain ⟨a, xs, rfl, hs, l⟩ := seq_rep R r1 h
    rw [hK] at hs
    refine ⟨_, xs.length, rfl, ?_, by rw [← l.length]; exact k.here R (.int _) q⟩
    rcases hs with hs | hs
    · exact .inl ⟨xs, hs, rfl⟩
    · exact .inr ⟨xs, hs.sq, rfl⟩
  · exact q.elim
theorem kInt : CallR X (.type "int") (LC B dInt) := by
  refine CallR_imp (CallR.or call_int1 call_int_str) ?_
  rintro vs H Q ⟨π, S, ds, Qd, R, r, q, k⟩
  unfold dInt at q
  split at q
  · obtain ⟨v, rfl, r1⟩ := r.one_inv
    obtain rfl := r1.int_inv
    exact .inl (.inl ⟨_, rfl, k.here R (.int _) q⟩)
  · obtain ⟨v, rfl, r1⟩ := r.one_inv
    obtain rfl := r1.bl_inv
    exact .inl (.inr ⟨_, rfl, k.here R (.int _) q⟩)
  · obtain ⟨v, rfl, r1⟩ := r.one_inv
    obtain rfl := r1.str_inv
    obtain ⟨n, h1, h2, q⟩ := q
    exact .inr ⟨_, n, rfl, h1, h2, k.here R (.int _) q⟩
  · exact q.elim
theorem kMax (hc : X.calm = true) : CallR X (.builtin "max") (LC B dMax) := by
  refine CallR_imp (call_max2 hc) ?_
  rintro vs H Q ⟨π, S, ds, Qd, R, r, q, k⟩
  unfold dMax at q
  split at q
  · obtain ⟨v, u, rfl, r1, r2⟩ := r.two_inv
    obtain rfl := r1.int_inv
    obtain rfl := r2.int_inv
    exact ⟨_, _, rfl, k.here R (.int _) q⟩
  · exact q.elim
theorem kList (hK : B.G.K = X.K := by rfl) : CallR X (.type "list") (LC B dList) := by
  refine CallR_imp call_list_of ?_
  rintro vs H Q ⟨π, S, ds, Qd, R, r, q, k⟩
  unfold dList at q
  split at q
  · obtain ⟨v, rfl, r1⟩ := r.one_inv
    obtain ⟨ds, h, q⟩ := q
    obtain ⟨a, xs, rfl, hs, l⟩ := seq_rep R r1 h
    rw [hK] at hs
    exact ⟨a, xs, rfl, hs.imp id TpL.sq, fun p hp => k.lst R l q hp⟩
  · exact q.elim
theorem kTuple (hK : B.G.K = X.K := by rfl) : CallR X (.type "tuple") (LC B dTuple) := by
  refine CallR_imp call_tuple_of ?_
  rintro vs H Q ⟨π, S, ds, Qd, R, r, q, k⟩
  unfold dTuple at q
  split at q
  · obtain ⟨v, rfl, r1⟩ := r.one_inv
    obtain ⟨ds, h, q⟩ := q
    obtain ⟨a, xs, rfl, hs, l⟩ := seq_rep R r1 h
    rcases hs with hs | hs
    · rw [hK] at hs
      exact ⟨a, xs, rfl, .inl ⟨hs, fun p hp => k.tup R l q hp⟩⟩
    · have rt : Rep B.G π H (.tup ds) (.ref a) := .tup hs l
      rw [hK] at hs
      exact ⟨a, xs, rfl, .inr ⟨hs.sq, k.here R rt q⟩⟩
  · exact q.elim
theorem kSum (hc : X.calm = true) : CallR X (.builtin "sum") (LC B dSum) := by
  refine CallR_imp (cr_sum hc) ?_
  rintro vs H Q ⟨π, S, ds, Qd, R, r, q, k⟩
  unfold dSum at q
  split at q
  · obtain ⟨v, rfl, r1⟩ := r.one_inv
    obtain ⟨ds, ns, g, e, q⟩ := q
    obtain ⟨a, rfl, i1, zs, h1, l⟩ := R.here (getL_iff.mp g) r1
    rw [ints_rep l e] at h1
    exact ⟨a, ns, rfl, SqL.of h1, k.here R (.int _) q⟩
  · exact q.elim
theorem kAll (hc : X.calm = true) : CallR X (.builtin "all") (LC B dAll) := by
  refine CallR_imp (cr_all hc) ?_
  rintro vs H Q ⟨π, S, ds, Qd, R, r, q, k⟩
  unfold dAll at q
  split at q
  · obtain ⟨v, rfl, r1⟩ := r.one_inv
    obtain ⟨ds, ns, g, e, q⟩ := q
    obtain ⟨a, rfl, i1, zs, h1, l⟩ := R.here (getL_iff.mp g) r1
    rw [bls_rep l e] at h1
    exact ⟨a, ns, rfl, SqL.of h1, k.here R (.bl _) q⟩
  · exact q.elim
variable {e : Expr} {es : List Expr} {t : TAd} {x : Str} {p pos : Pos} {r : RDs} {id T : String}
theorem LE_args (t : TAd) : ∀ σ H Q, LE B (eArgs r t) σ H Q → tCB (LC B r) (LA B t) σ H Q := by
  rintro σ H Q ⟨π, S, σd, Qd, R, h, k⟩
  exact ⟨π, S, σd, _, R, h, fun π1 H1 S1 ys us e1 R1 ry q => ⟨π1, S1, ys, Qd, R1, ry, q, k.to e1⟩⟩
theorem pB (hc : CallR X (.builtin id) (LC B r)) (hg : Gl X x) (hm : X.mg x = none) (hv : bootBuiltins x = some (.builtin id)) (ha : PA X (e :: es) (LA B t)) (hn : x ≠ "__name__" := by decide) (hdb : (x == ("__debug__" : Str)) = false := by decide)
    (he : starEach (e :: es) X.env = (false, eval e X.env) :: starEach es X.env := by rfl) (hpl : (backTo pos (starEach es X.env)).any (·.1) = false := by rfl) : PE X (.Call (.Name x p) (e :: es) [] pos) (LE B (eArgs r t)) := PE_imp (pe_callB hc hg hm hv ha hn hdb he hpl) (LE_args t)
theorem pBT (hc : CallR X (.type T) (LC B r)) (hg : Gl X x) (hm : X.mg x = none) (hv : bootBuiltins x = some (.type T)) (ha : PA X (e :: es) (LA B t)) (hn : x ≠ "__name__" := by decide) (hdb : (x == ("__debug__" : Str)) = false := by decide)
    (he : starEach (e :: es) X.env = (false, eval e X.env) :: starEach es X.env := by rfl) (hpl : (backTo pos (starEach es X.env)).any (·.1) = false := by rfl) : PE X (.Call (.Name x p) (e :: es) [] pos) (LE B (eArgs r t)) := PE_imp (pe_callTy hc hg hm hv ha hn hdb he hpl) (LE_args t)
end
def tyOf (S : Store) : Dv → Option String
  | .non => some "NoneType"
  | .bl _ => some "bool"
  | .int _ => some "int"
  | .str _ => some "str"
  | .byt _ => some "bytes"
  | .tup _ => some "tuple"
  | .fls _ => some "list"
  | .obj i => match S[i]? with
    | some (.lst _) => some "list"
    | some (.dk _) => some "dict"
    | some (.ldk _) => some "dict"
    | _ => none
  | .ty _ => none
  | .adr _ => none
def isB (a b : String) : Bool := a == b || (a == "bool" && b == "int")
def isTy (c : String) : Bool := c == "str" || c == "int" || c == "bool" || c == "tuple" || c == "list" || c == "dict"
def dIsi : RDs := fun xs S Q => match xs with
  | [x, .ty c] => ∃ t, tyOf S x = some t ∧ isTy c = true ∧ Q (.bl (isB t c)) S
  | [x, .tup [.ty c, .ty c']] => ∃ t, tyOf S x = some t ∧ isTy c = true ∧ isTy c' = true ∧ Q (.bl (isB t c || isB t c')) S
  | _ => False
theorem kit_all : ∀ t ∈ ["NoneType", "bool", "int", "str", "bytes", "tuple", "list", "dict"], ∀ c ∈ ["str", "int", "bool", "tuple", "list", "dict"], kitB t c = some (isB t c) := by decide +kernel
theorem tyOf_mem {S : Store} {d : Dv} {t : String} (h : tyOf S d = some t) : t ∈ ["NoneType", "bool", "int", "str", "bytes", "tuple", "list", "dict"] := by
  unfold tyOf at h
  split at h
  all_goals first | (cases h; decide) | skip
  split at h
  all_goals first | (cases h; decide) | cases h
theorem isTy_mem {c : String} (h : isTy c = true) : c ∈ ["str", "int", "bool", "tuple", "list", "dict"] := by
  unfold isTy at h
  simp only [Bool.or_eq_true, beq_iff_eq] at h
  rcases h with ((((rfl | rfl) | rfl) | rfl) | rfl) | rfl <;> decide
theorem kit_isB {K : PySem.W.Frag} {S : Store} {d : Dv} {t c : String} (h : tyOf S d = some t) (hc : isTy c = true) : PySem.W.kitOne K (.type t) (.type c) = some (isB t c) := kit_ty (kit_all t (tyOf_mem h) c (isTy_mem hc))
theorem tyX_rep {G : Cf} {π : List Addr} {H : Hp} {S : Store} (R : RepS G π H S) {d : Dv} {v : V} {t : String} (r : Rep G π H d v) (h : tyOf S d = some t) : TyX G.K H v (.type t) := by
  cases r
  · cases h; exact .base .non
  · cases h; exact .base (.bl _)
  · cases h; exact .base (.int _)
  · cases h; exact .base (.str _)
  · cases h; exact .byt _
  · cases h
  · cases h
  · rename_i i a hi
    unfold tyOf at h
    simp only at h
    split at h
    · rename_i ds g
      cases h
      obtain ⟨xs, h1, _⟩ := R.at_ _ _ _ g hi
      exact .base (.lst h1)
    · rename_i ds g
      cases h
      obtain ⟨xs, h1, _⟩ := R.at_ _ _ _ g hi
      exact .base (.dK h1)
    · rename_i ds g
      cases h
      obtain ⟨xs, ⟨_, h1⟩, _⟩ := R.at_ _ _ _ g hi
      exact .fDict h1
    · cases h
  · rename_i h1 _
    cases h
    rcases h1 with h1 | ⟨o, its, n, h1, h2, _⟩
    · exact .base (.tup h1)
    · exact .kTuple h1 h2
  · rename_i h1 _
    cases h
    rcases h1 with ⟨o, h1⟩ | ⟨o, its, n, h1, h2, _⟩
    · exact .base (.frz h1)
    · exact .kList h1 h2
section
variable {X : Cx} {B : Bs}
theorem kIsi (hK : B.G.K = X.K := by rfl) : CallR X (.builtin "isinstance") (LC B dIsi) := by
  refine CallR_imp (CallR.or call_isi (CallR.or call_isiT call_isiK)) ?_
  rintro vs H Q ⟨π, S, ds, Qd, R, r, q, k⟩
  unfold dIsi at q
  split at q
  · obtain ⟨v, u, rfl, r1, r2⟩ := r.two_inv
    obtain rfl := r2.ty_inv
    obtain ⟨t, h, hc, q⟩ := q
    have ty := tyX_rep R r1 h
    rw [hK] at ty
    exact .inl ⟨v, _, .type t, _, _, rfl, .ty _, ty, kit_isB h hc, k.here R (.bl _) q⟩
  · obtain ⟨v, u, rfl, r1, r2⟩ := r.two_inv
    obtain ⟨t, h, hc, hc', q⟩ := q
    have ty := tyX_rep R r1 h
    rw [hK] at ty
    obtain ⟨tp, xs, rfl, hs, l⟩ := r2.tup_inv
    obtain ⟨v1, v2, rfl, l1, l2⟩ := l.two_inv
    obtain rfl := l1.ty_inv
    obtain rfl := l2.ty_inv
    rename_i x c c'
    have ka : PySem.W.kitAny X.K (.type t) [.type c, .type c'] = some (isB t c || isB t c') := by
      refine kitAny_cons (kit_isB h hc) (fun e => ?_) (fun e => by rw [e]; rfl)
      refine kitAny_cons (kit_isB h hc') (fun e' => ?_) (fun e' => by rw [e']; exact Bool.or_true _)
      rw [kitAny_nil, e, e']; rfl
    rcases hs with hs | ⟨o, its, n, h1, h2, h3, h4, h5⟩
    · exact .inr (.inl ⟨v, tp, _, .type t, _, _, rfl, hs, .cons (.ty _) (.cons (.ty _) .nil), ty, ka, k.here R (.bl _) q⟩)
    · obtain ⟨u1, u2, e5, q1, q2⟩ := vals2 h5
      have q1' : u1 = .type c := q1
      have q2' : u2 = .type c' := q2
      obtain ⟨cl, dd, da, sl⟩ := o
      simp only at h2 h3
      subst h2
      subst h3
      refine .inr (.inr ⟨v, tp, dd, [.type c, .type c'], n, sl, .type t, _, rfl, ?_, ty, ka, k.here R (.bl _) q⟩)
      rw [hK] at h1
      rw [h1, ← Array.toArray_toList (xs := its), e5, q1', q2']
  · exact q.elim
end
end D3
set_option Elab.async false
set_option linter.all false
set_option maxRecDepth 100000
set_option maxHeartbeats 2000000
namespace D3
open PySem PySem.Spec PyProof.Rows L2
/-- a list (true) or a tuple (false) that is read -/
def SqK (K : PySem.W.Frag) (k : Bool) (H : Hp) (a : Addr) (xs : List V) : Prop := if k = true then SqL K H a xs else SqT K H a xs
def tnI (k : Bool) (it a : Addr) (i : Nat) (h : Heap) : Prop := if k = true then h.IsListIter it a i else h.IsTupleIter it a i
def isK (k : Bool) (h : Heap) (a : Addr) (its : Array Value) : Prop := if k = true then h.IsList a its else h.IsTuple a its
def itO (k : Bool) (a : Addr) : Obj := if k = true then { cls := .type "list_iterator", data := .fields #[.ref a, .int 0 0] } else { cls := .type "tuple_iterator", data := .fields #[.ref a, .int 0 0] }
theorem beginsK (k : Bool) (a : Addr) (its : Array Value) : Begins (.ref a) (itO k a) fun h => isK k h a its := by
  cases k
  · exact begins_tuple a its
  · exact begins_list a its
theorem drawsK {prog : Program} {w : World} {A : Around} (hh : A.handled = none) (k : Bool) (it a : Addr) (hne : a ≠ it) (its : Array Value) :
    Draws prog w A it [it, a] its.size (fun i v => its[i]? = some v) (fun i h => tnI k it a i h ∧ isK k h a its) := by
  cases k
  · exact Draws.tuple hh it a hne its
  · exact Draws.list hh it a hne its
theorem tnI.there {k : Bool} {it a : Addr} {i : Nat} {h : Heap} (x : tnI k it a i h) : ∃ o, h.get? it = some o ∧ ∀ v, o.data ≠ .cell v := by
  cases k
  · obtain ⟨o, e, _, d⟩ := x; exact ⟨o, e, fun v q => by rw [d] at q; cases q⟩
  · obtain ⟨o, e, _, d⟩ := x; exact ⟨o, e, fun v q => by rw [d] at q; cases q⟩
theorem tnI.keep {k : Bool} {it a : Addr} {i : Nat} {h h' : Heap} (x : tnI k it a i h) (q : ∀ o, h.get? it = some o → h'.get? it = some o) : tnI k it a i h' := by
  cases k
  · exact Heap.IsTupleIter.at x fun o e => q o e
  · exact Heap.IsListIter.at x fun o e => q o e
theorem tnI.zero {k : Bool} {it a : Addr} {h : Heap} (e : h.get? it = some (itO k a)) : tnI k it a 0 h := by
  cases k
  · exact ⟨_, e, rfl, rfl⟩
  · exact ⟨_, e, rfl, rfl⟩
section
variable {X : Cx} {pins : List (Addr × Obj)} {σ : L2.St} {H : Hp} {s : Shared} {k : Bool} {a : Addr} {xs ys : List V}
theorem seqK (I : Inv X pins σ H s) (h : SqK X.K k H a xs) : ∃ its : List Value, Vals xs its ∧ isK k s.heap a its.toArray ∧ a < s.heap.objs.size := by
  cases k
  · obtain ⟨its, rv, p, _⟩ := I.tuple h
    obtain ⟨o, e, _⟩ := id p
    exact ⟨its, rv, p, Heap.lt_size e⟩
  · obtain ⟨its, rv, p, _⟩ := I.list h
    exact ⟨its, rv, p.isList, p.lt⟩
theorem seqK_inj (I : Inv X pins σ H s) (h : SqK X.K k H a xs) (h' : SqK X.K k H a ys) : xs = ys := by
  cases k
  · exact I.tuple_inj h h'
  · exact I.list_inj h h'
end
/-- one turn of something that goes by GoesN: its value a new tuple -/
theorem turnN {P : Program} {w : World} {K : PySem.W.Frag} {tg : Expr} (it : Addr) (fp : List Addr) (J : It) (tn : Nat → Heap → Prop) (mem : it ∈ fp)
    (obj : ∀ i h, tn i h → ∀ b ∈ fp, ∃ o, h.get? b = some o ∧ ∀ v, o.data ≠ .cell v)
    (keep : ∀ i h h', tn i h → (∀ b ∈ fp, ∀ o, h.get? b = some o → h'.get? b = some o) → tn i h')
    (self : ∀ (A : Around) (i : Nat) (s : Shared) (Q : Value → Shared → Prop) (E : Value → Shared → Prop), tn i s.heap → Q (.ref it) s → wpAny (model P w) A (pyIter (.ref it)) Q E s)
    (go : ∀ (X : Cx), X.prog = P → X.w = w → X.K = K → X.calm = true → ∀ (i : Nat) (pins : List (Addr × Obj)) (s : Shared) (σ : L2.St) (H : Hp), Inv X pins σ H s → (∀ b ∈ fp, FpOk X pins H b) → tn i s.heap → (J.go i H ∨ J.stop i H) →
      ∃ (fp' wr : List Addr) (n : Nat) (Y : Nat → Heap → Value → Heap → Prop) (St : Nat → Heap → Prop), GoesN P w X.A tg it fp' wr n Y St ∧ St i s.heap ∧ (∀ b ∈ wr, b ∈ fp) ∧ (J.go i H → i < n) ∧ (J.stop i H → i = n) ∧ (∀ h', St (i + 1) h' → tn (i + 1) h') ∧
        ∀ v h', Y i s.heap v h' → ∃ T xs us, v = .ref T ∧ s.heap.objs.size ≤ T ∧ h'.IsTuple T (us : List Value).toArray ∧ Vals xs us ∧ xs.length ≤ sizeLine ∧ (H T = none → J.yld i H (.ref T) (upd H T (.tup xs)))) :
    Turn P w K tg J fp it tn where
  mem := mem
  obj := obj
  keep := keep
  item := by
    intro X hP hw hK hc i pins s σ H E I hf st hg
    obtain ⟨fp', wr, n, Y, St, W, hst, sub, hi, _, ht, hy⟩ := go X hP hw hK hc i pins s σ H I hf st (.inl hg)
    refine thn (W.goes i s (fun v s₂ => ∃ x H', Inv X pins σ H' s₂ ∧ RelV x v ∧ J.yld i H x H' ∧ tn (i + 1) s₂.heap ∧ ∀ b ∈ fp, H' b = none) E (hi hg) hst fun v h' tk q st' kp _ => ?_) fun r s1 ⟨v, e, q⟩ => ⟨v, e, q⟩
    obtain ⟨T, xs, us, rfl, hT, it', rv, hz, yl⟩ := hy v h' q
    have hn : H T = none := I.hok.fresh hT
    have new : ObjOk X.prog X.w (upd H T (.tup xs)) h' T (.tup xs) := ⟨hz, us, rv, it'⟩
    refine ⟨.ref T, _, I.turnedNew (ch := wr) kp (fun b hb => hf b (sub b hb)) hT new, rfl, yl hn, ht h' st', fun b hb => ?_⟩
    obtain ⟨o, e, _⟩ := obj i s.heap st b hb
    rw [upd_ne (Nat.ne_of_lt (Nat.lt_of_lt_of_le (Heap.lt_size e) hT))]
    exact (hf b hb).1
  done := by
    intro X hP hw hK hc i pins s σ H E I hf st hs
    obtain ⟨fp', wr, n, Y, St, W, hst, sub, _, hi, _, _⟩ := go X hP hw hK hc i pins s σ H I hf st (.inr hs)
    have e := hi hs
    subst e
    refine W.stops s (fun s₁ => Inv X pins σ H s₁) E hst fun h' tk kp _ => ?_
    have hfw : ∀ b ∈ wr, FpOk X pins H b := fun b hb => hf b (sub b hb)
    have nit : ∀ b u, H b = some u → b ∉ wr := fun b u e z => by
      have q := (hfw b z).1
      rw [q] at e; cases e
    refine I.step (g' := s.gens) (d' := s.drawn) (ch := wr) (fun b hb => ⟨(hfw b hb).2.2.2.1, (hfw b hb).2.1, (hfw b hb).2.2.2.2.1, (hfw b hb).2.2.2.2.2⟩) (fun b o _ _ hc e _ => kp b o hc e) (fun b o _ _ hc e _ => ⟨o.slots, kp b o hc e⟩)
      (fun b o _ e n => n) (fun b o hc e => ⟨o, kp b o hc e⟩) (fun b xs e => e) (fun b o u e => e) (fun b ps e => ⟨#[], by rw [e]; simp⟩) (fun m hm => ?_) (fun b u e => ?_) I.bare
    · obtain ⟨o, es, ep, ho, r⟩ := hm
      exact ⟨o, es, ep, kp _ o (fun z => (hfw _ z).2.1 rfl) ho, r⟩
    · refine (I.hok b u e).stay (fun c v hc q => kp c v ?_ q) (fun c q => q) fun c xs q => q
      rcases hc with z | z
      · rw [z]; exact nit b u e
      · exact nit c _ z
  self := self
def ItE (K : PySem.W.Frag) (k : Bool) (a : Addr) : It :=
  ⟨fun i H => ∃ (xs : List V) (x : V), SqK K k H a xs ∧ xs[i]? = some x, fun i H v H' => ∃ T x, v = .ref T ∧ H T = none ∧ H' = upd H T (.tup [.int (i : Nat), x]) ∧ ∀ xs, SqK K k H a xs → xs[i]? = some x, fun i H => ∃ xs : List V, SqK K k H a xs ∧ i = xs.length⟩
theorem turnE {P : Program} {w : World} {K : PySem.W.Frag} {elts : List Expr} {kk : Nat} {tpos : Pos} (k : Bool) (a e it : Addr) (hai : a ≠ it) (hae : a ≠ e) (hei : e ≠ it) :
    Turn P w K (.Tuple elts kk tpos) (ItE K k a) [e, it] e (fun i h => (∃ old, IsEnum h e it (0 + (i : Int)) old) ∧ tnI k it a i h) := by
  refine turnN e _ _ _ (by simp) ?_ ?_ ?_ ?_
  · rintro i h ⟨⟨old, he⟩, ti⟩ b hb
    rcases List.mem_cons.mp hb with rfl | hb
    · exact ⟨_, he, fun v q => nomatch q⟩
    · rw [List.mem_singleton.mp hb]; exact ti.there
  · rintro i h h' ⟨⟨old, he⟩, ti⟩ kp
    exact ⟨⟨old, kp e (by simp) _ he⟩, ti.keep fun o q => kp it (by simp) o q⟩
  · rintro A i s Q E ⟨⟨old, he⟩, ti⟩ q
    exact wpAny_pyIter_enum he q
  · intro X hP hw hK hc i pins s σ H I hf st hg
    subst hP hw hK
    obtain ⟨⟨old, he⟩, ti⟩ := st
    obtain ⟨xs, hq⟩ : ∃ xs, SqK X.K k H a xs := by
      rcases hg with ⟨xs, _, h, _⟩ | ⟨xs, h, _⟩ <;> exact ⟨xs, h⟩
    obtain ⟨its, rv, p, _⟩ := seqK I hq
    have D := drawsK (prog := X.prog) (w := X.w) (A := X.A.in1) (I.ok.hd hc) k it a hai its.toArray
    refine ⟨_, _, _, _, _, GoesN.enumFrom 0 D e hei (by simp [hei, hae.symm]) (by simp), ⟨⟨old, he⟩, ti, p⟩, fun b hb => hb, ?_, ?_, fun h' q => ⟨q.1, q.2.1⟩, ?_⟩
    · rintro ⟨ys, x, h, hx⟩
      rw [seqK_inj I h hq] at hx
      have := (List.getElem?_eq_some_iff.mp hx).1
      rw [List.size_toArray, ← rv.length]
      exact this
    · rintro ⟨ys, h, e⟩
      rw [seqK_inj I h hq] at e
      rw [List.size_toArray, ← rv.length]
      exact e
    · rintro v h' ⟨T, t, x, rfl, hT, hx, hp⟩
      have hx' : its[i]? = some x := by simpa using hx
      have hi : i < xs.length := by rw [rv.length]; exact (List.getElem?_eq_some_iff.mp hx').1
      obtain ⟨u, hu, ru⟩ := rv.get (List.getElem?_eq_getElem hi)
      rw [hx'] at hu
      cases hu
      refine ⟨T, [.int (i : Nat), xs[i]], [.int (0 + (i : Int)) t, x], rfl, hT, hp, .cons ⟨t, by rw [Int.zero_add]⟩ (.cons ru .nil), by show 2 ≤ sizeLine; decide, fun hn => ⟨T, xs[i], rfl, hn, rfl, fun ys hy => ?_⟩⟩
      rw [seqK_inj I hy hq]
      exact List.getElem?_eq_getElem hi
def ItZ (K : PySem.W.Frag) (k l : Bool) (a b : Addr) : It :=
  ⟨fun i H => ∃ (xs ys : List V), SqK K k H a xs ∧ SqK K l H b ys ∧ i < min xs.length ys.length,
    fun i H v H' => ∃ T x y, v = .ref T ∧ H T = none ∧ H' = upd H T (.tup [x, y]) ∧ (∀ xs, SqK K k H a xs → xs[i]? = some x) ∧ ∀ ys, SqK K l H b ys → ys[i]? = some y,
    fun i H => ∃ xs ys : List V, SqK K k H a xs ∧ SqK K l H b ys ∧ i = min xs.length ys.length⟩
theorem turnZ {P : Program} {w : World} {K : PySem.W.Frag} {elts : List Expr} {kk : Nat} {tpos : Pos} (k l : Bool) {a b z TI TO i1 i2 : Addr} (S : ZipSep2 z TI TO i1 i2 [i1, a] [i2, b]) (ha : a ≠ i1) (hb : b ≠ i2) :
    Turn P w K (.Tuple elts kk tpos) (ItZ K k l a b) [z, TI, TO, i1, i2] z (fun i h => IsZip h z TI TO .none ∧ IsTupOf2 h TI (.ref i1) (.ref i2) ∧ (∃ a1 a2, IsTupOf2 h TO a1 a2) ∧ tnI k i1 a i h ∧ tnI l i2 b i h) := by
  refine turnN z _ _ _ (by simp) ?_ ?_ ?_ ?_
  · rintro i h ⟨hz, hTI, ⟨x, y, hTO⟩, t1, t2⟩ c hc
    have e' : c = z ∨ c = TI ∨ c = TO ∨ c = i1 ∨ c = i2 := by simpa using hc
    rcases e' with q | q | q | q | q
    · rw [q]; exact ⟨_, hz, fun v q => nomatch q⟩
    · rw [q]; exact ⟨_, hTI, fun v q => nomatch q⟩
    · rw [q]; exact ⟨_, hTO, fun v q => nomatch q⟩
    · rw [q]; exact t1.there
    · rw [q]; exact t2.there
  · rintro i h h' ⟨hz, hTI, ⟨x, y, hTO⟩, t1, t2⟩ kp
    exact ⟨kp z (by simp) _ hz, kp TI (by simp) _ hTI, ⟨x, y, kp TO (by simp) _ hTO⟩, t1.keep fun o q => kp i1 (by simp) o q, t2.keep fun o q => kp i2 (by simp) o q⟩
  · rintro A i s Q E ⟨hz, _⟩ q
    exact wpAny_pyIter_zip hz q
  · intro X hP hw hK hc i pins s σ H I hf st hg
    subst hP hw hK
    obtain ⟨hz, hTI, hTO, t1, t2⟩ := st
    obtain ⟨xs, ys, hq, hr⟩ : ∃ xs ys, SqK X.K k H a xs ∧ SqK X.K l H b ys := by
      rcases hg with ⟨xs, ys, h, h', _⟩ | ⟨xs, ys, h, h', _⟩ <;> exact ⟨xs, ys, h, h'⟩
    obtain ⟨its, rv, p, _⟩ := seqK I hq
    obtain ⟨its2, rv2, p2, _⟩ := seqK I hr
    have D1 := drawsK (prog := X.prog) (w := X.w) (A := X.A.in1) (I.ok.hd hc) k i1 a ha its.toArray
    have D2 := drawsK (prog := X.prog) (w := X.w) (A := X.A.in1) (I.ok.hd hc) l i2 b hb its2.toArray
    have en : min its.toArray.size its2.toArray.size = min xs.length ys.length := by rw [List.size_toArray, List.size_toArray, rv.length, rv2.length]
    refine ⟨_, _, _, _, _, GoesN.zip2 S D1 D2, ⟨hz, hTI, hTO, ⟨t1, p⟩, t2, p2⟩, fun c hc => ?_, ?_, ?_, fun h' q => ⟨q.1, q.2.1, q.2.2.1, q.2.2.2.1.1, q.2.2.2.2.1⟩, ?_⟩
    · simp only [List.mem_cons, List.not_mem_nil, or_false] at hc ⊢
      rcases hc with q | q | q | q <;> simp [q]
    · rintro ⟨xs', ys', h, h', hi⟩
      rw [seqK_inj I h hq, seqK_inj I h' hr] at hi
      rw [en]; exact hi
    · rintro ⟨xs', ys', h, h', hi⟩
      rw [seqK_inj I h hq, seqK_inj I h' hr] at hi
      rw [en]; exact hi
    · rintro v h' ⟨T, x, y, rfl, hT, hx, hy, hp⟩
      have hx' : its[i]? = some x := by simpa using hx
      have hy' : its2[i]? = some y := by simpa using hy
      have hi : i < xs.length := by rw [rv.length]; exact (List.getElem?_eq_some_iff.mp hx').1
      have hi2 : i < ys.length := by rw [rv2.length]; exact (List.getElem?_eq_some_iff.mp hy').1
      obtain ⟨u, hu, ru⟩ := rv.get (List.getElem?_eq_getElem hi)
      obtain ⟨u2, hu2, ru2⟩ := rv2.get (List.getElem?_eq_getElem hi2)
      rw [hx'] at hu
      rw [hy'] at hu2
      cases hu
      cases hu2
      refine ⟨T, [xs[i], ys[i]], [x, y], rfl, hT, hp, .cons ru (.cons ru2 .nil), by show 2 ≤ sizeLine; decide, fun hn => ⟨T, xs[i], ys[i], rfl, hn, rfl, fun zs hy => ?_, fun zs hy => ?_⟩⟩
      · rw [seqK_inj I hy hq]
        exact List.getElem?_eq_getElem hi
      · rw [seqK_inj I hy hr]
        exact List.getElem?_eq_getElem hi2
end D3
namespace D3
open PySem PySem.Spec PyProof.Rows L2
theorem meets_enumerate_new1 {v : Value} {o : Obj} {H : Heap → Prop} (B : Begins v o H) :
    Meets (Builtin.«enumerate.__new__» ⟨[.type "enumerate", v], []⟩) (fun _ R s => H s.heap ∧
      R (.ok (.ret (.ref (s.heap.push o).objs.size))) { s with heap := (s.heap.push o).push { cls := .type "enumerate", data := .fields #[.none, .bool false, .ref s.heap.objs.size, rawInt 0, .none, .none] } }) :=
  .of_wp fun prog w A R s h => by
    obtain ⟨hp, g, d, tk, os⟩ := s; obtain ⟨h1, h⟩ := h
    have hsub := sub_enumerate
    have q1 : ∀ {A' : Around} {E : Value → Shared → Prop} {Q : Value → Shared → Prop}, Q (.ref hp.objs.size) ⟨hp.push o, g, d, tk, os⟩ → wpAny (model prog w) A' (pyIter v) Q E ⟨hp, g, d, tk, os⟩ :=
      fun q => B.iter prog w _ _ ⟨hp, g, d, tk, os⟩ _ h1 q
    wp_walk using q1
    refine wpAny_stack_any fun st => wpAny_pure ?_
    split
    · rename_i c _ _ _ _ _
      cases (c == Value.type "enumerate")
      · wp_walk using q1
        exact ⟨_, rfl, h⟩
      · wp_walk using q1
        exact ⟨_, rfl, h⟩
    · wp_walk using q1
      exact ⟨_, rfl, h⟩
section
variable {prog : Program} {w : World} {A : Around} {E : Value → Shared → Prop} {s : Shared}
theorem enum_begins1 {v : Value} {o : Obj} {H : Heap → Prop} {Q : Value → Shared → Prop} (B : Begins v o H) (h1 : H s.heap)
    (h : ∀ h', IsEnum h' (s.heap.objs.size + 1) s.heap.objs.size 0 .none → h'.get? s.heap.objs.size = some o → h'.objs.size = s.heap.objs.size + 2 →
      (∀ b o, s.heap.get? b = some o → h'.get? b = some o) → Q (.ref (s.heap.objs.size + 1)) { s with heap := h' }) :
    wpAny (model prog w) A (call (.type "enumerate") [v]) Q E s := by
  refine callType_new F.called_enumerate (by decide) (F.typeCall_enumerate_1 _) (F.newCall_enumerate_1 _) (fun obj => F.args_object_init_2 obj _) F.entry_enumerate_new
    (meets_enumerate_new1 B) ⟨h1, ?_⟩
  have hz : (s.heap.push o).objs.size = s.heap.objs.size + 1 := Heap.size_push ..
  show _ ∧ _
  rw [hz]
  have he : IsEnum ((s.heap.push o).push { cls := .type "enumerate", data := .fields #[.none, .bool false, .ref s.heap.objs.size, rawInt 0, .none, .none] }) (s.heap.objs.size + 1) s.heap.objs.size 0 .none := by
    have := Heap.get?_push_size (s.heap.push o) (o := { cls := .type "enumerate", data := .fields #[.none, .bool false, .ref s.heap.objs.size, rawInt 0, .none, .none] }) rfl
    rw [hz] at this; exact this
  refine ⟨⟨_, he, rfl⟩, h _ he (Heap.get?_push_of_some _ (Heap.get?_push_size _ B.free)) (by rw [Heap.size_push, hz]) fun b o x => Heap.get?_push_of_some _ (Heap.get?_push_of_some _ x)⟩
end
section
variable {X : Cx} {tg : Expr}
def iSqK (K : PySem.W.Frag) (t : TE) : TI := fun σ H R => t σ H fun x H1 => ∃ a k xs, x = .ref a ∧ SqK K k H1 a xs ∧ R (if k = true then Itl K a else Itt K a) H1
theorem pi_sqK {l : Expr} {tl : TE} (hl : PE X l tl) : PI X tg l (iSqK X.K tl) := by
  refine ⟨fun pins s σ H R I h => ?_⟩
  refine thn (hl.run pins s σ H _ I h) fun v s1 ⟨x, H1, I1, r1, q1⟩ => ?_
  obtain ⟨a, k, xs, e, hq, q⟩ := q1
  subst e
  cases r1
  have fr : ∀ b ∈ [s1.heap.objs.size], FpOk X pins H1 b := fun b hb => by
    have e : b = s1.heap.objs.size := by simpa using hb
    subst e
    exact I1.fpOk (Nat.le_refl _) (I1.hok.fresh (Nat.le_refl _))
  cases k
  · obtain ⟨its, rv, p, hz⟩ := I1.tuple hq
    refine wpAny_pyIter_tuple (show s1.heap.IsTuple a its.toArray from p) ?_
    exact ⟨s1.heap.objs.size, [s1.heap.objs.size], _, _, H1, rfl, I1.kept (t' := s1.toks) fun b o e => Heap.get?_push_of_some _ e, turn_tuple a _, ⟨_, Heap.get?_push_size _ rfl, rfl, rfl⟩, fr, q⟩
  · obtain ⟨its, rv, p, hz⟩ := I1.list hq
    refine wpAny_pyIter_list p.isList ?_
    exact ⟨s1.heap.objs.size, [s1.heap.objs.size], _, _, H1, rfl, I1.kept (t' := s1.toks) fun b o e => Heap.get?_push_of_some _ e, turn_list a _, ⟨_, Heap.get?_push_size _ rfl, rfl, rfl⟩, fr, q⟩
def iEnumK (K : PySem.W.Frag) (ta : TA) : TI := fun σ H R => ta σ H fun vs H1 => ∃ a k xs, vs = [.ref a] ∧ SqK K k H1 a xs ∧ R (ItE K k a) H1
theorem pi_enumK {e : Expr} {ta : TA} {p pos tpos : Pos} {elts : List Expr} {kk : Nat} (hg : Gl X "enumerate") (hm : X.mg "enumerate" = none) (ha : PA X [e] ta) (hs : starEach [e] X.env = [(false, eval e X.env)] := by rfl) :
    PI X (.Tuple elts kk tpos) (.Call (.Name "enumerate" p) [e] [] pos) (iEnumK X.K ta) := by
  refine ⟨fun pins s σ H R I h => ?_⟩
  refine Call_ (ld_blt I hg hm boot_enumerate (PyProof.Rows.callWith_type1 (thn (ha.run pos pins s σ H _ I h) fun us s1 ⟨vs, H1, I1, r1, q1⟩ => ?_) hs rfl))
  obtain ⟨a, k, xs, ex, hq, q⟩ := q1
  subst ex
  cases r1 with
  | cons r rr =>
    cases rr
    cases r
    obtain ⟨its, rv, p', hl⟩ := seqK I1 hq
    refine enum_begins1 (beginsK k a its.toArray) p' fun h' he hit hsz hk => wpAny_pyIter_enum he ?_
    have I2 : Inv X pins σ H1 { s1 with heap := h' } := I1.kept (t' := s1.toks) hk
    refine ⟨s1.heap.objs.size + 1, [s1.heap.objs.size + 1, s1.heap.objs.size], _, _, H1, rfl, I2, turnE k a (s1.heap.objs.size + 1) s1.heap.objs.size (Nat.ne_of_lt hl) (Nat.ne_of_lt (Nat.lt_succ_of_lt hl)) (Nat.succ_ne_self _), ⟨⟨.none, he⟩, tnI.zero hit⟩, fun b hb => ?_, q⟩
    have e' : b = s1.heap.objs.size + 1 ∨ b = s1.heap.objs.size := by simpa using hb
    have hle : s1.heap.objs.size ≤ b := by
      rcases e' with z | z
      · rw [z]; exact Nat.le_add_right _ _
      · rw [z]; exact Nat.le_refl _
    exact I1.fpOk hle (I1.hok.fresh hle)
def iZipK (K : PySem.W.Frag) (ta : TA) : TI := fun σ H R => ta σ H fun vs H1 => ∃ a b k l xs ys, vs = [.ref a, .ref b] ∧ SqK K k H1 a xs ∧ SqK K l H1 b ys ∧ R (ItZ K k l a b) H1
theorem pi_zipK {e e2 : Expr} {ta : TA} {p pos tpos : Pos} {elts : List Expr} {kk : Nat} (hg : Gl X "zip") (hm : X.mg "zip" = none) (ha : PA X [e, e2] ta)
    (hs : starEach [e, e2] X.env = (false, eval e X.env) :: starEach [e2] X.env := by rfl) (hpl : (backTo pos (starEach [e2] X.env)).any (·.1) = false := by rfl) :
    PI X (.Tuple elts kk tpos) (.Call (.Name "zip" p) [e, e2] [] pos) (iZipK X.K ta) := by
  refine ⟨fun pins s σ H R I h => ?_⟩
  refine Call_ (ld_blt I hg hm PyProof.Rows.boot_zip (PyProof.Rows.callWith_type1 (thn (ha.run pos pins s σ H _ I h) fun us s1 ⟨vs, H1, I1, r1, q1⟩ => ?_) hs hpl))
  obtain ⟨a, b, k, l, xs, ys, ex, hq, hr, q⟩ := q1
  subst ex
  cases r1 with
  | cons r rr =>
    cases rr with
    | cons r' rr =>
      cases rr
      cases r
      cases r'
      obtain ⟨its, rv, p1, hl1⟩ := seqK I1 hq
      obtain ⟨its2, rv2, p2, hl2⟩ := seqK I1 hr
      refine zip_begins2 (beginsK k a its.toArray) (beginsK l b its2.toArray) p1 p2 fun h' hz hTI hTO h1 h2 hsz hk => wpAny_pyIter_zip hz ?_
      have I2 : Inv X pins σ H1 { s1 with heap := h' } := I1.kept (t' := s1.toks) hk
      refine ⟨s1.heap.objs.size + 4, [s1.heap.objs.size + 4, s1.heap.objs.size + 2, s1.heap.objs.size + 3, s1.heap.objs.size, s1.heap.objs.size + 1], _, _, H1, rfl, I2,
        turnZ k l (zip_sep2 (fp1 := [a]) (fp2 := [b]) (fun c hc => by rw [List.mem_singleton.mp hc]; exact hl1) (fun c hc => by rw [List.mem_singleton.mp hc]; exact hl2)) (Nat.ne_of_lt hl1) (Nat.ne_of_lt (Nat.lt_succ_of_lt hl2)), ⟨hz, hTI, ⟨_, _, hTO⟩, tnI.zero h1, tnI.zero h2⟩, fun c hcm => ?_, q⟩
      have e' : c = s1.heap.objs.size + 4 ∨ c = s1.heap.objs.size + 2 ∨ c = s1.heap.objs.size + 3 ∨ c = s1.heap.objs.size ∨ c = s1.heap.objs.size + 1 := by simpa using hcm
      have hle : s1.heap.objs.size ≤ c := by
        rcases e' with z | z | z | z | z
        · rw [z]; exact Nat.le_add_right _ _
        · rw [z]; exact Nat.le_add_right _ _
        · rw [z]; exact Nat.le_add_right _ _
        · rw [z]; exact Nat.le_refl _
        · rw [z]; exact Nat.le_add_right _ _
      exact I1.fpOk hle (I1.hok.fresh hle)
end
end D3
set_option Elab.async false
set_option linter.all false
set_option maxRecDepth 100000
set_option maxHeartbeats 2000000
namespace D3
open PySem PySem.Spec PyProof.Rows L2
def dAppend : Dv → RDs := fun x vs S Q => match x, vs with
  | .obj i, [y] => ∃ xs, getL S i = some xs ∧ xs.length < sizeLine ∧ Q .non (S.set i (.lst (xs ++ [y])))
  | _, _ => False
def dPop : Dv → RDs := fun x vs S Q => match x, vs with
  | .obj i, [] => ∃ xs y, getL S i = some xs ∧ xs[xs.length - 1]? = some y ∧ Q y (S.set i (.lst xs.dropLast))
  | .obj i, [.int k] => ∃ xs j y, getL S i = some xs ∧ -(2 ^ 63) ≤ k ∧ k < 2 ^ 63 ∧ seqIndex? k xs.length = some j ∧ xs[j]? = some y ∧ Q y (S.set i (.lst (xs.eraseIdx j)))
  | _, _ => False
def dExtend : Dv → RDs := fun x vs S Q => match x, vs with
  | .obj i, [.obj j] => ∃ xs ys, getL S i = some xs ∧ getL S j = some ys ∧ xs.length + ys.length ≤ sizeLine ∧ Q .non (S.set i (.lst (xs ++ ys)))
  | _, _ => False
section
variable {X : Cx} {B : Bs}
theorem MtR_imp {id : String} {r r' : V → List V → Hp → VK → Prop} (h : MtR X id r) (k : ∀ x xs H Q, r' x xs H Q → r x xs H Q) : MtR X id r' := fun pins s σ H x xs v us Q I rx rxs q => h pins s σ H x xs v us Q I rx rxs (k _ _ _ _ q)
theorem mAppend : MtR X "list.append" (LM B dAppend) := by
  refine MtR_imp mt_append ?_
  rintro v vs H Q ⟨π, S, d, ds, Qd, R, r, rs, q, k⟩
  unfold dAppend at q
  split at q
  · obtain ⟨xs, g, hz, q⟩ := q
    obtain ⟨a, rfl, i1, zs, h1, l⟩ := R.here (getL_iff.mp g) r
    obtain ⟨u, rfl, ru⟩ := rs.one_inv
    exact ⟨a, zs, u, rfl, rfl, h1, by rw [← l.length]; exact hz, k.wr R i1 h1 (l.append (.one ru)) .non q⟩
  · exact q.elim
theorem mPop : MtR X "list.pop" (LM B dPop) := by
  refine MtR_imp (MtR.or mt_pop mt_popAt) ?_
  rintro v vs H Q ⟨π, S, d, ds, Qd, R, r, rs, q, k⟩
  unfold dPop at q
  split at q
  · obtain ⟨xs, y, g, hy, q⟩ := q
    obtain ⟨a, rfl, i1, zs, h1, l⟩ := R.here (getL_iff.mp g) r
    obtain rfl := rs.nil_inv
    obtain ⟨w, hw, rw'⟩ := l.get hy
    exact .inl ⟨a, zs, w, rfl, rfl, h1, by rw [← l.length]; exact hw, k.wr R i1 h1 l.dropLast rw' q⟩
  · obtain ⟨xs, j, y, g, k1, k2, hj, hy, q⟩ := q
    obtain ⟨a, rfl, i1, zs, h1, l⟩ := R.here (getL_iff.mp g) r
    obtain ⟨u, rfl, ru⟩ := rs.one_inv
    obtain rfl := ru.int_inv
    obtain ⟨w, hw, rw'⟩ := l.get hy
    exact .inr ⟨a, zs, _, j, w, rfl, rfl, h1, k1, k2, by rw [← l.length]; exact hj, hw, k.wr R i1 h1 (l.erase j) rw' q⟩
  · exact q.elim
theorem mExtend : MtR X "list.extend" (LM B dExtend) := by
  refine MtR_imp mt_extend ?_
  rintro v vs H Q ⟨π, S, d, ds, Qd, R, r, rs, q, k⟩
  unfold dExtend at q
  split at q
  · obtain ⟨xs, ys, g, g2, hz, q⟩ := q
    obtain ⟨a, rfl, i1, zs, h1, l⟩ := R.here (getL_iff.mp g) r
    obtain ⟨u, rfl, ru⟩ := rs.one_inv
    obtain ⟨b, rfl, i2, ws, h2, l2⟩ := R.here (getL_iff.mp g2) ru
    exact ⟨a, b, zs, ws, rfl, rfl, h1, h2, by rw [← l.length, ← l2.length]; exact hz, k.wr R i1 h1 (l.append l2) .non q⟩
  · exact q.elim
variable {o e : Expr} {es : List Expr} {to : TEd} {t : TAd} {name : Str} {apos cpos : Pos} {T id : String} {r : Dv → RDs}
/-- the receiver's type, while its object stands -/
def tyD (T : String) (S : Store) : Dv → Prop
  | .str _ => T = "str"
  | .int _ => T = "int"
  | .fls _ => T = "list"
  | .obj i => (T = "list" ∧ ∃ xs, S[i]? = some (.lst xs)) ∨ (T = "dict" ∧ ∃ xs, S[i]? = some (.dk xs))
  | _ => False
theorem tyD_rep {G : Cf} {π : List Addr} {H : Hp} {S : Store} (R : RepS G π H S) {d : Dv} {v : V} (r : Rep G π H d v) (h : tyD T S d) : tyV G.K T v H := by
  cases r <;> first | (cases h; done) | exact h | skip
  · rename_i hi
    rcases h with ⟨rfl, xs, g⟩ | ⟨rfl, xs, g⟩
    · obtain ⟨zs, h1, _⟩ := R.at_ _ _ _ g hi
      exact .inl ⟨rfl, zs, SqL.of h1⟩
    · obtain ⟨zs, h1, _⟩ := R.at_ _ _ _ g hi
      exact .inr (.inr (.inl ⟨rfl, .inl ⟨zs, h1⟩⟩))
  · rename_i h1 _
    exact .inl ⟨h, _, h1.sq⟩
def eBM (T : String) (r : Dv → RDs) (to : TEd) (t : TAd) : TEd := fun σ S Q => to σ S fun x S1 => tyD T S1 x ∧ t σ S1 fun xs S2 => r x xs S2 Q
theorem pBM0 (pa : PlainAttrs T) (slot : Slot T name id) (hty : typeOf (.builtin id) = pure (.type "method_descriptor")) (hm : MtR X id (LM B r)) (ho : PE X o (LE B to)) (hK : B.G.K = X.K := by rfl)
    (hbase : attributeBase o name X.env (eval o X.env) = eval o X.env := by rfl) (hline : (apos.endLine == cpos.line) = true := by rfl) : PE X (.Call (.Attribute o name apos) [] [] cpos) (LE B (eBM T r to aNil)) := PE_imp (pe_bm0 pa slot hty hm ho hbase hline) (by
  rintro σ H Q ⟨π, S, σd, Qd, R, h, k⟩
  refine ⟨π, S, σd, _, R, h, fun π1 H1 S1 x v e1 R1 rx q => ?_⟩
  exact ⟨by rw [← hK]; exact tyD_rep R1 rx q.1, π1, S1, x, [], Qd, R1, rx, .nil, q.2, k.to e1⟩)
theorem pBM (pa : PlainAttrs T) (slot : Slot T name id) (hty : typeOf (.builtin id) = pure (.type "method_descriptor")) (hm : MtR X id (LM B r)) (ho : PE X o (LE B to)) (ha : PA X (e :: es) (LA B t)) (hK : B.G.K = X.K := by rfl)
    (hbase : attributeBase o name X.env (eval o X.env) = eval o X.env := by rfl)
    (hfew : ((backTo cpos (starEach (e :: es) X.env)).all (fun x => !x.1) && (backToKw cpos (keywordEach [] X.env)).all (fun x => x.1.isSome)
      && decide ((e :: es).length + ([] : List Keyword).length + (if ([] : List Keyword).isEmpty then 0 else 1) < 30)) = true := by rfl)
    (hline : (apos.endLine == cpos.line) = true := by rfl) (hs : starEach (e :: es) X.env = (false, eval e X.env) :: starEach es X.env := by rfl) (hplain : (backTo cpos (starEach es X.env)).any (·.1) = false := by rfl) :
    PE X (.Call (.Attribute o name apos) (e :: es) [] cpos) (LE B (eBM T r to t)) := PE_imp (pe_bm pa slot hty hm ho ha hbase hfew hline hs hplain) (by
  rintro σ H Q ⟨π, S, σd, Qd, R, h, k⟩
  refine ⟨π, S, σd, _, R, h, fun π1 H1 S1 x v e1 R1 rx q => ?_⟩
  refine ⟨by rw [← hK]; exact tyD_rep R1 rx q.1, π1, S1, σd, _, R.to e1 R1, q.2, fun π2 H2 S2 ys us e2 R2 ry q2 => ?_⟩
  exact ⟨π2, S2, x, ys, Qd, R2, rx.mono e2, ry, q2, k.to (e1.trans e2)⟩)
end
def gNm (i : Nat) : TGd := fun d σ S Q => Q (σ.set i (some d)) S
def gsNil : TGsd := fun ds σ S Q => ds = [] ∧ Q σ S
def gsCons (g : TGd) (u : TGsd) : TGsd := fun ds σ S Q => ∃ d r, ds = d :: r ∧ g d σ S fun σ' S' => u r σ' S' Q
/-- unpacking a tuple or a list -/
def gUnp (n : Nat) (t : TGsd) : TGd := fun d σ S Q => ∃ ds, seqOf S d = some ds ∧ ds.length = n ∧ t ds σ S Q
abbrev RSet := Dv → Dv → Dv → Store → (Store → Prop) → Prop
def LSet (B : Bs) (r : RSet) : TSet := fun o i v H Q => ∃ π S x y z Qd, RepS B.G π H S ∧ Rep B.G π H x o ∧ Rep B.G π H y i ∧ Rep B.G π H z v ∧ r x y z S Qd ∧ ∀ π' H' S', Ext B.G π H π' H' → RepS B.G π' H' S' → Qd S' → Q H'
def dSetL : RSet := fun x y z S Q => match x, y with
  | .obj i, .int k => ∃ xs j, getL S i = some xs ∧ ixN xs.length k = some j ∧ Q (S.set i (.lst (xs.set j z)))
  | _, _ => False
def gSb (to ti : TEd) (r : RSet) : TGd := fun d σ S Q => to σ S fun o S1 => ti σ S1 fun i S2 => r o i d S2 fun S3 => Q σ S3
section
variable {X : Cx} {B : Bs} {pos : Pos}
theorem PSet_imp {t t' : TSet} (h : PSet X t) (k : ∀ o i v H Q, t' o i v H Q → t o i v H Q) : PSet X t' := fun pins s σ H o i v ov iv u Q I a b c q => h pins s σ H o i v ov iv u Q I a b c (k _ _ _ _ _ q)
theorem stSetL : PSet X (LSet B dSetL) := by
  refine PSet_imp set_list ?_
  rintro o i v H Q ⟨π, S, x, y, z, Qd, R, r1, r2, r3, q, k⟩
  unfold dSetL at q
  split at q
  · obtain ⟨xs, j, g, hj, q⟩ := q
    obtain ⟨a, rfl, i1, zs, h1, l⟩ := R.here (getL_iff.mp g) r1
    obtain rfl := r2.int_inv
    have x := ext_write R (.lst (zs.set j v)) i1 (fun od u e => by rw [h1] at e; cases e)
    exact ⟨a, zs, _, j, rfl, rfl, h1, by rw [← l.length]; exact hj, k _ _ _ x (step_write (m := .lst _) R i1 ⟨_, upd_same, (l.set r3 j).mono x⟩) q⟩
  · exact q.elim
theorem LG_name (i : Nat) : ∀ v σ H Q, LG B (gNm i) v σ H Q → gName i v σ H Q := by
  rintro v σ H Q ⟨π, S, σd, d, Qd, R, r, q, k⟩
  exact k π H S _ _ (Ext.refl _ _ _) R.sto (R.slt.set r i) q
theorem gName' {i : Nat} {x : Str} (hN : X.N.Nodup) (hi : X.N[i]? = some x) (hx : Loc X.env.scope x) (hf : X.fn x = true ∨ X.env.scope.names.lookup x = some .local := by first | exact .inl rfl | exact .inr rfl | assumption) : PG X (.Name x pos) (LG B (gNm i)) := PG_imp (pg_name hN hi hx hf) (LG_name i)
theorem gsNil' : PGs X [] (LGs B gsNil) := PGs_imp pgs_nil (by
  rintro v σ H Q ⟨π, S, σd, ds, Qd, R, r, q, k⟩
  obtain ⟨rfl, q⟩ := q
  exact ⟨r.nil_inv, k π H S _ _ (Ext.refl _ _ _) R.sto R.slt q⟩)
theorem gsCons' {e : Expr} {es : List Expr} {t : TGd} {u : TGsd} (h1 : PG X e (LG B t)) (h2 : PGs X es (LGs B u))
    (hs : (assignEach (e :: es) X.env).map (·.2) = assign e X.env :: (assignEach es X.env).map (·.2) := by rfl) : PGs X (e :: es) (LGs B (gsCons t u)) := PGs_imp (pgs_cons h1 h2 hs) (by
  rintro vs σ H Q ⟨π, S, σd, ds, Qd, R, r, q, k⟩
  obtain ⟨d, es, rfl, q⟩ := q
  cases r with
  | cons r1 r2 =>
    refine ⟨_, _, rfl, π, S, σd, d, _, R, r1, q, fun π1 H1 S1 σ1 σ1' e1 R1 rs q => ?_⟩
    exact ⟨π1, S1, σ1, es, Qd, ⟨R.ext.trans e1, R1, rs⟩, r2.mono e1, q, fun π2 H2 S2 σ2 σ2' e2 R2 rs2 q2 => k π2 H2 S2 σ2 σ2' (e1.trans e2) R2 rs2 q2⟩)
theorem PG_or {e : Expr} {t u : TG} (h : PG X e t) (h' : PG X e u) : PG X e (fun v σ H Q => t v σ H Q ∨ u v σ H Q) := ⟨fun pins s σ H v w Q I r q => by
  rcases q with q | q
  · exact h.run pins s σ H v w Q I r q
  · exact h'.run pins s σ H v w Q I r q⟩
theorem gUnp' {es : List Expr} {k : Nat} {t : TGsd} {n : Nat} (hK : B.G.K = X.K := by rfl) (hc : X.calm = true) (h : PGs X es (LGs B t))
    (hn : (assignEach es X.env).length = n := by rfl) (hst : (assignEach es X.env).findIdx? (·.1) = none := by rfl) : PG X (.Tuple es k pos) (LG B (gUnp n t)) := PG_imp (PG_or (pg_tup hc h hn hst) (pg_lst hc h hn hst)) (by
  rintro v σ H Q ⟨π, S, σd, d, Qd, R, r, q, k⟩
  obtain ⟨ds, h, e, q⟩ := q
  obtain ⟨a, xs, rfl, hs, l⟩ := seq_rep R.sto r h
  rw [hK] at hs
  rcases hs with hs | hs
  · exact .inr ⟨a, xs, rfl, hs, by rw [← l.length]; exact e, π, S, σd, ds, Qd, R, l, q, k⟩
  · exact .inl ⟨a, xs, rfl, hs.sq, by rw [← l.length]; exact e, π, S, σd, ds, Qd, R, l, q, k⟩)
theorem gSub' {o i : Expr} {to ti : TEd} {r : RSet} (ho : PE X o (LE B to)) (hi : PE X i (LE B ti)) (hs : PSet X (LSet B r))
    (ha : ∀ v, assign (.Subscript o i pos) X.env v = (do
      let ov ← holding [v] (eval o X.env)
      let iv ← holding [v, ov] (eval i X.env)
      standAt pos
      holding [v, ov, iv] (setItem ov iv v)
      release [v, ov, iv] []) := by intro _; rfl) : PG X (.Subscript o i pos) (LG B (gSb to ti r)) := PG_imp (pg_sub ho hi hs ha) (by
  rintro v σ H Q ⟨π, S, σd, d, Qd, R, r, q, k⟩
  refine ⟨π, S, σd, _, R, q, fun π1 H1 S1 x w e1 R1 rx q => ?_⟩
  refine ⟨π1, S1, σd, _, R.to e1 R1, q, fun π2 H2 S2 y u e2 R2 ry q => ?_⟩
  refine ⟨π2, S2, x, y, d, _, R2, rx.mono e2, ry, r.mono (e1.trans e2), q, fun π3 H3 S3 e3 R3 q => ?_⟩
  have e := e1.trans (e2.trans e3)
  exact k π3 H3 S3 σd σ e R3 (R.slt.mono e) q)
end
def sNext : TSd := fun D σ S => D.nx σ S
def sSeq (t u : TSd) : TSd := fun D σ S => t { D with nx := u D } σ S
def sBreak : TSd := fun D σ S => D.bk σ S
def sCont : TSd := fun D σ S => D.ct σ S
def sDrop (t : TEd) : TSd := fun D σ S => t σ S fun _ S1 => D.nx σ S1
def sRet (t : TEd) : TSd := fun D σ S => t σ S D.rt
def sRetN : TSd := fun D _ S => D.rt .non S
def sIf (c : TTd) (t u : TSd) : TSd := fun D σ S => c σ S fun b S1 => if b = true then t D σ S1 else u D σ S1
def sNever : TSd := fun _ _ _ => False
def sAsg (t : TEd) (g : TGd) : TSd := fun D σ S => t σ S fun x S1 => g x σ S1 D.nx
def sPar (i j : Nat) (t : TAd) : TSd := fun D σ S => t σ S fun vs S1 => ∃ v w, vs = [v, w] ∧ D.nx ((σ.set i (some v)).set j (some w)) S1
def sAug (i : Nat) (t : TEd) (r : RD2) : TSd := fun D σ S => ∃ x, σ[i]? = some (some x) ∧ t σ S fun y S1 => r x y S1 fun z S2 => D.nx (σ.set i (some z)) S2
section
variable {X : Cx} {B : Bs} {st : Stmt} {rest : List Stmt} {t u : TSd} {e : Expr} {te : TEd} {pos : Pos}
theorem bNil : PSs X [] (LS B sNext) := PSs_imp pss_nil (by
  rintro D σ H ⟨π, S, σd, Dd, R, q, k⟩
  exact k.1 π H S _ _ (Ext.refl _ _ _) R.sto R.slt q)
theorem bCons (h1 : PS X st (LS B t)) (h2 : PSs X rest (LS B u)) : PSs X (st :: rest) (LS B (sSeq t u)) := PSs_imp (pss_cons h1 h2) (by
  rintro D σ H ⟨π, S, σd, Dd, R, q, k⟩
  refine ⟨π, S, σd, _, R, q, fun π' H' S' σd' σ' x R' rs q => ?_, k.2⟩
  exact ⟨π', S', σd', Dd, ⟨R.ext.trans x, R', rs⟩, q, k.to x⟩)
theorem bOne (h1 : PS X st (LS B t)) : PSs X [st] (LS B t) := pss_one h1
theorem sExpr' (he : PE X e (LE B te)) (hs : swapsWith e none pos.line X.env = pure false := by rfl) : PS X (.Expr e pos) (LS B (sDrop te)) := PS_imp (ps_expr he hs) (by
  rintro D σ H ⟨π, S, σd, Dd, R, q, k⟩
  exact ⟨π, S, σd, _, R, q, fun π1 H1 S1 x v e1 R1 rx q => k.1 π1 H1 S1 _ _ e1 R1 (R.slt.mono e1) q⟩)
theorem sRet' (he : PE X e (LE B te)) : PS X (.Return (some e) pos) (LS B (sRet te)) := PS_imp (ps_ret he) (by
  rintro D σ H ⟨π, S, σd, Dd, R, q, k⟩
  exact ⟨π, S, σd, _, R, q, fun π1 H1 S1 x v e1 R1 rx q => k.2.1 π1 H1 S1 _ _ e1 R1 rx q⟩)
theorem sIf' {c : Expr} {a b : List Stmt} {tc : TTd} (hc : PT X c (LT B tc)) (ha : PSs X a (LS B t)) (hb : PSs X b (LS B u)) : PS X (.If c a b pos) (LS B (sIf tc t u)) := PS_imp (ps_if hc ha hb) (by
  rintro D σ H ⟨π, S, σd, Dd, R, q, k⟩
  refine ⟨π, S, σd, _, R, q, fun π1 H1 S1 c e1 R1 q => ?_⟩
  cases c with
  | true =>
    rw [if_pos rfl] at q ⊢
    exact ⟨π1, S1, σd, Dd, R.to e1 R1, q, k.to e1⟩
  | false =>
    rw [if_neg Bool.false_ne_true] at q ⊢
    exact ⟨π1, S1, σd, Dd, R.to e1 R1, q, k.to e1⟩)
theorem sNever' : PS X st (LS B sNever) := PS_imp ps_never (by
  rintro D σ H ⟨π, S, σd, Dd, R, q, k⟩
  exact q)
theorem LS_asg {g : TGd} (te : TEd) : ∀ D σ H, LS B (sAsg te g) D σ H → tAsg (LE B te) (LG B g) D σ H := by
  rintro D σ H ⟨π, S, σd, Dd, R, q, k⟩
  refine ⟨π, S, σd, _, R, q, fun π1 H1 S1 x v e1 R1 rx q => ?_⟩
  exact ⟨π1, S1, σd, x, Dd.nx, R.to e1 R1, rx, q, fun π2 H2 S2 σ2 σ2' e2 R2 rs q => k.1 π2 H2 S2 σ2 σ2' (e1.trans e2) R2 rs q⟩
theorem sAsg' {tg : Expr} {g : TGd} (he : PE X e (LE B te)) (hg : PG X tg (LG B g)) (hs : swapsWithSole [tg] e pos.line X.env = pure false := by rfl) (hw : swappedStores [tg] e X.env = pure none := by rfl)
    (h1 : (assignEach [tg] X.env).map (·.2) = [assign tg X.env] := by rfl) : PS X (.Assign [tg] e pos) (LS B (sAsg te g)) := PS_imp (ps_asg he hg hs hw h1) (LS_asg te)
theorem LS_set {i : Nat} (te : TEd) : ∀ D σ H, LS B (sAsg te (gNm i)) D σ H → tAsg (LE B te) (gName i) D σ H := by
  rintro D σ H ⟨π, S, σd, Dd, R, q, k⟩
  refine ⟨π, S, σd, _, R, q, fun π1 H1 S1 x v e1 R1 rx q => ?_⟩
  exact k.1 π1 H1 S1 _ _ e1 R1 ((R.slt.mono e1).set rx i) q
theorem sSet' {i : Nat} {x : Str} {pos' : Pos} (hN : X.N.Nodup) (hi : X.N[i]? = some x) (hx : Loc X.env.scope x) (he : PE X e (LE B te)) (hs : swapsWith e (some (.Name x pos')) pos.line X.env = pure false := by rfl) (hf : X.fn x = true ∨ X.env.scope.names.lookup x = some .local := by first | exact .inl rfl | exact .inr rfl | assumption) :
    PS X (.Assign [.Name x pos'] e pos) (LS B (sAsg te (gNm i))) := PS_imp (ps_set hN hi hx he hs hf) (LS_set te)
theorem sPar' {i j : Nat} {x y : Str} {a b : Expr} {ta : TAd} {px py pt : Pos} {kt k2 pt2} (hc : X.calm = true) (hN : X.N.Nodup) (hi : X.N[i]? = some x) (hj : X.N[j]? = some y) (hij : i ≠ j)
    (hx : X.env.scope.names.lookup x = some .local) (hy : X.env.scope.names.lookup y = some .local) (ha : PA X [a, b] (LA B ta))
    (hw : swappedStores [.Tuple [.Name x px, .Name y py] kt pt] (.Tuple [a, b] k2 pt2) X.env = pure (some [x, y]))
    (hs : swapsWithSole [.Tuple [.Name x px, .Name y py] kt pt] (.Tuple [a, b] k2 pt2) pos.line X.env = pure false := by rfl) :
    PS X (.Assign [.Tuple [.Name x px, .Name y py] kt pt] (.Tuple [a, b] k2 pt2) pos) (LS B (sPar i j ta)) := PS_imp (ps_par hc hN hi hj hij hx hy ha hw hs) (by
  rintro D σ H ⟨π, S, σd, Dd, R, q, k⟩
  refine ⟨π, S, σd, _, R, q, fun π1 H1 S1 ds vs e1 R1 rx q => ?_⟩
  obtain ⟨d, f, rfl, q⟩ := q
  obtain ⟨v, w, rfl, r1, r2⟩ := rx.two_inv
  exact ⟨v, w, rfl, k.1 π1 H1 S1 _ _ e1 R1 (((R.slt.mono e1).set r1 i).set r2 j) q⟩)
theorem sAug' {i : Nat} {x : Str} {op : Operator} {r : RD2} {pos' : Pos} (hN : X.N.Nodup) (hi : X.N[i]? = some x) (hx : Loc X.env.scope x) (he : PE X e (LE B te)) (ho : PIp X op (L2' B r)) (hf : X.fn x = true ∨ X.env.scope.names.lookup x = some .local := by first | exact .inl rfl | exact .inr rfl | assumption) :
    PS X (.AugAssign (.Name x pos') op e pos) (LS B (sAug i te r)) := PS_imp (ps_aug hN hi hx he ho hf) (by
  rintro D σ H ⟨π, S, σd, Dd, R, q, k⟩
  obtain ⟨d, h, q⟩ := q
  obtain ⟨v, h1, r1⟩ := R.slt.2 i d h
  refine ⟨v, h1, π, S, σd, _, R, q, fun π1 H1 S1 y u e1 R1 ry q => ?_⟩
  exact ⟨π1, S1, d, y, _, R1, r1.mono e1, ry, q, fun π2 H2 S2 z w e2 R2 rz q => k.1 π2 H2 S2 _ _ (e1.trans e2) R2 ((R.slt.mono (e1.trans e2)).set rz i) q⟩)
end
def Fg (n : Nat) : Sl → Sl → Prop
  | [], [] => True
  | o :: σ, o' :: σ' => (o' = none ∨ (o' = o ∧ match o with | some d => d.clo n = true | none => True)) ∧ Fg n σ σ'
  | _, _ => False
def Wk (n0 : Nat) (R : Sl → Store → Prop) : Sl → Store → Prop := fun σ S => R σ S ∨ ∃ n σ', n0 ≤ n ∧ Fg n σ σ' ∧ StClo (S.take n) ∧ R σ' (S.take n)
/-- the same of a value -/
def Gc (n0 : Nat) (Q : KD) : KD := fun d S => Q d S ∨ ∃ n, n0 ≤ n ∧ d.clo n = true ∧ StClo (S.take n) ∧ Q d (S.take n)
theorem Fg.get {n : Nat} : ∀ {σ σ' : Sl}, Fg n σ σ' → σ.length = σ'.length ∧ ∀ (i : Nat) (d : Dv), σ'[i]? = some (some d) → σ[i]? = some (some d) ∧ d.clo n = true
  | [], [], _ => ⟨rfl, fun i d h => by simp at h⟩
  | o :: σ, o' :: σ', h => by
    obtain ⟨h1, h2⟩ := h
    obtain ⟨e, k⟩ := h2.get
    refine ⟨by rw [List.length_cons, List.length_cons, e], fun i d q => ?_⟩
    cases i with
    | zero =>
      simp only [List.getElem?_cons_zero, Option.some.injEq] at q ⊢
      subst q
      rcases h1 with z | ⟨z, c⟩
      · cases z
      · subst z; exact ⟨rfl, c⟩
    | succ i =>
      simp only [List.getElem?_cons_succ] at q ⊢
      exact k i d q
  | [], _ :: _, h => h.elim
  | _ :: _, [], h => h.elim
theorem RepSl.drop {G : Cf} {π : List Addr} {H : Hp} {σd σd' : Sl} {σ : L2.St} {n : Nat} (r : RepSl G π H σd σ) (f : Fg n σd σd') : RepSl G (π.take n) H σd' σ := by
  obtain ⟨e, k⟩ := f.get
  refine ⟨r.1.trans e, fun i d q => ?_⟩
  obtain ⟨h1, c⟩ := k i d q
  obtain ⟨v, h2, h3⟩ := r.2 i d h1
  exact ⟨v, h2, h3.drop n c⟩
/-- what is wanted behind is wanted of the forgotten -/
theorem wk_use {B : Bs} {π π' : List Addr} {H H' : Hp} {S' : Store} {σd' : Sl} {σ' : L2.St} {R : Sl → Store → Prop} {Q : L2.St → Hp → Prop} {n0 : Nat} (hn : π.length ≤ n0) (k : ∀ π' S' σd', Ext B.G π H π' H' → RepS B.G π' H' S' → RepSl B.G π' H' σd' σ' → R σd' S' → Q σ' H')
    (x : Ext B.G π H π' H') (R' : RepS B.G π' H' S') (rs : RepSl B.G π' H' σd' σ') (q : Wk n0 R σd' S') : Q σ' H' := by
  rcases q with q | ⟨n, σ2, h1, h2, h3, q⟩
  · exact k π' S' σd' x R' rs q
  · exact k _ _ _ (x.drop (Nat.le_trans hn h1)) (R'.drop n h3) (rs.drop h2) q
theorem gc_use {B : Bs} {π π' : List Addr} {H H' : Hp} {S' : Store} {d : Dv} {v : V} {R : KD} {Q : VK} {n0 : Nat} (hn : π.length ≤ n0) (k : KV' B π H R Q)
    (x : Ext B.G π H π' H') (R' : RepS B.G π' H' S') (rs : Rep B.G π' H' d v) (q : Gc n0 R d S') : Q v H' := by
  rcases q with q | ⟨n, h1, h2, h3, q⟩
  · exact k π' H' S' d v x R' rs q
  · exact k _ _ _ d v (x.drop (Nat.le_trans hn h1)) (R'.drop n h3) (rs.drop n h2) q
def sWhile (c : TTd) (tb : TSd) : TSd := fun D σ S => ∃ Pv : Nat → Sl → Store → Prop, (∃ m, Pv m σ S) ∧ ∀ m σ1 S1, Pv m σ1 S1 → c σ1 S1 fun b S2 =>
  if b = true then tb { D with nx := Wk S.length fun σ' S' => ∃ m', m' < m ∧ Pv m' σ' S', ct := Wk S.length fun σ' S' => ∃ m', m' < m ∧ Pv m' σ' S', bk := D.nx } σ1 S2 else D.nx σ1 S2
structure Itd where
  items : List Dv
  ok : Store → Prop
abbrev TId := Sl → Store → (Itd → Store → Prop) → Prop
def ItR (B : Bs) (π0 : List Addr) (H0 : Hp) (J : It) (Jd : Itd) : Prop := ∀ π H S (i : Nat), Ext B.G π0 H0 π H → RepS B.G π H S → Jd.ok S →
  (i < Jd.items.length → J.go i H ∧ ∀ x H', J.yld i H x H' → RepS B.G π H' S ∧ Ext B.G π H π H' ∧ ∃ d, Jd.items[i]? = some d ∧ Rep B.G π H' d x) ∧ (i = Jd.items.length → J.stop i H)
def LI (B : Bs) (wd : TId) : TI := fun σ H R => ∃ π S σd Rd, Rs B π H S σd σ ∧ wd σd S Rd ∧ ∀ π' H' S' J Jd, Ext B.G π H π' H' → RepS B.G π' H' S' → ItR B π' H' J Jd → Rd Jd S' → R J H'
def sFor (wi : TId) (g : TGd) (tb : TSd) : TSd := fun D σ S => wi σ S fun J S1 => ∃ Pv : Nat → Sl → Store → Prop, Pv 0 σ S1 ∧ (∀ i σ S, i ≤ J.items.length → Pv i σ S → J.ok S) ∧
  (∀ (i : Nat) d σ S, J.items[i]? = some d → Pv i σ S → g d σ S fun σ2 S2 => tb { D with nx := Wk S1.length (Pv (i + 1)), ct := Wk S1.length (Pv (i + 1)), bk := D.nx } σ2 S2) ∧ ∀ σ S, Pv J.items.length σ S → D.nx σ S
section
variable {X : Cx} {B : Bs} {pos : Pos}
theorem sWhile' {c : Expr} {body : List Stmt} {tc : TTd} {tb : TSd} (hp : PassesOwn (model X.prog X.w) X.A X.env X.xe) (hc : PT X c (LT B tc)) (hb : PSs X body (LS B tb)) : PS X (.While c body [] pos) (LS B (sWhile tc tb)) := PS_imp (ps_while hp hc hb) (by
  rintro D σ H ⟨π, S, σd, Dd, R, ⟨Pv, ⟨m, h0⟩, hs⟩, k⟩
  refine ⟨fun m σ' H' => ∃ π' S' σd', Ext B.G π H π' H' ∧ RepS B.G π' H' S' ∧ RepSl B.G π' H' σd' σ' ∧ Pv m σd' S', ⟨m, π, S, σd, Ext.refl _ _ _, R.sto, R.slt, h0⟩, ?_⟩
  rintro m σ1 H1 ⟨π1, S1, σd1, e1, R1, rs1, p1⟩
  refine ⟨π1, S1, σd1, _, ⟨R.ext.trans e1, R1, rs1⟩, hs m σd1 S1 p1, fun π2 H2 S2 b e2 R2 q => ?_⟩
  cases b with
  | false =>
    rw [if_neg Bool.false_ne_true] at q ⊢
    exact k.1 π2 H2 S2 _ _ (e1.trans e2) R2 (rs1.mono e2) q
  | true =>
    rw [if_pos rfl] at q ⊢
    refine ⟨fun σ' H' => ∃ m', m' < m ∧ ∃ π' S' σd', Ext B.G π H π' H' ∧ RepS B.G π' H' S' ∧ RepSl B.G π' H' σd' σ' ∧ Pv m' σd' S', fun σ' H' h => h, π2, S2, σd1, _, ⟨R.ext.trans (e1.trans e2), R2, rs1.mono e2⟩, q, ?_, ?_, ?_, ?_⟩
    · intro π3 H3 S3 σ3 σ3' e3 R3 rs3 q3
      refine wk_use (π := π) (H := H) (R := fun σ' S' => ∃ m', m' < m ∧ Pv m' σ' S') (Q := fun σ' H' => ∃ m', m' < m ∧ ∃ π' S' σd', Ext B.G π H π' H' ∧ RepS B.G π' H' S' ∧ RepSl B.G π' H' σd' σ' ∧ Pv m' σd' S') (Nat.le_of_eq R.sto.len) (fun π' S' σd' x R' rs q => ?_) (e1.trans (e2.trans e3)) R3 rs3 q3
      obtain ⟨m', hm, p⟩ := q
      exact ⟨m', hm, π', S', σd', x, R', rs, p⟩
    · exact (k.to (e1.trans e2)).2.1
    · exact (k.to (e1.trans e2)).1
    · intro π3 H3 S3 σ3 σ3' e3 R3 rs3 q3
      refine wk_use (π := π) (H := H) (R := fun σ' S' => ∃ m', m' < m ∧ Pv m' σ' S') (Q := fun σ' H' => ∃ m', m' < m ∧ ∃ π' S' σd', Ext B.G π H π' H' ∧ RepS B.G π' H' S' ∧ RepSl B.G π' H' σd' σ' ∧ Pv m' σd' S') (Nat.le_of_eq R.sto.len) (fun π' S' σd' x R' rs q => ?_) (e1.trans (e2.trans e3)) R3 rs3 q3
      obtain ⟨m', hm, p⟩ := q
      exact ⟨m', hm, π', S', σd', x, R', rs, p⟩)
theorem sFor' {tg iter : Expr} {body : List Stmt} {wi : TId} {g : TGd} {tb : TSd} (hp : PassesOwn (model X.prog X.w) X.A X.env X.xe) (hc : X.calm = true) (hi : PI X tg iter (LI B wi)) (hg : PG X tg (LG B g)) (hb : PSs X body (LS B tb))
    (hs : ∀ x, foldedSetIterable iter X.env x = pure x := by intro _; rfl) : PS X (.For tg iter body [] pos) (LS B (sFor wi g tb)) := PS_imp (ps_for hp hc hi hg hb hs) (by
  rintro D σ H ⟨π, S, σd, Dd, R, q, k⟩
  refine ⟨π, S, σd, _, R, q, fun π1 H1 S1 J Jd e1 R1 hJ q => ?_⟩
  obtain ⟨Pv, h0, hl, hs, hd⟩ := q
  have rsl1 := R.slt.mono e1
  refine ⟨fun i m σ' H' => i + m = Jd.items.length ∧ ∃ π' S' σd', Ext B.G π1 H1 π' H' ∧ RepS B.G π' H' S' ∧ RepSl B.G π' H' σd' σ' ∧ Pv i σd' S', ⟨Jd.items.length, Nat.zero_add _, π1, S1, σd, Ext.refl _ _ _, R1, rsl1, h0⟩, ?_⟩
  rintro i m σ2 H2 ⟨em, π2, S2, σd2, e2, R2, rs2, p2⟩
  have ok := hl i σd2 S2 (by omega) p2
  obtain ⟨J1, J2⟩ := hJ π2 H2 S2 i e2 R2 ok
  by_cases hi : i < Jd.items.length
  · obtain ⟨J3, J4⟩ := J1 hi
    refine .inr ⟨J3, fun σ' H' => ∃ m', m' < m ∧ i + 1 + m' = Jd.items.length ∧ ∃ π' S' σd', Ext B.G π1 H1 π' H' ∧ RepS B.G π' H' S' ∧ RepSl B.G π' H' σd' σ' ∧ Pv (i + 1) σd' S', fun σ' H' h => h, fun x H3 hy => ?_⟩
    obtain ⟨R3, e3, d, hd', rx⟩ := J4 x H3 hy
    have e123 := e1.trans (e2.trans e3)
    refine ⟨π2, S2, σd2, d, _, ⟨R.ext.trans e123, R3, rs2.mono e3⟩, rx, hs i d σd2 S2 hd' p2, fun π4 H4 S4 σ4 σ4' e4 R4 rs4 q4 => ?_⟩
    have e234 := e2.trans (e3.trans e4)
    refine ⟨π4, S4, σ4, _, ⟨R.ext.trans (e1.trans e234), R4, rs4⟩, q4, ?_, ?_, ?_, ?_⟩
    · intro π5 H5 S5 σ5 σ5' e5 R5 rs5 q5
      refine wk_use (π := π1) (H := H1) (Q := fun σ' H' => ∃ m', m' < m ∧ i + 1 + m' = Jd.items.length ∧ ∃ π' S' σd', Ext B.G π1 H1 π' H' ∧ RepS B.G π' H' S' ∧ RepSl B.G π' H' σd' σ' ∧ Pv (i + 1) σd' S') (Nat.le_of_eq R1.len) (fun π' S' σd' x R' rs q => ?_) (e234.trans e5) R5 rs5 q5
      exact ⟨m - 1, by omega, by omega, π', S', σd', x, R', rs, q⟩
    · exact (k.to (e1.trans e234)).2.1
    · exact (k.to (e1.trans e234)).1
    · intro π5 H5 S5 σ5 σ5' e5 R5 rs5 q5
      refine wk_use (π := π1) (H := H1) (Q := fun σ' H' => ∃ m', m' < m ∧ i + 1 + m' = Jd.items.length ∧ ∃ π' S' σd', Ext B.G π1 H1 π' H' ∧ RepS B.G π' H' S' ∧ RepSl B.G π' H' σd' σ' ∧ Pv (i + 1) σd' S') (Nat.le_of_eq R1.len) (fun π' S' σd' x R' rs q => ?_) (e234.trans e5) R5 rs5 q5
      exact ⟨m - 1, by omega, by omega, π', S', σd', x, R', rs, q⟩
  · have ei : i = Jd.items.length := by omega
    subst ei
    exact .inl ⟨J2 rfl, k.1 π2 H2 S2 _ _ (e1.trans e2) R2 rs2 (hd σd2 S2 p2)⟩)
end
def iSeq (t : TEd) : TId := fun σ S R => t σ S fun x S1 => ∃ ds, seqOf S1 x = some ds ∧ R ⟨ds, fun S' => seqOf S' x = some ds⟩ S1
def iRg1 (t : TAd) : TId := fun σ S R => t σ S fun vs S1 => ∃ j : Int, vs = [.int j] ∧ -(2 ^ 62) ≤ j ∧ j < 2 ^ 62 ∧ R ⟨(List.range j.toNat).map fun k : Nat => .int (0 + k), fun _ => True⟩ S1
def iRg3 (t : TAd) : TId := fun σ S R => t σ S fun vs S1 => ∃ (i j c : Int) (n : Nat), vs = [.int i, .int j, .int c] ∧ RgC i j c n ∧ R ⟨(List.range n).map fun k : Nat => .int (i + (k : Int) * c), fun _ => True⟩ S1
def iEnumD (t : TAd) : TId := fun σ S R => t σ S fun vs S1 => ∃ x ds, vs = [x] ∧ seqOf S1 x = some ds ∧ R ⟨ds.zipIdx.map fun p => .tup [.int (p.2 : Nat), p.1], fun S' => seqOf S' x = some ds⟩ S1
def iZipD (t : TAd) : TId := fun σ S R => t σ S fun vs S1 => ∃ x y ds es, vs = [x, y] ∧ seqOf S1 x = some ds ∧ seqOf S1 y = some es ∧ R ⟨(ds.zip es).map fun p => .tup [p.1, p.2], fun S' => seqOf S' x = some ds ∧ seqOf S' y = some es⟩ S1
def iStr (t : TEd) : TId := fun σ S R => t σ S fun x S1 => ∃ z : Str, x = .str z ∧ R ⟨z.cps.toList.map fun c => .str ⟨#[c]⟩, fun _ => True⟩ S1
theorem PI_imp {X : Cx} {tg iter : Expr} {t t' : TI} (h : PI X tg iter t) (k : ∀ σ H R, t' σ H R → t σ H R) : PI X tg iter t' := ⟨fun pins s σ H R I q => h.run pins s σ H R I (k σ H R q)⟩
def kOf : Dv → Bool
  | .tup _ => false
  | _ => true
section
variable {G : Cf} {π : List Addr} {H : Hp} {S : Store} {B : Bs}
theorem seq_repK (R : RepS G π H S) {d : Dv} {v : V} {ds : List Dv} (r : Rep G π H d v) (h : seqOf S d = some ds) : ∃ a xs, v = .ref a ∧ SqK G.K (kOf d) H a xs ∧ RepL G π H ds xs := by
  cases r <;> first | (cases h; done) | skip
  · obtain ⟨a, e, _, xs, h1, l⟩ := R.here (getL_iff.mp h) (.obj ‹_›)
    cases e
    exact ⟨_, xs, rfl, SqL.of h1, l⟩
  · rename_i h1 l
    cases h
    exact ⟨_, _, rfl, h1.sq, l⟩
  · rename_i h1 l
    cases h
    exact ⟨_, _, rfl, h1.sq, l⟩
/-- the same source later on -/
theorem seq_at (R : RepS G π H S) {d : Dv} {a : Addr} {ds : List Dv} (r : Rep G π H d (.ref a)) (h : seqOf S d = some ds) : ∃ xs, SqK G.K (kOf d) H a xs ∧ RepL G π H ds xs := by
  obtain ⟨a', xs, e, h1, h2⟩ := seq_repK R r h
  cases e
  exact ⟨xs, h1, h2⟩
theorem itR_seq {d : Dv} {a : Addr} {ds : List Dv} (r : Rep B.G π H d (.ref a)) : ItR B π H (if kOf d = true then Itl B.G.K a else Itt B.G.K a) ⟨ds, fun S' => seqOf S' d = some ds⟩ := by
  intro π1 H1 S1 i e1 R1 ok
  obtain ⟨xs, hq, l⟩ := seq_at R1 (r.mono e1) ok
  have go : i < ds.length → ∃ x, xs[i]? = some x := fun hi => ⟨_, List.getElem?_eq_getElem (show i < xs.length by rw [← l.length]; exact hi)⟩
  have ye : ∀ x, xs[i]? = some x → ∃ d, ds[i]? = some d ∧ Rep B.G π1 H1 d x := fun x hx => l.getV hx
  cases hk : kOf d
  · rw [hk] at hq
    refine ⟨fun hi => ?_, fun hi => ⟨xs, hq, by rw [hi, l.length]; exact Nat.le_refl _⟩⟩
    obtain ⟨x, hx⟩ := go hi
    refine ⟨⟨xs, x, hq, hx⟩, fun y H' hy => ?_⟩
    obtain ⟨rfl, hy⟩ := hy
    exact ⟨R1, Ext.refl _ _ _, ye y (hy xs hq)⟩
  · rw [hk] at hq
    refine ⟨fun hi => ?_, fun hi => ⟨xs, hq, by rw [hi, l.length]; exact Nat.le_refl _⟩⟩
    obtain ⟨x, hx⟩ := go hi
    refine ⟨⟨xs, x, hq, hx⟩, fun y H' hy => ?_⟩
    obtain ⟨rfl, hy⟩ := hy
    exact ⟨R1, Ext.refl _ _ _, ye y (hy xs hq)⟩
theorem itR_fn {J : It} {n : Nat} {f : Nat → Dv} {fV : Nat → V} (hg : ∀ i H, i < n → J.go i H) (hy : ∀ i H x H', i < n → J.yld i H x H' → H' = H ∧ x = fV i) (hs : ∀ H, J.stop n H) (hr : ∀ i G π H, Rep G π H (f i) (fV i)) :
    ItR B π H J ⟨(List.range n).map f, fun _ => True⟩ := by
  intro π1 H1 S1 i e1 R1 ok
  refine ⟨fun hi => ?_, fun hi => ?_⟩
  · rw [List.length_map, List.length_range] at hi
    refine ⟨hg i H1 hi, fun x H' q => ?_⟩
    obtain ⟨rfl, rfl⟩ := hy i H1 x H' hi q
    exact ⟨R1, Ext.refl _ _ _, f i, by rw [List.getElem?_map, List.getElem?_range hi]; rfl, hr i _ _ _⟩
  · rw [List.length_map, List.length_range] at hi
    rw [hi]
    exact hs H1
end
section
variable {X : Cx} {B : Bs} {pos : Pos} {tg : Expr}
theorem iSeq' {l : Expr} {tl : TEd} (hK : B.G.K = X.K := by rfl) (hl : PE X l (LE B tl)) : PI X tg l (LI B (iSeq tl)) := PI_imp (pi_sqK hl) (by
  rintro σ H R ⟨π, S, σd, Rd, R0, q, k⟩
  refine ⟨π, S, σd, _, R0, q, fun π1 H1 S1 x v e1 R1 rx q => ?_⟩
  obtain ⟨ds, h, q⟩ := q
  obtain ⟨a, xs, rfl, hq, l⟩ := seq_repK R1 rx h
  have it := itR_seq (ds := ds) rx
  rw [hK] at hq it
  exact ⟨a, kOf x, xs, rfl, hq, k π1 H1 S1 _ _ e1 R1 it q⟩)
theorem iRg1' {a : Expr} {ta : TAd} {p : Pos} (hg : Gl X "range") (hm : X.mg "range" = none) (ha : PA X [a] (LA B ta)) (hs : starEach [a] X.env = [(false, eval a X.env)] := by rfl) : PI X tg (.Call (.Name "range" p) [a] [] pos) (LI B (iRg1 ta)) := PI_imp (pi_range1 hg hm ha hs) (by
  rintro σ H R ⟨π, S, σd, Rd, R0, q, k⟩
  refine ⟨π, S, σd, _, R0, q, fun π1 H1 S1 ds vs e1 R1 rx q => ?_⟩
  obtain ⟨j, rfl, h1, h2, q⟩ := q
  obtain ⟨v, rfl, r1⟩ := rx.one_inv
  obtain rfl := r1.int_inv
  refine ⟨j, rfl, h1, h2, k π1 H1 S1 _ _ e1 R1 (itR_fn (fV := fun i : Nat => .int (0 + i)) (fun i H hi => hi) (fun i H x H' hi q => q) (fun H => Nat.le_refl _) fun i G π H => .int _) q⟩)
theorem iRg3' {a b c : Expr} {ta : TAd} {p : Pos} (hg : Gl X "range") (hm : X.mg "range" = none) (ha : PA X [a, b, c] (LA B ta)) (hs : starEach [a, b, c] X.env = (false, eval a X.env) :: starEach [b, c] X.env := by rfl) (hpl : (backTo pos (starEach [b, c] X.env)).any (·.1) = false := by rfl) :
    PI X tg (.Call (.Name "range" p) [a, b, c] [] pos) (LI B (iRg3 ta)) := PI_imp (pi_range3 hg hm ha hs hpl) (by
  rintro σ H R ⟨π, S, σd, Rd, R0, q, k⟩
  refine ⟨π, S, σd, _, R0, q, fun π1 H1 S1 ds vs e1 R1 rx q => ?_⟩
  obtain ⟨i, j, c, n, rfl, h1, q⟩ := q
  cases rx with
  | cons r1 rx =>
    obtain ⟨v, u, rfl, r2, r3⟩ := rx.two_inv
    obtain rfl := r1.int_inv
    obtain rfl := r2.int_inv
    obtain rfl := r3.int_inv
    refine ⟨i, j, c, n, rfl, h1, k π1 H1 S1 _ _ e1 R1 (itR_fn (fV := fun k : Nat => .int (i + (k : Int) * c)) (fun i H hi => hi) (fun i H x H' hi q => q) (fun H => Nat.le_refl _) fun i G π H => .int _) q⟩)
theorem iStr' {l : Expr} {tl : TEd} (hl : PE X l (LE B tl)) : PI X tg l (LI B (iStr tl)) := PI_imp (pi_str hl) (by
  rintro σ H R ⟨π, S, σd, Rd, R0, q, k⟩
  refine ⟨π, S, σd, _, R0, q, fun π1 H1 S1 x v e1 R1 rx q => ?_⟩
  obtain ⟨z, rfl, q⟩ := q
  obtain rfl := rx.str_inv
  refine ⟨z, rfl, k π1 H1 S1 _ _ e1 R1 ?_ q⟩
  intro π2 H2 S2 i e2 R2 ok
  have w := walk_str (z := z)
  refine ⟨fun hi => ?_, fun hi => ?_⟩
  · rw [List.length_map, Array.length_toList] at hi
    refine ⟨w.goes i H2 hi trivial, fun x H' hy => ?_⟩
    obtain ⟨rfl, c, hc, rfl⟩ := w.yields i H2 x H' hi trivial hy
    exact ⟨R2, Ext.refl _ _ _, .str ⟨#[c]⟩, by rw [List.getElem?_map, Array.getElem?_toList, hc]; rfl, .str _⟩
  · rw [List.length_map, Array.length_toList] at hi
    rw [hi]
    exact w.stops H2 trivial)
theorem rep_pair {G : Cf} {π : List Addr} {H : Hp} {S : Store} (R : RepS G π H S) {ds : List Dv} {vs : List V} (l : RepL G π H ds vs) {T : Addr} (hT : H T = none) : RepS G π (upd H T (.tup vs)) S ∧ Ext G π H π (upd H T (.tup vs)) ∧ Rep G π (upd H T (.tup vs)) (.tup ds) (.ref T) := by
  obtain ⟨R1, x⟩ := step_aside R (o := .tup vs) hT
  exact ⟨R1, x, .tup (.inl upd_same) (l.mono x)⟩
theorem iEnum' {e : Expr} {ta : TAd} {p tpos : Pos} {elts : List Expr} {kk : Nat} (hK : B.G.K = X.K := by rfl) (hg : Gl X "enumerate") (hm : X.mg "enumerate" = none) (ha : PA X [e] (LA B ta)) (hs : starEach [e] X.env = [(false, eval e X.env)] := by rfl) :
    PI X (.Tuple elts kk tpos) (.Call (.Name "enumerate" p) [e] [] pos) (LI B (iEnumD ta)) := PI_imp (pi_enumK hg hm ha hs) (by
  rintro σ H R ⟨π, S, σd, Rd, R0, q, k⟩
  refine ⟨π, S, σd, _, R0, q, fun π1 H1 S1 ys vs e1 R1 rx q => ?_⟩
  obtain ⟨x, ds, rfl, h, q⟩ := q
  obtain ⟨v, rfl, rx1⟩ := rx.one_inv
  clear rx
  have rx := rx1
  obtain ⟨a, xs, rfl, hq, l⟩ := seq_repK R1 rx h
  rw [hK] at hq
  refine ⟨a, kOf x, xs, rfl, hq, k π1 H1 S1 _ _ e1 R1 ?_ q⟩
  intro π2 H2 S2 i e2 R2 ok
  obtain ⟨zs, hz, lz⟩ := seq_at R2 (rx.mono e2) ok
  rw [hK] at hz
  refine ⟨fun hi => ?_, fun hi => ?_⟩
  · rw [List.length_map, List.length_zipIdx] at hi
    have hi' : i < zs.length := by rw [← lz.length]; exact hi
    refine ⟨⟨zs, zs[i], hz, List.getElem?_eq_getElem hi'⟩, fun y H' hy => ?_⟩
    obtain ⟨T, w, rfl, hT, rfl, hy⟩ := hy
    obtain ⟨d, hd, rd⟩ := lz.getV (hy zs hz)
    obtain ⟨R3, e3, r3⟩ := rep_pair R2 (.cons (.int (i : Nat)) (.one rd)) hT
    exact ⟨R3, e3, _, by rw [List.getElem?_map, List.getElem?_zipIdx, hd]; simp, r3⟩
  · rw [List.length_map, List.length_zipIdx, lz.length] at hi
    exact ⟨zs, hz, hi⟩)
theorem iZip' {e e2 : Expr} {ta : TAd} {p tpos : Pos} {elts : List Expr} {kk : Nat} (hK : B.G.K = X.K := by rfl) (hg : Gl X "zip") (hm : X.mg "zip" = none) (ha : PA X [e, e2] (LA B ta))
    (hs : starEach [e, e2] X.env = (false, eval e X.env) :: starEach [e2] X.env := by rfl) (hpl : (backTo pos (starEach [e2] X.env)).any (·.1) = false := by rfl) :
    PI X (.Tuple elts kk tpos) (.Call (.Name "zip" p) [e, e2] [] pos) (LI B (iZipD ta)) := PI_imp (pi_zipK hg hm ha hs hpl) (by
  rintro σ H R ⟨π, S, σd, Rd, R0, q, k⟩
  refine ⟨π, S, σd, _, R0, q, fun π1 H1 S1 ws vs e1 R1 rx q => ?_⟩
  obtain ⟨x, y, ds, es, rfl, h1, h2, q⟩ := q
  obtain ⟨v, u, rfl, rx1, ry⟩ := rx.two_inv
  clear rx
  have rx := rx1
  clear rx1
  obtain ⟨a, xs, rfl, hq, l⟩ := seq_repK R1 rx h1
  obtain ⟨b, ys, rfl, hr, l2⟩ := seq_repK R1 ry h2
  rw [hK] at hq hr
  refine ⟨a, b, kOf x, kOf y, xs, ys, rfl, hq, hr, k π1 H1 S1 _ _ e1 R1 ?_ q⟩
  intro π2 H2 S2 i e2 R2 ok
  obtain ⟨zs, hz, lz⟩ := seq_at R2 (rx.mono e2) ok.1
  obtain ⟨ws, hw, lw⟩ := seq_at R2 (ry.mono e2) ok.2
  rw [hK] at hz hw
  have len : ((ds.zip es).map fun p => Dv.tup [p.1, p.2]).length = min zs.length ws.length := by rw [List.length_map, List.length_zip, lz.length, lw.length]
  refine ⟨fun hi => ?_, fun hi => ?_⟩
  · have hi' : i < min zs.length ws.length := by rw [← len]; exact hi
    refine ⟨⟨zs, ws, hz, hw, hi'⟩, fun y H' hy => ?_⟩
    obtain ⟨T, x', y', rfl, hT, rfl, hy1, hy2⟩ := hy
    obtain ⟨d, hd, rd⟩ := lz.getV (hy1 zs hz)
    obtain ⟨d2, hd2, rd2⟩ := lw.getV (hy2 ws hw)
    obtain ⟨R3, e3, r3⟩ := rep_pair R2 (.cons rd (.one rd2)) hT
    exact ⟨R3, e3, .tup [d, d2], by rw [List.getElem?_map, (List.getElem?_zip_eq_some (z := (d, d2))).mpr ⟨hd, hd2⟩]; rfl, r3⟩
  · exact ⟨zs, ws, hz, hw, hi.trans len⟩)
end
end D3
set_option Elab.async false
set_option linter.all false
set_option maxRecDepth 100000
set_option maxHeartbeats 2000000
namespace D3
open PySem PySem.Spec PyProof.Rows L2
/-- a target of a comprehension: a name, or names of a tuple or list of that many -/
inductive Tg where
  | one (i : Nat) | many (is : List Nat)
def Tg.slots : Tg → List Nat
  | .one i => [i]
  | .many is => is
def setsV : List Nat → List V → L2.St → L2.St
  | i :: is, v :: vs, σ => setsV is vs (σ.set i (some v))
  | _, _, σ => σ
def setsD : List Nat → List Dv → Sl → Sl
  | i :: is, d :: ds, σ => setsD is ds (σ.set i (some d))
  | _, _, σ => σ
def Tg.rdV (K : PySem.W.Frag) : Tg → TG
  | .one i => fun v σ H Q => Q (σ.set i (some v)) H
  | .many is => fun v σ H Q => ∃ a xs, v = .ref a ∧ (SqL K H a xs ∨ SqT K H a xs) ∧ xs.length = is.length ∧ Q (setsV is xs σ) H
def Tg.rd : Tg → TGd
  | .one i => fun d σ S Q => Q (σ.set i (some d)) S
  | .many is => fun d σ S Q => ∃ ds, seqOf S d = some ds ∧ ds.length = is.length ∧ Q (setsD is ds σ) S
theorem wipe_set {i : Nat} {o : Option V} : ∀ {vs : List Nat} {σ : L2.St}, i ∈ vs → wipe (σ.set i o) vs = wipe σ vs
  | v :: vs, σ, h => by
    show (wipe (σ.set i o) vs).set v none = (wipe σ vs).set v none
    by_cases e : i ∈ vs
    · rw [wipe_set e]
    · have ev : i = v := by
        rcases List.mem_cons.mp h with q | q
        · exact q
        · exact (e q).elim
      subst ev
      refine List.ext_getElem? fun j => ?_
      by_cases hj : j = i
      · subst hj
        by_cases hl : j < σ.length
        · rw [List.getElem?_set_self (by rw [wipe_length, List.length_set]; exact hl), List.getElem?_set_self (by rw [wipe_length]; exact hl)]
        · rw [List.getElem?_eq_none (by rw [List.length_set, wipe_length, List.length_set]; omega), List.getElem?_eq_none (by rw [List.length_set, wipe_length]; omega)]
      · rw [List.getElem?_set_ne (fun q => hj q.symm), List.getElem?_set_ne (fun q => hj q.symm)]
        exact wipe_other hj vs σ
  where
    wipe_other {i j : Nat} {o : Option V} (hj : j ≠ i) : ∀ (vs : List Nat) (σ : L2.St), (wipe (σ.set i o) vs)[j]? = (wipe σ vs)[j]?
    | [], σ => List.getElem?_set_ne (fun q => hj q.symm)
    | v :: vs, σ => by
      show ((wipe (σ.set i o) vs).set v none)[j]? = ((wipe σ vs).set v none)[j]?
      by_cases e : v = j
      · subst e
        by_cases hl : v < σ.length
        · rw [List.getElem?_set_self (by rw [wipe_length, List.length_set]; exact hl), List.getElem?_set_self (by rw [wipe_length]; exact hl)]
        · rw [List.getElem?_eq_none (by rw [List.length_set, wipe_length, List.length_set]; omega), List.getElem?_eq_none (by rw [List.length_set, wipe_length]; omega)]
      · rw [List.getElem?_set_ne e, List.getElem?_set_ne e]
        exact wipe_other hj vs σ
theorem wipe_sets {vs : List Nat} : ∀ (is : List Nat) (xs : List V) (σ : L2.St), (∀ i ∈ is, i ∈ vs) → wipe (setsV is xs σ) vs = wipe σ vs
  | [], _, _, _ => rfl
  | _ :: _, [], _, _ => rfl
  | i :: is, x :: xs, σ, h => by
    show wipe (setsV is xs (σ.set i (some x))) vs = wipe σ vs
    rw [wipe_sets is xs _ fun j hj => h j (List.mem_cons_of_mem _ hj), wipe_set (h i List.mem_cons_self)]
theorem wipe_wipe {us : List Nat} : ∀ (vs : List Nat) (σ : L2.St), (∀ i ∈ vs, i ∈ us) → wipe (wipe σ vs) us = wipe σ us
  | [], _, _ => rfl
  | v :: vs, σ, h => by
    show wipe ((wipe σ vs).set v none) us = wipe σ us
    rw [wipe_set (h v List.mem_cons_self), wipe_wipe vs σ fun j hj => h j (List.mem_cons_of_mem _ hj)]
def wipeD (σ : Sl) : List Nat → Sl
  | [] => σ
  | v :: vs => (wipeD σ vs).set v none
theorem RepSl.wipe {G : Cf} {π : List Addr} {H : Hp} {σd : Sl} {σ : L2.St} (r : RepSl G π H σd σ) : ∀ vs : List Nat, RepSl G π H (wipeD σd vs) (wipe σ vs)
  | [] => r
  | v :: vs => (r.wipe vs).setN v none
theorem RepSl.sets {G : Cf} {π : List Addr} {H : Hp} : ∀ {is : List Nat} {ds : List Dv} {xs : List V} {σd : Sl} {σ : L2.St}, RepSl G π H σd σ → RepL G π H ds xs → RepSl G π H (setsD is ds σd) (setsV is xs σ)
  | [], _, _, _, _, r, _ => r
  | _ :: _, _, _, _, _, r, .nil => r
  | i :: is, d :: ds, x :: xs, σd, σ, r, .cons h t => by
    show RepSl G π H (setsD is ds (σd.set i (some d))) (setsV is xs (σ.set i (some x)))
    exact RepSl.sets (r.set h i) t
section
variable {X : Cx} {pos : Pos}
theorem gOne {i : Nat} {x : Str} (hN : X.N.Nodup) (hi : X.N[i]? = some x) (hx : Loc X.env.scope x) (hf : X.fn x = true ∨ X.env.scope.names.lookup x = some .local := by first | exact .inl rfl | exact .inr rfl | assumption) : PG X (.Name x pos) ((Tg.one i).rdV X.K) := pg_name hN hi hx hf
end
theorem Tg.lift {B : Bs} {π : List Addr} {H : Hp} {S : Store} {σd : Sl} {σ : L2.St} {d : Dv} {v : V} (t : Tg) {vs : List Nat} (hv : ∀ i ∈ t.slots, i ∈ vs) (R : RepS B.G π H S) (r : Rep B.G π H d v) (rs : RepSl B.G π H (wipeD σd vs) (wipe σ vs)) {Qd : Sl → Store → Prop} {Q : L2.St → Hp → Prop}
    (h : t.rd d (wipeD σd vs) S Qd) (k : ∀ σd2 σ2, L2.wipe σ2 vs = L2.wipe σ vs → RepSl B.G π H σd2 σ2 → Qd σd2 S → Q σ2 H) : t.rdV B.G.K v (L2.wipe σ vs) H Q := by
  have ww : L2.wipe (L2.wipe σ vs) vs = L2.wipe σ vs := wipe_wipe vs σ fun i hi => hi
  cases t with
  | one i =>
    exact k _ _ (by rw [wipe_set (hv i List.mem_cons_self), ww]) (rs.set r i) h
  | many is =>
    obtain ⟨ds, g, e, h⟩ := h
    obtain ⟨a, xs, rfl, hs, l⟩ := seq_rep R r g
    exact ⟨a, xs, rfl, hs.imp id TpL.sq, by rw [← l.length]; exact e, k _ _ (by rw [wipe_sets is xs _ hv, ww]) (rs.sets l) h⟩
/-- the store, forgotten behind the first n -/
def Wc (n0 : Nat) (acc : List Dv) (R : Store → Prop) : Store → Prop := fun S => R S ∨ ∃ n, n0 ≤ n ∧ Dv.cloL n acc = true ∧ StClo (S.take n) ∧ R (S.take n)
def cYes : TTd := fun _ S Q => Q true S
def eLc (wi : TId) (t : Tg) (tt : TTd) (te : TEd) (vs : List Nat) : TEd := fun σ S Q => wi σ S fun J S1 => ∃ Pv : Nat → List Dv → Store → Prop, Pv 0 [] S1 ∧ (∀ i acc S, i ≤ J.items.length → Pv i acc S → J.ok S ∧ acc.length < sizeLine) ∧
  (∀ (i : Nat) d acc S, J.items[i]? = some d → Pv i acc S → t.rd d (wipeD σ vs) S fun σ2 S2 => tt σ2 S2 fun b S3 =>
    if b = true then te σ2 S3 fun y S4 => Wc S1.length (acc ++ [y]) (Pv (i + 1) (acc ++ [y])) S4 else Wc S1.length acc (Pv (i + 1) acc) S3) ∧ ∀ acc S, Pv J.items.length acc S → Q (.obj S.length) (S ++ [.lst acc])
section
variable {G : Cf} {π1 π : List Addr} {H1 H : Hp} {S : Store}
/-- the new list that stands aside is written -/
theorem aside_write {D : Addr} {xs ys : List V} (x : Ext G π1 H1 π H) (R : RepS G π H S) (h1 : H1 D = none) (hD : H D = some (.lst xs)) (hn : D ∉ π) :
    Ext G π1 H1 π (upd H D (.lst ys)) ∧ RepS G π (upd H D (.lst ys)) S ∧ Mon G π H π (upd H D (.lst ys)) := by
  have kp : ∀ b u, H b = some u → b ≠ D → upd H D (.lst ys) b = some u := fun b u e n => by rw [upd_ne n]; exact e
  have tp : ∀ a zs, TpL G.K H a zs → TpL G.K (upd H D (.lst ys)) a zs := fun a zs h => by
    rcases h with h | h
    · exact .inl (kp _ _ h fun z => by rw [z, hD] at h; cases h)
    · exact .inr h
  have fz : ∀ a zs, FzL G.K H a zs → FzL G.K (upd H D (.lst ys)) a zs := fun a zs h => by
    rcases h with ⟨o, h⟩ | h
    · exact .inl ⟨o, kp _ _ h fun z => by rw [z, hD] at h; cases h⟩
    · exact .inr h
  have mo : Mon G π H π (upd H D (.lst ys)) := ⟨fun _ _ h => h, tp, fz⟩
  refine ⟨⟨x.pre, fun a zs h => tp a zs (x.tup a zs h), fun a zs h => fz a zs (x.fzl a zs h), fun b o e hb n => kp _ _ (x.frm b o e hb n) (ne_of_none e h1), fun b e => ?_, fun b od u e => kp _ _ (x.lck b od u e) (ne_of_none e h1)⟩,
    ⟨R.len, R.nd, fun i m a e1 e2 => (R.at_ i m a e1 e2).mon mo (upd_ne fun z => hn (by rw [← z]; exact List.mem_of_getElem? e2)), tabs_keep R.tab fun b o e n => kp b o e fun z => by rw [z, hD] at e; cases e; cases n⟩, mo⟩
  by_cases q : b = D
  · subst q
    obtain ⟨ps, w⟩ := e _ upd_same
    cases w
  · exact x.there b fun u hu => e u (by rw [upd_ne q]; exact hu)
theorem aside_stays {D : Addr} {xs : List V} {π' : List Addr} {H' : Hp} (x : Ext G π H π' H') (hD : H D = some (.lst xs)) (hn : D ∉ π) : H' D = some (.lst xs) ∧ D ∉ π' := by
  refine ⟨x.frm D _ hD hn (fun ps z => by cases z), fun z => ?_⟩
  obtain ⟨t, e, n⟩ := x.pre
  rw [e] at z
  rcases List.mem_append.mp z with z | z
  · exact hn z
  · obtain ⟨ps, w⟩ := n D z _ hD
    cases w
theorem aside_adopt {D : Addr} {xs : List V} {ds : List Dv} (x : Ext G π1 H1 π H) (R : RepS G π H S) (h1 : H1 D = none) (hD : H D = some (.lst xs)) (hn : D ∉ π) (l : RepL G π H ds xs) :
    Ext G π1 H1 (π ++ [D]) H ∧ RepS G (π ++ [D]) H (S ++ [.lst ds]) ∧ Rep G (π ++ [D]) H (.obj S.length) (.ref D) := by
  have mo : Mon G π H (π ++ [D]) H := ⟨fun i a e => by rw [List.getElem?_append_left (List.getElem?_eq_some_iff.mp e).1]; exact e, fun _ _ h => h, fun _ _ h => h⟩
  obtain ⟨t, e, n⟩ := x.pre
  refine ⟨⟨⟨t ++ [D], by rw [e, List.append_assoc], fun a ha => ?_⟩, x.tup, x.fzl, x.frm, x.there, x.lck⟩, step_adopt (m := .lst ds) R hn ⟨xs, hD, l.mon mo⟩, .obj (by rw [← R.len, List.getElem?_append_right (Nat.le_refl _), Nat.sub_self]; rfl)⟩
  rcases List.mem_append.mp ha with q | q
  · exact n a q
  · rw [List.mem_singleton.mp q]; exact .of h1
theorem wc_use {B : Bs} {R' : Store → Prop} {n0 : Nat} {acc : List Dv} {vs : List V} (hn : π1.length ≤ n0) {Q : Prop} (k : ∀ π' S', Ext B.G π1 H1 π' H → RepS B.G π' H S' → RepL B.G π' H acc vs → (∀ D, D ∉ π → D ∉ π') → R' S' → Q)
    (x : Ext B.G π1 H1 π H) (R : RepS B.G π H S) (rs : RepL B.G π H acc vs) (q : Wc n0 acc R' S) : Q := by
  rcases q with q | ⟨n, h1, h2, h3, q⟩
  · exact k π S x R rs (fun _ h => h) q
  · exact k _ _ (x.drop (Nat.le_trans hn h1)) (R.drop n h3) (rs.dropN n h2) (fun D h z => h (List.mem_of_mem_take z)) q
end
theorem LE_lc {B : Bs} (wi : TId) (t : Tg) (tt : TTd) (te : TEd) (vs : List Nat) (hv : ∀ i ∈ t.slots, i ∈ vs) : ∀ σ H Q, LE B (eLc wi t tt te vs) σ H Q → tLc (LI B wi) (t.rdV B.G.K) (LT B tt) (LE B te) vs σ H Q := by
  rintro σ H Q ⟨π, S, σd, Qd, R, q, k⟩
  refine ⟨π, S, σd, _, R, q, fun π1 H1 S1 J Jd e1 R1 hJ q => ?_⟩
  obtain ⟨Pv, h0, hl, hs, hd⟩ := q
  intro D nD
  have rs1 := (R.slt.mono e1).wipe vs
  obtain ⟨R0, x0⟩ := step_aside R1 (o := .lst []) nD
  refine ⟨fun i m H' => i + m = Jd.items.length ∧ ∃ π' S' acc accV, Ext B.G π1 H1 π' H' ∧ RepS B.G π' H' S' ∧ H' D = some (.lst accV) ∧ D ∉ π' ∧ RepL B.G π' H' acc accV ∧ Pv i acc S', ⟨Jd.items.length, Nat.zero_add _, π1, S1, [], [], x0, R0, upd_same, R1.new nD, .nil, h0⟩, ?_⟩
  rintro i m H2 ⟨em, π2, S2, acc, accV, e2, R2, hD2, nD2, l2, p2⟩
  obtain ⟨ok, al⟩ := hl i acc S2 (by omega) p2
  obtain ⟨J1, J2⟩ := hJ π2 H2 S2 i e2 R2 ok
  by_cases hi : i < Jd.items.length
  · obtain ⟨J3, J4⟩ := J1 hi
    refine .inr ⟨J3, fun H' => ∃ m', m' < m ∧ i + 1 + m' = Jd.items.length ∧ ∃ π' S' acc accV, Ext B.G π1 H1 π' H' ∧ RepS B.G π' H' S' ∧ H' D = some (.lst accV) ∧ D ∉ π' ∧ RepL B.G π' H' acc accV ∧ Pv (i + 1) acc S', fun H' h => h, fun x H3 hy => ?_⟩
    obtain ⟨R3, e3, d, hd', rx⟩ := J4 x H3 hy
    have e23 := e2.trans e3
    obtain ⟨hD3, nD3⟩ := aside_stays e3 hD2 nD2
    refine t.lift hv R3 rx (rs1.mono e23) (hs i d acc S2 hd' p2) fun σd4 σ4 ew rs4 q4 => ⟨ew, ?_⟩
    refine ⟨π2, S2, σd4, _, ⟨R.ext.trans (e1.trans e23), R3, rs4⟩, q4, fun π5 H5 S5 b e5 R5 q5 => ?_⟩
    have e235 := e23.trans e5
    obtain ⟨hD5, nD5⟩ := aside_stays e5 hD3 nD3
    cases b with
    | false =>
      rw [if_neg Bool.false_ne_true] at q5
      refine iteF ?_
      refine wc_use (π1 := π1) (H1 := H1) (Nat.le_of_eq R1.len) (fun π' S' x R' rl nd q => ?_) e235 R5 (l2.mono (e3.trans e5)) q5
      exact ⟨m - 1, by omega, by omega, π', S', acc, accV, x, R', hD5, nd D nD5, rl, q⟩
    | true =>
      rw [if_pos rfl] at q5
      refine iteT ?_
      refine ⟨π5, S5, σd4, _, ⟨R.ext.trans (e1.trans e235), R5, rs4.mono e5⟩, q5, fun π6 H6 S6 y v e6 R6 ry q6 => ?_⟩
      have e2356 := e235.trans e6
      obtain ⟨hD6, nD6⟩ := aside_stays e6 hD5 nD5
      have l6 : RepL B.G π6 H6 (acc ++ [y]) (accV ++ [v]) := (l2.mono (e3.trans (e5.trans e6))).append (.one ry)
      obtain ⟨x7, R7, m7⟩ := aside_write (ys := accV ++ [v]) e2356 R6 nD hD6 nD6
      refine ⟨accV, hD6, by rw [← l2.length]; exact al, ?_⟩
      refine wc_use (π1 := π1) (H1 := H1) (Nat.le_of_eq R1.len) (fun π' S' x R' rl nd q => ?_) x7 R7 (l6.mon m7) q6
      exact ⟨m - 1, by omega, by omega, π', S', acc ++ [y], accV ++ [v], x, R', upd_same, nd D nD6, rl, q⟩
  · have ei : i = Jd.items.length := by omega
    subst ei
    obtain ⟨x3, R3, r3⟩ := aside_adopt e2 R2 nD hD2 nD2 l2
    exact .inl ⟨J2 rfl, k _ _ _ _ _ (e1.trans x3) R3 r3 (hd acc S2 p2)⟩
theorem LT_yes {B : Bs} : ∀ σ H Q, LT B cYes σ H Q → tYes σ H Q := by
  rintro σ H Q ⟨π, S, σd, Qd, R, q, k⟩
  exact k π H S true (Ext.refl _ _ _) R.sto q
theorem PTs_imp {X : Cx} {ifs : List Expr} {t t' : TT} (h : PTs X ifs t) (k : ∀ σ H Q, t' σ H Q → t σ H Q) : PTs X ifs t' := ⟨fun pins s σ H Q I q => h.run pins s σ H Q I (k σ H Q q)⟩
theorem ifNo {X : Cx} {B : Bs} : PTs X [] (LT B cYes) := PTs_imp pts_nil LT_yes
section
variable {X : Cx} {B : Bs}
theorem pLc {elt tg iter : Expr} {ifs : List Expr} {scope : Scope} {own : List (Str × Nat)} {pos : Pos} {wi : TId} {g : Tg} {tt : TTd} {te : TEd} (hK : B.G.K = X.K := by rfl) (hc : X.calm = true) (hN : X.N.Nodup) (hi : PI X tg iter (LI B wi)) (ok : BlkOk X.N X.env.scope scope own) (hv : ∀ i ∈ g.slots, i ∈ own.map (·.2))
    (hg : ∀ (s : Shared) (H : Hp) (C : Addr) (cl : List (Str × Addr)) (fp : List Addr), PG (X.blk s H scope (compEnvC scope cl C X.env) fp) tg (g.rdV X.K)) (ht : ∀ (s : Shared) (H : Hp) (C : Addr) (cl : List (Str × Addr)) (fp : List Addr), PTs (X.blk s H scope (compEnvC scope cl C X.env) fp) ifs (LT B tt))
    (he : ∀ (s : Shared) (H : Hp) (C : Addr) (cl : List (Str × Addr)) (fp : List Addr), PE (X.blk s H scope (compEnvC scope cl C X.env) fp) elt (LE B te)) (hs : ∀ x, foldedSetIterable iter X.env x = pure x := by intro _; rfl) :
    PE X (.ListComp elt [⟨tg, iter, ifs, 0⟩] scope pos) (LE B (eLc wi g tt te (own.map (·.2)))) :=
  PE_imp (pe_lc hc hN hi ok hg ht he hs) (by rw [← hK]; exact LE_lc wi g tt te _ hv)
end
end D3
set_option Elab.async false
set_option linter.all false
set_option maxRecDepth 100000
set_option maxHeartbeats 2000000
namespace D3
open PySem PySem.Spec PyProof.Rows L2
structure Exn where
  cls : Addr
  fs : Option (List (Str × Dv))
def ExR (G : Cf) (π : List Addr) (H : Hp) (x : Exn) (cls : Value) (d : Option Addr) : Prop :=
  cls = .ref x.cls ∧ match x.fs with
    | none => d = none
    | some fs => ∃ dd vs, d = some dd ∧ H dd = some (.xd vs) ∧ ∀ f y, fs.lookup f = some y → ∃ v, vs.lookup f = some v ∧ Rep G π H y v
abbrev KX := Exn → Store → Prop
abbrev WXd := Exn → Sl → Store → Prop
abbrev Spd := List Dv → Store → KD → KX → Prop
def LW (B : Bs) (Wd : WXd) : WX := fun cls d σ H => ∃ π S σd x, Rs B π H S σd σ ∧ ExR B.G π H x cls d ∧ Wd x σd S
def KG (G : Cf) (π : List Addr) (H : Hp) (Qd : KD) (Q : VK) : Prop := ∀ π' H' S' d v, Ext G π H π' H' → RepS G π' H' S' → Rep G π' H' d v → Qd d S' → Q v H'
def XG (G : Cf) (π : List Addr) (H : Hp) (Ed : KX) (E : XK) : Prop := ∀ π' H' S' x cls d, Ext G π H π' H' → RepS G π' H' S' → ExR G π' H' x cls d → Ed x S' → E cls d H'
/-- a promise over data -/
def LSp (G : Cf) (spd : Spd) : Sp := fun vs H Q E => ∃ π S ds Qd Ed, RepS G π H S ∧ RepL G π H ds vs ∧ spd ds S Qd Ed ∧ KG G π H Qd Q ∧ XG G π H Ed E
theorem lookup_mem {f : Str} {y : Dv} : ∀ {fs : List (Str × Dv)}, fs.lookup f = some y → (f, y) ∈ fs
  | (g, u) :: zs, hy => by
    unfold List.lookup at hy
    split at hy
    · rename_i heq
      rw [beq_iff_eq] at heq
      cases hy
      rw [heq]
      exact List.mem_cons_self
    · exact List.mem_cons_of_mem _ (lookup_mem hy)
def eCall (spd : Spd) (Wd : WXd) (t : TAd) : TEd := fun σ S Q => t σ S fun ds S1 => spd ds S1 Q fun x S2 => Wd x σ S2
def WNo : WXd := fun _ _ _ => False
theorem ExR.mono {G : Cf} {π π' : List Addr} {H H' : Hp} {S : Store} {x : Exn} {cls : Value} {d : Option Addr} (R : RepS G π H S) (e : Ext G π H π' H') (h : ExR G π H x cls d) : ExR G π' H' x cls d := by
  obtain ⟨h1, h2⟩ := h
  refine ⟨h1, ?_⟩
  split at h2
  · exact h2
  · obtain ⟨dd, vs, e1, e2, e3⟩ := h2
    exact ⟨dd, vs, e1, e.frm _ _ e2 (R.out e2 rfl) (fun ps z => by cases z), fun f y hy => by obtain ⟨v, q1, q2⟩ := e3 f y hy; exact ⟨v, q1, q2.mono e⟩⟩
section
variable {X : Cx} {B : Bs} {k : Nat} {f C : Addr} {fd : FuncData} {ps : List Str} {spd : Spd} {x m : Str} {p pos apos : Pos} {e o : Expr} {es : List Expr} {to : TEd} {t : TAd} {Wd : WXd}
theorem tkNo : Takes X (LW B WNo) := (LamX.takes0 (X := X)).imp fun c d σ H h => by
  obtain ⟨_, _, _, _, _, _, z⟩ := h
  exact z
/-- a promise's reading from a caller -/
theorem LSp_of {σ : L2.St} {σd : Sl} {π : List Addr} {H : Hp} {S : Store} {ds : List Dv} {vs : List V} {Qd : KD} {Q : VK} (R : RepS B.G π H S) (rs : RepSl B.G π H σd σ) (xb : Ext B.G B.π0 B.H0 π H) (l : RepL B.G π H ds vs)
    (h : spd ds S Qd fun x S2 => Wd x σd S2) (k : KV' B π H Qd Q) : LSp B.G spd vs H Q (WE (LW B Wd) σ) :=
  ⟨π, S, ds, Qd, _, R, l, h, k, fun π' H' S' x cls d e R' r w => ⟨π', S', σd, x, ⟨xb.trans e, R', rs.mono e⟩, r, w⟩⟩
theorem pCall (F : FnOk X.prog X.w X.K X.mg X.base (L2.CX X.prog X.w) k f fd ps (LSp B.G spd)) (hr : Room k X.A) (hg : Gl X x) (hm : X.mg x = some (.ref f)) (hk : PySem.W.keepIn X.K (.ref f) = true) (hb : Binds X.K fd ps []) (tk : Takes X (LW B Wd))
    (ha : PA X (e :: es) (LA B t)) (hdb : (x == ("__debug__" : Str)) = false := by decide) (he : starEach (e :: es) X.env = (false, eval e X.env) :: starEach es X.env := by rfl) (hpl : (backTo pos (starEach es X.env)).any (·.1) = false := by rfl) :
    PE X (.Call (.Name x p) (e :: es) [] pos) (LE B (eCall spd Wd t)) := PE_imp (pe_callS F hr hg hm hk hb (fun σ => passAt tk σ) ha hdb he hpl) (by
  rintro σ H Q ⟨π, S, σd, Qd, R, h, k⟩
  refine ⟨π, S, σd, _, R, h, fun π1 H1 S1 ds vs e1 R1 l q => ?_⟩
  exact LSp_of R1 (R.slt.mono e1) (R.ext.trans e1) l q (k.to e1))
def GcX (n0 : Nat) (Q : KX) : KX := fun x S => Q x S ∨ ∃ n, n0 ≤ n ∧ (match x.fs with | none => true | some fs => fs.all fun p => p.2.clo n) = true ∧ StClo (S.take n) ∧ Q x (S.take n)
def WEx (n0 : Nat) (Ed : KX) : WXd := fun x _ S => GcX n0 Ed x S
def startD (n : Nat) (ds : List Dv) : Sl := ds.map some ++ List.replicate (n - ds.length) none
theorem start_rep {G : Cf} {π : List Addr} {H : Hp} {N : List Str} {ds : List Dv} {vs : List V} (l : RepL G π H ds vs) : RepSl G π H (startD N.length ds) (L2.start N vs) := by
  refine ⟨by unfold startD L2.start; rw [List.length_append, List.length_append, List.length_map, List.length_map, List.length_replicate, List.length_replicate, l.length], fun i d e => ?_⟩
  unfold startD at e
  by_cases hi : i < ds.length
  · rw [List.getElem?_append_left (by rw [List.length_map]; exact hi), List.getElem?_map] at e
    cases q : ds[i]? with
    | none => rw [q] at e; cases e
    | some y =>
      rw [q] at e
      cases e
      obtain ⟨v, h1, h2⟩ := l.get q
      refine ⟨v, ?_, h2⟩
      unfold L2.start
      rw [List.getElem?_append_left (by rw [List.length_map, ← l.length]; exact hi), List.getElem?_map, h1]
      rfl
  · rw [List.getElem?_append_right (by rw [List.length_map]; omega), List.getElem?_replicate] at e
    split at e
    · cases e
    · cases e
theorem gcx_use {G : Cf} {π π' : List Addr} {H H' : Hp} {S' : Store} {x : Exn} {cls : Value} {d : Option Addr} {Ed : KX} {E : XK} {n0 : Nat} (hn : π.length ≤ n0) (k : XG G π H Ed E) (e : Ext G π H π' H') (R' : RepS G π' H' S') (r : ExR G π' H' x cls d) (q : GcX n0 Ed x S') : E cls d H' := by
  rcases q with q | ⟨n, h1, h2, h3, q⟩
  · exact k π' H' S' x cls d e R' r q
  · refine k _ _ _ x cls d (e.drop (Nat.le_trans hn h1)) (R'.drop n h3) ⟨r.1, ?_⟩ q
    have r2 := r.2
    cases hx : x.fs with
    | none => rw [hx] at r2; exact r2
    | some fs =>
      rw [hx] at r2 h2
      obtain ⟨dd, vs, e1, e2, e3⟩ := r2
      refine ⟨dd, vs, e1, e2, fun f y hy => ?_⟩
      obtain ⟨v, q1, q2⟩ := e3 f y hy
      refine ⟨v, q1, q2.drop n ?_⟩
      have hm : (f, y) ∈ fs := lookup_mem hy
      exact List.all_eq_true.mp h2 _ hm
variable {P : Program} {w : World} {K : PySem.W.Frag} {mg : Str → Option Value} {base : Heap}
/-- THE RULE for a def -/
theorem okD {qual : Str} {st : Stmt} {N : List Str} {TT : List (Addr × Str)} (F : Fun K x qual st f fd) (S : FnScope N ps (defScope st)) (len : ∀ ds S Q E, spd ds S Q E → ds.length = ps.length) (td : WXd → TSd)
    (hb : ∀ (π0 : List Addr) (H0 : Hp) (Wd : WXd) (cdv : Value) (A : Around) (outer : List Env) (s : Shared) (H : Hp) (E : XK), Room k (A.deeper (envOfC qual (defScope st) s.heap.objs.size f cdv)) → Takes (cxOf (L2.CX P w) P w K mg base N qual (defScope st) f cdv A outer s H E) (LW ⟨⟨K, TT⟩, π0, H0⟩ Wd) →
      PSs (cxOf (L2.CX P w) P w K mg base N qual (defScope st) f cdv A outer s H E) (defBody st) (LS ⟨⟨K, TT⟩, π0, H0⟩ (td Wd)))
    (hr : ∀ ds S Qd Ed, spd ds S Qd Ed → StClo S → td (WEx S.length Ed) { nx := fun _ S' => Gc S.length Qd .non S', rt := Gc S.length Qd } (startD N.length ds) S) :
    FnOk P w K mg base (L2.CX P w) (k + 1) f fd ps (LSp ⟨K, TT⟩ spd) := by
  refine F.okX S (fun vs H Q E h => ?_) fun cdv A outer s H vs Q E hroom h => ?_
  · obtain ⟨π, S, ds, Qd, Ed, _, l, h, _⟩ := h
    rw [← l.length]
    exact len ds S Qd Ed h
  · obtain ⟨π, S, ds, Qd, Ed, R, l, h, kq, kx⟩ := h
    have tk : Takes (cxOf (L2.CX P w) P w K mg base N qual (defScope st) f cdv A outer s H E) (LW ⟨⟨K, TT⟩, π, H⟩ (WEx S.length Ed)) :=
      (takes_of rfl rfl rfl rfl).imp fun cls d σ H' q => by
        obtain ⟨π', S', σd, x, R', r, q⟩ := q
        exact gcx_use (Nat.le_of_eq R.len) kx R'.ext R'.sto r q
    refine ⟨_, hb π H (WEx S.length Ed) cdv A outer s H E hroom tk, π, S, startD N.length ds, _, ⟨Ext.refl _ _ _, R, start_rep l⟩, hr ds S Qd Ed h R.clo, ?_, ?_, ?_, ?_⟩
    · intro π' H' S' σd' σ' x R' rs q
      exact gc_use (B := ⟨⟨K, TT⟩, π, H⟩) (Nat.le_of_eq R.len) kq x R' .non q
    · intro π' H' S' d v x R' rs q
      exact gc_use (B := ⟨⟨K, TT⟩, π, H⟩) (Nat.le_of_eq R.len) kq x R' rs q
    · intro π' H' S' σd' σ' x R' rs q
      exact q.elim
    · intro π' H' S' σd' σ' x R' rs q
      exact q.elim
end
end D3
set_option Elab.async false
set_option linter.all false
set_option maxRecDepth 100000
set_option maxHeartbeats 2000000
namespace D3
open PySem PySem.Spec PyProof.Rows L2
def putFD (f : Str) (v : Dv) : List (Str × Dv) → List (Str × Dv)
  | [] => [(f, v)]
  | (g, x) :: r => if g = f then (g, v) :: r else (g, x) :: putFD f v r
section
variable {G : Cf} {π : List Addr} {H : Hp} {f : Str}
theorem repF_get {d : Dv} : ∀ {fs : List (Str × Dv)} {vs : List (Str × V)}, RepF G π H fs vs → fs.lookup f = some d → ∃ v, vs.lookup f = some v ∧ Rep G π H d v
  | _, _, .nil, e => by cases e
  | (g, x) :: fs, (g', y) :: vs, .cons h t, e => by
    obtain ⟨h1, h2⟩ := h
    cases h1
    unfold List.lookup at e ⊢
    cases q : (f == g) with
    | true => rw [q] at e; cases e; exact ⟨y, rfl, h2⟩
    | false => rw [q] at e; exact repF_get t e
theorem repF_none : ∀ {fs : List (Str × Dv)} {vs : List (Str × V)}, RepF G π H fs vs → fs.lookup f = none → vs.lookup f = none
  | _, _, .nil, e => rfl
  | (g, x) :: fs, (g', y) :: vs, .cons h t, e => by
    obtain ⟨h1, h2⟩ := h
    cases h1
    unfold List.lookup at e ⊢
    cases q : (f == g) with
    | true => rw [q] at e; cases e
    | false => rw [q] at e; exact repF_none t e
theorem repF_put {d : Dv} {v : V} (r : Rep G π H d v) : ∀ {fs : List (Str × Dv)} {vs : List (Str × V)}, RepF G π H fs vs → RepF G π H (putFD f d fs) (putF f v vs)
  | _, _, .nil => .cons ⟨rfl, r⟩ .nil
  | (g, x) :: fs, (g', y) :: vs, .cons h t => by
    obtain ⟨h1, h2⟩ := h
    cases h1
    unfold putFD putF
    by_cases e : g = f
    · rw [if_pos e, if_pos e]; exact .cons ⟨rfl, r⟩ t
    · rw [if_neg e, if_neg e]; exact .cons ⟨rfl, h2⟩ (repF_put r t)
theorem RepF.mono {π' : List Addr} {H' : Hp} {fs : List (Str × Dv)} {vs : List (Str × V)} (x : Ext G π H π' H') (r : RepF G π H fs vs) : RepF G π' H' fs vs := paired_imp (fun _ _ q => ⟨q.1, q.2.mono x⟩) r
theorem RepK.mono {π' : List Addr} {H' : Hp} {fs : List (Key × Dv)} {vs : List (Key × V)} (x : Ext G π H π' H') (r : RepK G π H fs vs) : RepK G π' H' fs vs := paired_imp (fun _ _ q => ⟨q.1, q.2.mono x⟩) r
end
def eFld (C : Addr) (t : TEd) (f : Str) : TEd := fun σ S Q => t σ S fun x S1 => ∃ i fs d, x = .obj i ∧ S1[i]? = some (.ins C fs) ∧ fs.lookup f = some d ∧ Q d S1
def sFld (C : Addr) (to tv : TEd) (f : Str) : TSd := fun D σ S => tv σ S fun y S1 => to σ S1 fun x S2 => ∃ i fs, x = .obj i ∧ S2[i]? = some (.ins C fs) ∧ fs.length < 1000 ∧ D.nx σ (S2.set i (.ins C (putFD f y fs)))
def sFldAug (C : Addr) (to tv : TEd) (r : RD2) (f : Str) : TSd := fun D σ S => to σ S fun x S1 => ∃ i fs d, x = .obj i ∧ S1[i]? = some (.ins C fs) ∧ fs.lookup f = some d ∧ tv σ S1 fun y S2 => r d y S2 fun z S3 => ∃ fs', S3[i]? = some (.ins C fs') ∧ fs'.length < 1000 ∧ D.nx σ (S3.set i (.ins C (putFD f z fs')))
/-- an instance of an own class is made, its __init__ raises nothing -/
def eMake (C : Addr) (spd : Spd) (t : TAd) : TEd := fun σ S Q => t σ S fun vs S1 => spd (.obj S1.length :: vs) (S1 ++ [.ins C []]) (fun d S2 => d = .non ∧ Q (.obj S1.length) S2) fun _ _ => False
def eMeth (C : Addr) (m : Str) (spd : Spd) (Wd : WXd) (to : TEd) (t : TAd) : TEd := fun σ S Q => to σ S fun x S1 => ∃ i fs, x = .obj i ∧ S1[i]? = some (.ins C fs) ∧ fs.lookup m = none ∧ t σ S1 fun vs S2 => spd (x :: vs) S2 Q fun e S3 => Wd e σ S3
section
variable {X : Cx} {B : Bs} {o e value : Expr} {f : Str} {pos pos' tpos : Pos} {to te tv : TEd} {C : Addr}
theorem pFld (c : Cls X.K C) (n : NoAttr X.K C f) (he : PE X e (LE B te)) (hb : attributeBase e f X.env (eval e X.env) = eval e X.env := by rfl) : PE X (.Attribute e f pos) (LE B (eFld C te f)) := PE_imp (pe_fld he hb) (by
  rintro σ H Q ⟨π, S, σd, Qd, R, h, k⟩
  refine ⟨π, S, σd, _, R, h, fun π1 H1 S1 x v e1 R1 rx q => ?_⟩
  obtain ⟨i, fs, d, rfl, hi, hf, q⟩ := q
  obtain ⟨a, rfl, _, dx, vs, ha, rf⟩ := R1.here hi rx
  obtain ⟨u, hu, ru⟩ := repF_get rf hf
  exact ⟨a, C, dx, vs, u, rfl, ha, c, n, hu, k _ _ _ _ _ e1 R1 ru q⟩)
theorem EndsR.nxt {B : Bs} {π π1 : List Addr} {H H1 : Hp} {S1 : Store} {Dd : EndsD} {D : Ends} {σd : Sl} {σ : L2.St} (k : EndsR B π H Dd D) (x : Ext B.G π H π1 H1) (R : RepS B.G π1 H1 S1) (rs : RepSl B.G π H σd σ) (q : Dd.nx σd S1) : D.nx σ H1 :=
  k.1 _ _ _ _ _ x R (rs.mono x) q
theorem fld_write {G : Cf} {π : List Addr} {H : Hp} {S : Store} (R : RepS G π H S) {i : Nat} {a : Addr} {dx : Addr} {fs : List (Str × Dv)} {vs : List (Str × V)} (hi : π[i]? = some a) (ha : H a = some (.ins C dx vs)) (rf : RepF G π H fs vs) {d : Dv} {v : V} (r : Rep G π H d v) :
    Ext G π H π (upd H a (.ins C dx (putF f v vs))) ∧ RepS G π (upd H a (.ins C dx (putF f v vs))) (S.set i (.ins C (putFD f d fs))) := by
  have x := ext_write R (.ins C dx (putF f v vs)) hi (fun od u e => by rw [ha] at e; cases e)
  exact ⟨x, step_write (m := .ins C (putFD f d fs)) R hi ⟨dx, _, upd_same, (repF_put r rf).mono x⟩⟩
theorem sFld' (c : Cls X.K C) (n : NoAttr X.K C f) (ho : PE X o (LE B to)) (hv : PE X value (LE B tv)) (hs : swapsWith value (some (.Attribute o f pos')) pos.line X.env = pure false := by rfl) : PS X (.Assign [.Attribute o f pos'] value pos) (LS B (sFld C to tv f)) := PS_imp (ps_fld ho hv hs) (by
  rintro D σ H ⟨π, S, σd, Dd, R, h, k⟩
  refine ⟨π, S, σd, _, R, h, fun π1 H1 S1 y v e1 R1 ry q => ?_⟩
  refine ⟨π1, S1, σd, _, R.to e1 R1, q, fun π2 H2 S2 x w e2 R2 rx q => ?_⟩
  obtain ⟨i, fs, rfl, hi, hl, q⟩ := q
  obtain ⟨a, rfl, i1, dx, vs, ha, rf⟩ := R2.here hi rx
  obtain ⟨x3, R3⟩ := fld_write (f := f) R2 i1 ha rf (ry.mono e2)
  exact ⟨a, C, dx, vs, rfl, ha, c, n, by rw [← Paired.length rf]; exact hl, k.nxt (e1.trans (e2.trans x3)) R3 R.slt q⟩)
end
section
variable {X : Cx} {B : Bs} {k : Nat} {f C : Addr} {fd : FuncData} {ps : List Str} {spd : Spd} {x m : Str} {p pos apos : Pos} {e o : Expr} {es : List Expr} {to : TEd} {t : TAd} {Wd : WXd}
theorem passE0 : Passes (L2.CX X.prog X.w) X E0 := fun pins σ H s e s' I c => by
  exact tkNo (X := X) (B := ⟨⟨X.K, []⟩, [], fun _ => none⟩) e s' (XE.of_call (E := E0) (W := LW ⟨⟨X.K, []⟩, [], fun _ => none⟩ WNo) (σ := σ) I (fun _ _ _ h => h.elim) c)
theorem made_rep {G : Cf} {π : List Addr} {H : Hp} {S : Store} (R : RepS G π H S) {a dx : Addr} (ha : H a = none) (hd : H dx = none) (n : dx ≠ a) :
    Ext G π H (π ++ [a]) (upd (upd H dx (.own a)) a (.ins C dx [])) ∧ RepS G (π ++ [a]) (upd (upd H dx (.own a)) a (.ins C dx [])) (S ++ [.ins C []]) := by
  obtain ⟨R1, x1⟩ := step_aside R (o := .own a) hd
  have ha1 : upd H dx (.own a) a = none := by rw [upd_ne (fun z => n z.symm)]; exact ha
  obtain ⟨R2, x2⟩ := step_new R1 (o := .ins C dx []) (m := .ins C []) ha1 ⟨dx, [], upd_same, .nil⟩
  exact ⟨x1.trans x2, R2⟩
theorem LE_make : ∀ σ H Q, LE B (eMake C spd t) σ H Q → tMake C (LSp B.G spd) [] E0 (LA B t) σ H Q := by
  rintro σ H Q ⟨π, S, σd, Qd, R, h, kq⟩
  refine ⟨π, S, σd, _, R, h, fun π1 H1 S1 ds vs e1 R1 l q => ?_⟩
  intro a dx ha hd n
  obtain ⟨x2, R2⟩ := made_rep (C := C) R1 ha hd n
  have ia : (π1 ++ [a])[S1.length]? = some a := by rw [← R1.len, List.getElem?_append_right (Nat.le_refl _), Nat.sub_self]; rfl
  refine ⟨_, _, _, _, _, R2, .cons (.obj ia) (by rw [List.append_nil]; exact l.mono x2), q, fun π' H' S' d v e R' rd q => ?_, fun π' H' S' x cls d e R' rd q => q.elim⟩
  obtain ⟨rfl, q⟩ := q
  exact ⟨rd.non_inv, kq _ _ _ _ _ (e1.trans (x2.trans e)) R' (.obj (e.get ia)) q⟩
theorem pMake (M : Mk X.K C f) (F : FnOk X.prog X.w X.K X.mg X.base (L2.CX X.prog X.w) k f fd ps (LSp B.G spd)) (hr : Room (k + 1) X.A) (hg : Gl X x) (hm : X.mg x = some (.ref C)) (hb : Binds X.K fd ps [])
    (ha : PA X (e :: es) (LA B t)) (hdb : (x == ("__debug__" : Str)) = false := by decide) (he : starEach (e :: es) X.env = (false, eval e X.env) :: starEach es X.env := by rfl) (hpl : (backTo pos (starEach es X.env)).any (·.1) = false := by rfl) :
    PE X (.Call (.Name x p) (e :: es) [] pos) (LE B (eMake C spd t)) := PE_imp (pe_make M F hr hg hm hb .nil passE0 ha hdb he hpl) LE_make
def tMethSD (C : Addr) (m : Str) (sp : Sp) (E : L2.St → XK) (ta : TE) (t : TA) : TE := fun σ H Q => ta σ H fun x H1 => ∃ a dx fs, x = .ref a ∧ H1 a = some (.ins C dx fs) ∧ fs.lookup m = none ∧ t σ H1 fun vs H2 => sp (x :: vs) H2 Q (E σ)
theorem pe_methSD {CX : CXT} {sp : Sp} {E : L2.St → XK} {ta : TE} {t : TA} {pl : Sem Bool} (he : PE X o ta) (c : Cls X.K C) (hm : Meth X.K C m f) (F : FnOk X.prog X.w X.K X.mg X.base CX k f fd ps sp) (hr : Room k X.A) (hb : Binds X.K fd ps []) (hx : ∀ σ, PassesAt CX X σ (E σ)) (ha : PA X (e :: es) t)
    (hst : starEach (e :: es) X.env = (false, eval e X.env) :: starEach es X.env := by rfl) (hpl : (backTo pos (starEach es X.env)).any (·.1) = false := by rfl)
    (ht : eval (.Call (.Attribute o m apos) (e :: es) [] pos) X.env = (do
      let ov ← eval o X.env
      standAt apos.atName
      let (f, first) ← holding [ov] (getMethod ov m pl)
      callWith pos f first (backTo pos (starEach (e :: es) X.env)) (backToKw pos (keywordEach [] X.env))) := by rfl) :
    PE X (.Call (.Attribute o m apos) (e :: es) [] pos) (tMethSD C m sp E ta t) := by
  refine ⟨fun pins s σ H Q I h => ?_⟩
  refine PySem.W.methodCall_KW (pl := pl) (thn (he.run pins s σ H _ I h) fun u s1 ⟨x, H1, I1, rx, a, dx, fs, ex, ea, l, q⟩ => ?_) ht
  subst ex
  obtain rfl : u = Value.ref a := rx
  refine getmeth_ok I1 ea c hm l ?_
  refine PySem.W.callWith_K (first := [.ref a]) (h₀ := X.base) I.ok.mod.kin hm.kp (thn (ha.run pos pins s1 σ H1 _ I1 q) fun us s2 ⟨vs, H2, I2, r, q2⟩ => ⟨I2.kIn, ?_⟩) hst hpl
  exact run_fnSD (us := .ref a :: us) (vs := .ref a :: vs) (dvs := []) F hr hb .nil (hx σ) I2 (.cons rfl r) (by rw [List.append_nil]; exact q2)
theorem pe_methSD0 {CX : CXT} {sp : Sp} {E : L2.St → XK} {ta : TE} {pl : Sem Bool} (he : PE X o ta) (c : Cls X.K C) (hm : Meth X.K C m f) (F : FnOk X.prog X.w X.K X.mg X.base CX k f fd ps sp) (hr : Room k X.A) (hb : Binds X.K fd ps []) (hx : ∀ σ, PassesAt CX X σ (E σ))
    (ht : eval (.Call (.Attribute o m apos) [] [] pos) X.env = (do
      let ov ← eval o X.env
      standAt apos.atName
      let (f, first) ← holding [ov] (getMethod ov m pl)
      callWith pos f first (backTo pos (starEach [] X.env)) (backToKw pos (keywordEach [] X.env))) := by rfl) :
    PE X (.Call (.Attribute o m apos) [] [] pos) (tMethSD C m sp E ta tNil) := by
  refine ⟨fun pins s σ H Q I h => ?_⟩
  refine PySem.W.methodCall_KW (pl := pl) (thn (he.run pins s σ H _ I h) fun u s1 ⟨x, H1, I1, rx, a, dx, fs, ex, ea, l, q⟩ => ?_) ht
  subst ex
  obtain rfl : u = Value.ref a := rx
  refine getmeth_ok I1 ea c hm l ?_
  exact PySem.W.callWith_K0 (first := [.ref a]) I1.kIn hm.kp (run_fnSD (us := [.ref a]) (vs := [.ref a]) (dvs := []) F hr hb .nil (hx σ) I1 (.cons rfl .nil) q)
theorem LE_meth : ∀ σ H Q, LE B (eMeth C m spd Wd to t) σ H Q → tMethSD C m (LSp B.G spd) (WE (LW B Wd)) (LE B to) (LA B t) σ H Q := by
  rintro σ H Q ⟨π, S, σd, Qd, R, h, kq⟩
  refine ⟨π, S, σd, _, R, h, fun π1 H1 S1 x v e1 R1 rx q => ?_⟩
  obtain ⟨i, fs, rfl, hi, hf, q⟩ := q
  obtain ⟨a, rfl, i1, dx, vs, ha, rf⟩ := R1.here hi rx
  refine ⟨a, dx, vs, rfl, ha, repF_none rf hf, π1, S1, σd, _, R.to e1 R1, q, fun π2 H2 S2 ds us e2 R2 l q => ?_⟩
  exact LSp_of R2 (R.slt.mono (e1.trans e2)) (R.ext.trans (e1.trans e2)) (.cons (rx.mono e2) l) q (kq.to (e1.trans e2))
theorem pMeth (ho : PE X o (LE B to)) (c : Cls X.K C) (hm : Meth X.K C m f) (F : FnOk X.prog X.w X.K X.mg X.base (L2.CX X.prog X.w) k f fd ps (LSp B.G spd)) (hr : Room k X.A) (hb : Binds X.K fd ps []) (tk : Takes X (LW B Wd)) (ha : PA X (e :: es) (LA B t)) {pl : Sem Bool}
    (hst : starEach (e :: es) X.env = (false, eval e X.env) :: starEach es X.env := by rfl) (hpl : (backTo pos (starEach es X.env)).any (·.1) = false := by rfl)
    (ht : eval (.Call (.Attribute o m apos) (e :: es) [] pos) X.env = (do
      let ov ← eval o X.env
      standAt apos.atName
      let (f, first) ← holding [ov] (getMethod ov m pl)
      callWith pos f first (backTo pos (starEach (e :: es) X.env)) (backToKw pos (keywordEach [] X.env))) := by rfl) :
    PE X (.Call (.Attribute o m apos) (e :: es) [] pos) (LE B (eMeth C m spd Wd to t)) := PE_imp (pe_methSD ho c hm F hr hb (fun σ => passAt tk σ) ha hst hpl ht) LE_meth
theorem pMeth0 (ho : PE X o (LE B to)) (c : Cls X.K C) (hm : Meth X.K C m f) (F : FnOk X.prog X.w X.K X.mg X.base (L2.CX X.prog X.w) k f fd ps (LSp B.G spd)) (hr : Room k X.A) (hb : Binds X.K fd ps []) (tk : Takes X (LW B Wd)) {pl : Sem Bool}
    (ht : eval (.Call (.Attribute o m apos) [] [] pos) X.env = (do
      let ov ← eval o X.env
      standAt apos.atName
      let (f, first) ← holding [ov] (getMethod ov m pl)
      callWith pos f first (backTo pos (starEach [] X.env)) (backToKw pos (keywordEach [] X.env))) := by rfl) :
    PE X (.Call (.Attribute o m apos) [] [] pos) (LE B (eMeth C m spd Wd to aNil)) := PE_imp (pe_methSD0 ho c hm F hr hb (fun σ => passAt tk σ) ht) (by
  rintro σ H Q ⟨π, S, σd, Qd, R, h, kq⟩
  refine ⟨π, S, σd, _, R, h, fun π1 H1 S1 x v e1 R1 rx q => ?_⟩
  obtain ⟨i, fs, rfl, hi, hf, q⟩ := q
  obtain ⟨a, rfl, i1, dx, vs, ha, rf⟩ := R1.here hi rx
  exact ⟨a, dx, vs, rfl, ha, repF_none rf hf, LSp_of R1 (R.slt.mono e1) (R.ext.trans e1) (.one rx) q (kq.to e1)⟩)
end
def dAddA : RD2 := fun x y S Q => match x, y with
  | .int i, .int j => Q (.int (i + j)) S
  | .str i, .str j => i.length + j.length ≤ sizeLine ∧ Q (.str (i ++ j)) S
  | .obj i, .obj j => ∃ xs ys, getL S i = some xs ∧ getL S j = some ys ∧ xs.length + ys.length ≤ sizeLine ∧ Q (.obj i) (S.set i (.lst (xs ++ ys)))
  | _, _ => False
def dSubA : RD2 := fun x y S Q => match x, y with
  | .int i, .int j => Q (.int (i - j)) S
  | _, _ => False
def dMulA : RD2 := fun x y S Q => match x, y with
  | .int i, .int j => CMul i j ∧ Q (.int (i * j)) S
  | _, _ => False
/-- xs[i], before it is written -/
def dGetL : RD2 := fun x y S Q => match x, y with
  | .obj i, .int k => ∃ xs d, getL S i = some xs ∧ atI xs k = some d ∧ Q d S
  | _, _ => False
def sAugS (to ti te : TEd) (rg r : RD2) (rs : RSet) : TSd := fun D σ S => to σ S fun o S1 => ti σ S1 fun i S2 => rg o i S2 fun x S3 => te σ S3 fun y S4 => r x y S4 fun z S5 => rs o i z S5 fun S6 => D.nx σ S6
def sPar3 (i j l : Nat) (t : TAd) : TSd := fun D σ S => t σ S fun vs S1 => ∃ u v w, vs = [u, v, w] ∧ D.nx (((σ.set i (some u)).set j (some v)).set l (some w)) S1
section
variable {X : Cx} {B : Bs}
theorem pMulA : PIp X .Mult (L2' B dMulA) := by
  refine OpR_imp (X := X) (f := inplaceOp .Mult) iop_mul ?_
  rintro v u H Q ⟨π, S, x, y, Qd, R, r1, r2, q, k⟩
  unfold dMulA at q
  split at q
  · obtain rfl := r1.int_inv
    obtain rfl := r2.int_inv
    exact ⟨_, _, rfl, rfl, q.1, k.here R (.int _) q.2⟩
  · exact q.elim
variable {o i e : Expr} {to ti te : TEd} {tpos pos : Pos}
theorem sPar3' {i j l : Nat} {x y z : Str} {a b c : Expr} {ta : TAd} {px py pz pt pos : Pos} {kt k2 pt2} (hc : X.calm = true) (hN : X.N.Nodup) (hi : X.N[i]? = some x) (hj : X.N[j]? = some y) (hl : X.N[l]? = some z) (hij : i ≠ j) (hil : i ≠ l) (hjl : j ≠ l)
    (hx : X.env.scope.names.lookup x = some .local) (hy : X.env.scope.names.lookup y = some .local) (hz : X.env.scope.names.lookup z = some .local) (ha : PA X [a, b, c] (LA B ta))
    (hw : swappedStores [.Tuple [.Name x px, .Name y py, .Name z pz] kt pt] (.Tuple [a, b, c] k2 pt2) X.env = pure (some [x, y, z]))
    (hs : swapsWithSole [.Tuple [.Name x px, .Name y py, .Name z pz] kt pt] (.Tuple [a, b, c] k2 pt2) pos.line X.env = pure false := by rfl) :
    PS X (.Assign [.Tuple [.Name x px, .Name y py, .Name z pz] kt pt] (.Tuple [a, b, c] k2 pt2) pos) (LS B (sPar3 i j l ta)) := PS_imp (ps_par3 hc hN hi hj hl hij hil hjl hx hy hz ha hw hs) (by
  rintro D σ H ⟨π, S, σd, Dd, R, h, k⟩
  refine ⟨π, S, σd, _, R, h, fun π1 H1 S1 ds vs e1 R1 rl q => ?_⟩
  obtain ⟨u, v, w, rfl, q⟩ := q
  cases rl with
  | cons r1 rl =>
    obtain ⟨v2, v3, rfl, r2, r3⟩ := rl.two_inv
    exact ⟨_, _, _, rfl, k.1 _ _ _ _ _ e1 R1 ((((R.slt.mono e1).set r1 i).set r2 j).set r3 l) q⟩)
end
def keyD : Key → Dv
  | .inl i => .int i
  | .inr x => .str x
def dKey : Dv → Option Key
  | .int i => some (.inl i)
  | .str x => some (.inr x)
  | _ => none
def valD (kvs : List (Key × Dv)) (k : Key) : Option Dv := (kvs.find? fun kv => decide (kv.1 = k)).map (·.2)
def putD (kvs : List (Key × Dv)) (k : Key) (v : Dv) : List (Key × Dv) :=
  if (kvs.any fun kv => decide (kv.1 = k)) = true then kvs.map (fun kv => if kv.1 = k then (kv.1, v) else kv) else kvs ++ [(k, v)]
def getK (S : Store) (i : Nat) : Option (List (Key × Dv)) := match S[i]? with
  | some (.dk kvs) => some kvs
  | some (.ldk kvs) => some kvs
  | _ => none
section
variable {G : Cf} {π : List Addr} {H : Hp}
theorem dKey_rep {d : Dv} {v : V} {k : Key} (r : Rep G π H d v) (h : dKey d = some k) : v = kV k := by
  cases r <;> first | (cases h; rfl) | cases h
theorem repK_val {kvs : List (Key × Dv)} {ws : List (Key × V)} (r : RepK G π H kvs ws) (k : Key) : (∀ d, valD kvs k = some d → ∃ v, valV ws k = some v ∧ Rep G π H d v) ∧ (valD kvs k = none → valV ws k = none) := by
  unfold RepK at r
  induction r with
  | nil => exact ⟨fun d e => (nomatch (show (none : Option Dv) = some d from e)), fun _ => rfl⟩
  | @cons p q ps qs h t ih =>
    obtain ⟨h1, h2⟩ := h
    by_cases e : p.1 = k
    · have a : valD (p :: ps) k = some p.2 := by simp [valD, List.find?_cons, e]
      have b : valV (q :: qs) k = some q.2 := valV_pos (h1.symm.trans e)
      rw [a, b]
      exact ⟨fun d z => by cases z; exact ⟨_, rfl, h2⟩, fun z => by cases z⟩
    · have a : valD (p :: ps) k = valD ps k := by simp [valD, List.find?_cons, e]
      have b : valV (q :: qs) k = valV qs k := valV_neg fun z => e (h1.trans z)
      rw [a, b]
      exact ih
theorem repK_any {kvs : List (Key × Dv)} {ws : List (Key × V)} (r : RepK G π H kvs ws) (k : Key) : (kvs.any fun kv => decide (kv.1 = k)) = ws.any fun kv => decide (kv.1 = k) := by
  unfold RepK at r
  induction r with
  | nil => rfl
  | cons h t ih => rw [List.any_cons, List.any_cons, ih, h.1]
theorem repK_put {kvs : List (Key × Dv)} {ws : List (Key × V)} (r : RepK G π H kvs ws) (k : Key) {d : Dv} {v : V} (rd : Rep G π H d v) : RepK G π H (putD kvs k d) (putK ws k v) := by
  unfold putD putK
  rw [repK_any r k]
  by_cases e : (ws.any fun kv => decide (kv.1 = k)) = true
  · rw [if_pos e, if_pos e]
    clear e
    unfold RepK at r ⊢
    induction r with
    | nil => exact .nil
    | @cons p q ps qs h t ih =>
      rw [List.map_cons, List.map_cons]
      refine .cons ?_ ih
      obtain ⟨h1, h2⟩ := h
      by_cases e : p.1 = k
      · rw [if_pos e, if_pos (h1.symm.trans e)]; exact ⟨h1, rd⟩
      · rw [if_neg e, if_neg (fun z => e (h1.trans z))]; exact ⟨h1, h2⟩
  · rw [if_neg e, if_neg e]
    exact Paired.snoc r ⟨rfl, rd⟩
theorem getK_rep {S : Store} (R : RepS G π H S) {i : Nat} {kvs : List (Key × Dv)} {v : V} (g : getK S i = some kvs) (r : Rep G π H (.obj i) v) : ∃ a ws, v = .ref a ∧ Rd H a (.dK ws) ∧ RepK G π H kvs ws := by
  unfold getK at g
  split at g
  · rename_i e
    cases g
    obtain ⟨a, rfl, _, ws, h1, h2⟩ := R.here e r
    exact ⟨a, ws, rfl, .inl h1, h2⟩
  · rename_i e
    cases g
    obtain ⟨a, rfl, _, ws, ⟨od, h1⟩, h2⟩ := R.here e r
    exact ⟨a, ws, rfl, .inr ⟨od, h1⟩, h2⟩
  · cases g
end
/-- d[k], there -/
def dKGet : RD2 := fun x y S Q => match x with
  | .obj i => ∃ kvs k d, getK S i = some kvs ∧ dKey y = some k ∧ valD kvs k = some d ∧ Q d S
  | _ => False
/-- d[k] = v -/
def dKSet : RSet := fun x y z S Q => match x with
  | .obj i => ∃ kvs k, S[i]? = some (.dk kvs) ∧ dKey y = some k ∧ kvs.length < sizeLine ∧ Q (S.set i (.dk (putD kvs k z)))
  | _ => False
/-- k in d -/
def dKIn (neg : Bool) : RD2 := fun x y S Q => match y with
  | .obj i => ∃ kvs k, getK S i = some kvs ∧ dKey x = some k ∧ Q (.bl (if neg then !(valD kvs k).isSome else (valD kvs k).isSome)) S
  | _ => False
def eKNew : TEd := fun _ S Q => Q (.obj S.length) (S ++ [.dk []])
def eKGet2 (to tk tx : TEd) : TEd := fun σ S Q => to σ S fun x S1 => ∃ i kvs0, x = .obj i ∧ getK S1 i = some kvs0 ∧ tk σ S1 fun y S2 => tx σ S2 fun z S3 => ∃ kvs k, getK S3 i = some kvs ∧ dKey y = some k ∧ Q ((valD kvs k).getD z) S3
def eKGet1 (to tk : TEd) : TEd := fun σ S Q => to σ S fun x S1 => ∃ i kvs0, x = .obj i ∧ getK S1 i = some kvs0 ∧ tk σ S1 fun y S2 => ∃ kvs k, getK S2 i = some kvs ∧ dKey y = some k ∧ Q ((valD kvs k).getD .non) S2
section
variable {X : Cx} {B : Bs} {o i e : Expr} {to ti te : TEd} {pos apos : Pos}
theorem dget_rep {π : List Addr} {H : Hp} {ws : List (Key × V)} {a : Addr} {k : Key} {u : V} {y : Dv} {G : Cf} (h1 : Rd H a (.dK ws)) (ry : Rep G π H y u) (hk : dKey y = some k) : DGet H a u (valV ws k) := .inl ⟨ws, k, h1, dKey_rep ry hk, rfl⟩
theorem pKGet (hu : X.A.units + 64 < cLine) (ho : PE X o (LE B to)) (hi : PE X i (LE B ti)) (hs : NoSl i := by first | exact fun _ _ => rfl | intro _ _; rfl) : PE X (.Subscript o i pos) (LE B (eOp dKGet to ti)) := PE_imp (pe_dget (by omega) ho hi hs) (by
  rintro σ H Q ⟨π, S, σd, Qd, R, h, k⟩
  refine ⟨π, S, σd, _, R, h, fun π1 H1 S1 x v e1 R1 rx q => ?_⟩
  refine ⟨π1, S1, σd, _, R.to e1 R1, q, fun π2 H2 S2 y u e2 R2 ry q => ?_⟩
  unfold dKGet at q
  split at q
  · obtain ⟨kvs, kk, d, g, hk, hv, q⟩ := q
    obtain ⟨a, ws, rfl, hd, rk⟩ := getK_rep R2 g (rx.mono e2)
    obtain ⟨w, hw, rw'⟩ := (repK_val rk kk).1 d hv
    exact ⟨a, w, rfl, by rw [← hw]; exact dget_rep hd ry hk, k _ _ _ _ _ (e1.trans e2) R2 rw' q⟩
  · exact q.elim)
theorem op_in_d (hu : X.A.units + 1 < cLine) : OpR X (compareOp .In) (fun y x H Q => ∃ a o, x = .ref a ∧ DGet H a y o ∧ Q (.bl o.isSome) H) := by
  intro pins s σ H y x v u Q I ry rx h
  obtain ⟨a, o, rfl, p, q⟩ := h
  cases rx
  exact d_in hu I p ry fun s' I' => ⟨.bl _, H, I', rfl, q⟩
theorem kin_rep {π : List Addr} {H : Hp} {kvs : List (Key × Dv)} {ws : List (Key × V)} {G : Cf} (rk : RepK G π H kvs ws) (k : Key) : (valV ws k).isSome = (valD kvs k).isSome := by
  cases h : valD kvs k with
  | none => rw [(repK_val rk k).2 h] <;> rfl
  | some d => obtain ⟨v, h1, _⟩ := (repK_val rk k).1 d h; rw [h1]; rfl
theorem oKIn (hu : X.A.units + 64 < cLine) : OpR X (compareOp .In) (L2' B (dKIn false)) := by
  refine OpR_imp (op_in_d (by omega)) ?_
  rintro v u H Q ⟨π, S, x, y, Qd, R, r1, r2, q, k⟩
  unfold dKIn at q
  split at q
  · obtain ⟨kvs, kk, g, hk, q⟩ := q
    obtain ⟨a, ws, rfl, hd, rk⟩ := getK_rep R g r2
    refine ⟨a, _, rfl, dget_rep hd r1 hk, ?_⟩
    rw [kin_rep rk kk]
    exact k.here R (.bl _) q
  · exact q.elim
theorem KV'.dk {B : Bs} {π : List Addr} {H : Hp} {S : Store} {Qd : KD} {Q : VK} {ds : List (Key × Dv)} {vs : List (Key × V)} (k : KV' B π H Qd Q) (R : RepS B.G π H S) (r : RepK B.G π H ds vs) (q : Qd (.obj S.length) (S ++ [.dk ds])) {p : Addr} (hp : H p = none) : Q (.ref p) (upd H p (.dK vs)) := by
  have x1 : Ext B.G π H (π ++ [p]) (upd H p (.dK vs)) := ext_adopt (Ext.refl _ _ _) hp
  obtain ⟨R1, x⟩ := step_new R (o := .dK vs) (m := .dk ds) hp ⟨vs, upd_same, RepK.mono x1 r⟩
  exact k _ _ _ (.obj S.length) _ x R1 (.obj (by rw [← R.len, List.getElem?_append_right (Nat.le_refl _), Nat.sub_self]; rfl)) q
theorem pKNew : PE X (.Dict [] [] pos) (LE B eKNew) := PE_imp pe_dnewK (by
  rintro σ H Q ⟨π, S, σd, Qd, R, h, k⟩
  intro p hp
  exact k.dk R.sto .nil h hp)
end
def tPairsD : List (TEd × TEd) → Sl → Store → (List (Dv × Dv) → Store → Prop) → Prop
  | [], _, S, Q => Q [] S
  | (tk, tv) :: r, σ, S, Q => tk σ S fun x S1 => tv σ S1 fun y S2 => tPairsD r σ S2 fun ps S3 => Q ((x, y) :: ps) S3
def mergeD (kvs more : List (Key × Dv)) : List (Key × Dv) := more.foldl (fun acc kv => putD acc kv.1 kv.2) kvs
/-- the new dict stands behind the store while the pairs are made -/
def eDisp (trs : List (TEd × TEd)) : TEd := fun σ S Q => tPairsD trs σ (S ++ [.dk []]) fun ps S2 => ∃ kvs : List (Key × Dv), ps = kvs.map (fun kv => (keyD kv.1, kv.2)) ∧ S2[S.length]? = some (.dk []) ∧ kvs.length ≤ 15 ∧ Q (.obj S.length) (S2.set S.length (.dk (mergeD [] kvs)))
section
variable {X : Cx} {B : Bs} {pos : Pos}
abbrev RepP (G : Cf) (π : List Addr) (H : Hp) : List (Dv × Dv) → List (V × V) → Prop := Paired fun p q => Rep G π H p.1 q.1 ∧ Rep G π H p.2 q.2
def liftP (B : Bs) (trs : List (TEd × TEd)) : List (TE × TE) := trs.map fun p => (LE B p.1, LE B p.2)
theorem LPairs : ∀ (trs : List (TEd × TEd)) (σ : L2.St) (H : Hp) (Q : List (V × V) → Hp → Prop) (π : List Addr) (S : Store) (σd : Sl) (Qd : List (Dv × Dv) → Store → Prop), Rs B π H S σd σ → tPairsD trs σd S Qd →
    (∀ π' H' S' ds vs, Ext B.G π H π' H' → RepS B.G π' H' S' → RepP B.G π' H' ds vs → Qd ds S' → Q vs H') → tPairs (liftP B trs) σ H Q
  | [], σ, H, Q, π, S, σd, Qd, R, h, k => k π H S [] [] (Ext.refl _ _ _) R.sto .nil h
  | (tk, tv) :: r, σ, H, Q, π, S, σd, Qd, R, h, k => by
    refine ⟨π, S, σd, _, R, h, fun π1 H1 S1 x v e1 R1 rx q => ?_⟩
    refine ⟨π1, S1, σd, _, R.to e1 R1, q, fun π2 H2 S2 y u e2 R2 ry q => ?_⟩
    refine LPairs r σ H2 _ π2 S2 σd _ (R.to (e1.trans e2) R2) q fun π3 H3 S3 ds vs e3 R3 rp q => ?_
    exact k _ _ _ _ _ (e1.trans (e2.trans e3)) R3 (.cons ⟨rx.mono (e2.trans e3), ry.mono e3⟩ rp) q
theorem merge_rep {G : Cf} {π : List Addr} {H : Hp} : ∀ {more : List (Key × Dv)} {mws : List (Key × V)} {kvs : List (Key × Dv)} {ws : List (Key × V)}, RepK G π H more mws → RepK G π H kvs ws → RepK G π H (mergeD kvs more) (mergeK ws mws)
  | _, _, _, _, .nil, r => r
  | p :: ps, q :: qs, kvs, ws, .cons h t, r => by
    obtain ⟨h1, h2⟩ := h
    show RepK G π H (mergeD (putD kvs p.1 p.2) ps) (mergeK (putK ws q.1 q.2) qs)
    rw [← h1]
    exact merge_rep t (repK_put r _ h2)
theorem pairs_rep {G : Cf} {π : List Addr} {H : Hp} : ∀ {kvs : List (Key × Dv)} {vs : List (V × V)}, RepP G π H (kvs.map fun kv => (keyD kv.1, kv.2)) vs → ∃ ws : List (Key × V), vs = ws.map (fun kv => (kV kv.1, kv.2)) ∧ RepK G π H kvs ws
  | [], _, r => by rw [List.map_nil] at r; cases r; exact ⟨[], rfl, .nil⟩
  | p :: ps, _, r => by
    rw [List.map_cons] at r
    cases r with
    | @cons a b as bs h t =>
      obtain ⟨ws, rfl, rk⟩ := pairs_rep t
      obtain ⟨h1, h2⟩ := h
      have e : b.1 = kV p.1 := by
        have h1' : Rep G π H (keyD p.1) b.1 := h1
        exact dKey_rep h1' (by cases p.1 <;> rfl)
      exact ⟨(p.1, b.2) :: ws, by rw [List.map_cons]; show b :: _ = (kV p.1, b.2) :: _; rw [← e], .cons ⟨rfl, h2⟩ rk⟩
theorem psNil' : PPs X pos [] [] (liftP B []) := pps_nil
theorem psCons' {k v : Expr} {ks : List (Option Expr)} {vs : List Expr} {tk tv : TEd} {trs : List (TEd × TEd)} (hk : PE X k (LE B tk)) (hv : PE X v (LE B tv)) (hr : PPs X pos ks vs (liftP B trs)) : PPs X pos (some k :: ks) (v :: vs) (liftP B ((tk, tv) :: trs)) := pps_cons hk hv hr
theorem pDisp {keys : List (Option Expr)} {values : List Expr} {trs : List (TEd × TEd)} (h : PPs X pos keys values (liftP B trs)) (hall : keys.all (·.isSome) = true := by rfl) (hl : keys.length = values.length := by rfl) (h0 : keys ≠ [] := by exact (fun z => nomatch z))
    (h15 : keys.length ≤ 15 := by decide) : PE X (.Dict keys values pos) (LE B (eDisp trs)) := PE_imp (pe_disp h hall hl h0 h15) (by
  rintro σ H Q ⟨π, S, σd, Qd, R, q, k⟩
  intro p hp
  obtain ⟨R1, x1⟩ := step_new R.sto (o := .dK []) (m := .dk []) hp ⟨[], upd_same, .nil⟩
  have ia : (π ++ [p])[S.length]? = some p := by rw [← R.sto.len, List.getElem?_append_right (Nat.le_refl _), Nat.sub_self]; rfl
  have q : tPairsD trs σd (S ++ [.dk []]) fun ps S2 => ∃ kvs : List (Key × Dv), ps = kvs.map (fun kv => (keyD kv.1, kv.2)) ∧ S2[S.length]? = some (.dk []) ∧ kvs.length ≤ 15 ∧ Qd (.obj S.length) (S2.set S.length (.dk (mergeD [] kvs))) := q
  refine LPairs trs σ _ _ (π ++ [p]) (S ++ [.dk []]) σd _ (R.to x1 R1) q fun π2 H2 S2 ds vs e2 R2 rp q => ?_
  obtain ⟨kvs, rfl, hi, hl, q⟩ := q
  obtain ⟨ws, rfl, rk⟩ := pairs_rep rp
  have i2 := e2.get ia
  obtain ⟨ws0, h1, h2⟩ := R2.at_ _ _ _ hi i2
  have hz : ws0 = [] := by cases h2; rfl
  subst hz
  have x3 := ext_write R2 (.dK (mergeK [] ws)) i2 (fun od u e => by rw [h1] at e; cases e)
  refine ⟨h1, ws, rfl, by rw [← Paired.length rk]; exact hl, k _ _ _ _ _ (x1.trans (e2.trans x3)) (step_write (m := .dk _) R2 i2 ⟨_, upd_same, RepK.mono x3 (merge_rep rk .nil)⟩) (.obj (x3.get i2)) q⟩)
end
end D3
set_option Elab.async false
set_option linter.all false
set_option maxRecDepth 100000
set_option maxHeartbeats 2000000
namespace D3
open PySem PySem.Spec PyProof.Rows L2
end D3
set_option Elab.async false
set_option linter.all false
set_option maxRecDepth 100000
set_option maxHeartbeats 2000000
namespace D3
open PySem PySem.Spec PyProof.Rows L2
end D3
set_option Elab.async false
set_option linter.all false
set_option maxRecDepth 100000
set_option maxHeartbeats 2000000
namespace D3
open PySem PySem.Spec PyProof.Rows L2
def spLaw (n : Nat) : Spd := fun ds S Q E => ∃ (x : Dv) (ns : List Int), ds = [x] ∧ seqOf S x = some (ns.map Dv.int) ∧ ns.length ≤ n ∧ (∀ z ∈ ns, Builtin.Int.intBits z ≤ 1048576) ∧ ∀ S', Q (.bl true) S'
theorem ints_repL {G : Cf} {π : List Addr} {H : Hp} : ∀ ns : List Int, RepL G π H (ns.map Dv.int) (ns.map V.int)
  | [] => .nil
  | n :: r => .cons (.int n) (ints_repL r)
theorem law_sp {K : PySem.W.Frag} {T : List (Addr × Str)} {n : Nat} {H : Hp} {a : Addr} {ns : List Int} (hT : LamX.Tabs T H) (hl : ns.length ≤ n) (hb : ∀ z ∈ ns, Builtin.Int.intBits z ≤ 1048576) (hS : SqL K H a (ns.map V.int)) : LSp ⟨K, T⟩ (spLaw n) [.ref a] H (fun v _ => v = .bl true) fun _ _ _ => False := by
  have fin : ∀ (π : List Addr) (S : Store) (x : Dv), RepS ⟨K, T⟩ π H S → Rep ⟨K, T⟩ π H x (.ref a) → seqOf S x = some (ns.map Dv.int) → LSp ⟨K, T⟩ (spLaw n) [.ref a] H (fun v _ => v = .bl true) fun _ _ _ => False := fun π S x R r e =>
    ⟨π, S, [x], fun d _ => d = .bl true, fun _ _ => False, R, .one r, ⟨x, ns, rfl, e, hl, hb, fun _ => rfl⟩, fun π' H' S' d v x R' rd q => by subst q; exact rd.bl_inv, fun π' H' S' x cls d e R' r q => q⟩
  have R0 : RepS ⟨K, T⟩ [] H [] := ⟨rfl, List.nodup_nil, fun i m a h => by simp at h, hT⟩
  rcases hS with (hS | ⟨o, hS⟩) | ⟨o, its, m, h1, h2, h3, h4, h5, h6⟩
  · have R1 : RepS ⟨K, T⟩ [a] H [.lst (ns.map Dv.int)] := by
      refine ⟨rfl, by simp, fun i m b h1 h2 => ?_, hT⟩
      cases i with
      | zero => cases h1; cases h2; exact ⟨_, hS, ints_repL ns⟩
      | succ i => simp at h1
    exact fin [a] _ (.obj 0) R1 (.obj rfl) rfl
  · exact fin [] [] (.fls (ns.map Dv.int)) R0 (.fls (.inl ⟨o, hS⟩) (ints_repL ns)) rfl
  · exact fin [] [] (.fls (ns.map Dv.int)) R0 (.fls (.inr ⟨o, its, m, h1, h2, h3, h4, h5, h6⟩) (ints_repL ns)) rfl
end D3
set_option Elab.async false
set_option linter.all false
set_option maxRecDepth 100000
set_option maxHeartbeats 4000000
namespace D3S
open PySem PySem.Spec PyProof.Rows L2
/-- the text of an entry -/
def kS (e : Int × Value) : Str := match e.2 with
  | .str x _ => x
  | _ => Str.empty
def Gd (w : World) (e : Int × Value) : Prop := ∃ x tx, e.2 = Value.str x tx ∧ e.1 = hashStr w x
/-- a set of texts at a: L its members as its table has them -/
def TxS (w : World) (h : Heap) (a : Addr) (L : List Str) : Prop :=
  ∃ ob en p tb, h.get? a = some ob ∧ ob.ExactSet ∧ ob.data = .set en p tb ∧ (∀ e ∈ en.toList, Gd w e) ∧ en.toList.map kS = L ∧ L.Nodup ∧
    en.size < scanBound ∧ tb.fits en.size = true ∧ Ris tb.place.toList ∧ (w.params.followText "set-order" = true ∨ tb.led = true)
section
variable {P : Program} {w : World} {h h' : Heap} {a : Addr} {L : List Str}
theorem TxS.at (T : TxS w h a L) (k : ∀ ob, h.get? a = some ob → h'.get? a = some ob) : TxS w h' a L := by
  obtain ⟨ob, en, p, tb, g, rest⟩ := T
  exact ⟨ob, en, p, tb, k ob g, rest⟩
theorem gd_els {l : List (Int × Value)} (g : ∀ e ∈ l, Gd w e) : ElemsOf (PySem.strKind P w) l := fun e m => by
  obtain ⟨x, tx, g1, g2⟩ := g e m
  exact ⟨⟨x, by rw [g1]; exact strKind_is P w x tx, g2⟩, by rw [g1] <;> rfl⟩
theorem gd_is {e : Int × Value} (g : Gd w e) (x : Str) : (PySem.strKind P w).is x e.2 = true ↔ kS e = x := by
  obtain ⟨y, ty, g1, _⟩ := g
  unfold kS
  rw [g1]
  show ((y == x) = true) ↔ y = x
  exact beq_iff_eq
theorem gd_mem {l : List (Int × Value)} (g : ∀ e ∈ l, Gd w e) (x : Str) : x ∈ l.map kS ↔ ∃ e ∈ l, (PySem.strKind P w).is x e.2 = true := by
  rw [List.mem_map]
  exact ⟨fun ⟨e, m, q⟩ => ⟨e, m, (gd_is (g e m) x).2 q⟩, fun ⟨e, m, q⟩ => ⟨e, m, (gd_is (g e m) x).1 q⟩⟩
end
section
variable {P : Program} {w : World} {A : Around} {E : Value → Shared → Prop} {s : Shared} {a : Addr} {L : List Str}
theorem tx_tail {gv : Bool → Sem Unit} (hgv : ∀ (b : Bool) (z : Shared) (Z : Unit → Shared → Prop), Z () z → wpAny (model P w) A (gv b) Z E z)
    {ob : Obj} {en : Array (Int × Value)} {p : Nat} {tb : SetTable} (g : s.heap.get? a = some ob) (hex : ob.ExactSet) (hd : ob.data = .set en p tb)
    {e1 : Array (Int × Value)} {t2 : SetTable} {L' : List Str} (g1 : ∀ e ∈ e1.toList, Gd w e) (pk : (e1.toList.map kS).Perm L') (nd : L'.Nodup)
    (hb : e1.size < scanBound) (hf : t2.fits e1.size = true) (hr : Ris t2.place.toList) (hl : w.params.followText "set-order" = true ∨ t2.led = true) {wd : Bool} {R : Option Bool → Shared → Prop}
    (hR : ∀ h' L2, Heap.SameBut a s.heap h' → L2.Perm L' → TxS w h' a L2 → R (some true) { s with heap := h' }) :
    wpAny (model P w) A (do
        storeSet a e1 t2
        if (!wd && t2.tooFull) = true then do
            gv (relayAll t2 e1 (SetTable.grown e1.size)).2.2
            storeSet a (relayAll t2 e1 (SetTable.grown e1.size)).1 (relayAll t2 e1 (SetTable.grown e1.size)).2.1
            pure (some true)
          else pure (some true)) R E s := by
  refine wpAny_bind (wpAny_storeSet_of g hd ?_ (fits_of_scanBound hb))
  have o1 := store_at (es' := e1) (t' := t2) g hd
  have b1 := Heap.SameBut.update s.heap a (Obj.putSet e1 t2)
  split
  · have pm := relayAll_perm t2 e1 (SetTable.grown e1.size); have f3 := relayAll_fits t2 e1 (SetTable.grown e1.size)
    have r3 := relayAll_ris t2 e1 (SetTable.grown e1.size); have l3 := relayAll_led t2 e1 (SetTable.grown e1.size)
    generalize relayAll t2 e1 (SetTable.grown e1.size) = Y at pm f3 r3 l3 ⊢
    obtain ⟨e2, t3, gave⟩ := Y; dsimp only at pm f3 r3 l3 ⊢
    have z2 : e2.size = e1.size := by rw [← Array.length_toList, pm.length_eq, Array.length_toList]
    have hb2 : e2.size < scanBound := z2 ▸ hb
    refine wpAny_bind (hgv _ _ _ ?_); refine wpAny_bind (wpAny_storeSet_of o1 rfl ?_ (fits_of_scanBound hb2))
    have o2 := store_at (es' := e2) (t' := t3) o1 rfl
    have p2 : (e2.toList.map kS).Perm L' := (pm.map kS).trans pk
    exact wpAny_pure (hR _ _ (b1.trans (Heap.SameBut.update _ a _)) p2 ⟨_, e2, _, t3, o2, hex, rfl, fun e m => g1 e (pm.mem_iff.mp m), rfl, p2.nodup_iff.mpr nd, hb2, f3, r3, hl.imp id fun z => by rw [l3]; exact z⟩)
  · exact wpAny_pure (hR _ _ b1 pk ⟨_, e1, _, t2, o1, hex, rfl, g1, rfl, pk.nodup_iff.mpr nd, hb, hf, hr, hl⟩)
theorem tx_addH {x : Str} {tx : Tok} {Q : Bool → Shared → Prop} (T : TxS w s.heap a L) (room : L.length + 1 < scanBound)
    (hQ : ∀ h' L' b, Heap.SameBut a s.heap h' → L'.Perm (if x ∈ L then L else x :: L) → TxS w h' a L' → Q b { s with heap := h' }) :
    wpAny (model P w) A (setAddHashed a (.str x tx) ((PySem.strKind P w).hash x)) Q E s := by
  obtain ⟨ob, en, p, tb, g, hex, hd, gd, eL, nd, hb, hf, hr, hl⟩ := T
  subst eL
  have hn : (en.toList.map kS).length = en.size := by rw [List.length_map, Array.length_toList]
  rw [hn] at room
  have hkey : (PySem.strKind P w).is x (.str x tx) = true := strKind_is P w x tx
  have sc : (Value.str x tx).scannable = true := rfl
  have el : ElemsOf (PySem.strKind P w) en.toList := gd_els gd
  unfold setAddHashed setAddHashedIn
  refine wpAny_holding (wpAny_bind (wpAny_setState_of g hd hf ?_)); dsimp only
  rw [byScan_of sc hb el]; simp only [↓reduceIte]
  unfold setAddByScan
  refine wpAny_bind ?_; refine wpAny_bind (wpAny_rule ?_); refine wpAny_bind (wpAny_setScan_of hkey g hd hf el ?_)
  cases fi : List.findIdx? (fun e => (PySem.strKind P w).is x e.2) en.toList with
  | some j =>
    dsimp only
    obtain ⟨hj, pj, _⟩ := List.findIdx?_eq_some_iff_getElem.mp fi
    have hx : x ∈ en.toList.map kS := (gd_mem (P := P) (w := w) gd x).2 ⟨en.toList[j], List.getElem_mem hj, pj⟩
    refine wpAny_pure (wpAny_pure ?_)
    exact hQ s.heap _ _ (Heap.SameBut.refl a s.heap) (by rw [if_pos hx]) ⟨ob, en, p, tb, g, hex, hd, gd, rfl, nd, hb, hf, hr, hl⟩
  | none =>
    dsimp only
    have hx : x ∉ en.toList.map kS := fun z => by
      obtain ⟨e, m, q⟩ := (gd_mem (P := P) (w := w) gd x).1 z
      have c := List.findIdx?_eq_none_iff.mp fi e m
      rw [q] at c; cases c
    have hgw : ∀ (b : Bool) {z : Shared} {Z : Unit → Shared → Prop}, Z () z → wpAny (model P w) A (match b with | true => rule "set.scan.the-table-gave-way" | false => pure ()) Z E z :=
      fun b z Z q => by cases b <;> first | exact wpAny_pure q | exact wpAny_rule q
    have pm := layNew_perm tb en ((PySem.strKind P w).hash x) (.str x tx); have f1 := layNew_fits tb en ((PySem.strKind P w).hash x) (.str x tx)
    have r1 := layNew_ris tb en ((PySem.strKind P w).hash x) (.str x tx) hr; have l1 := layNew_led tb en ((PySem.strKind P w).hash x) (.str x tx)
    generalize layNew tb en ((PySem.strKind P w).hash x) (.str x tx) = Y at pm f1 r1 l1 ⊢
    obtain ⟨e1, t1, wd, gave⟩ := Y; dsimp only at pm f1 r1 l1 ⊢
    rw [Array.toList_push] at pm
    have pc : e1.toList.Perm (((PySem.strKind P w).hash x, Value.str x tx) :: en.toList) := pm.trans (List.perm_append_singleton _ _)
    have pk : (e1.toList.map kS).Perm (x :: en.toList.map kS) := pc.map kS
    have g1 : ∀ e ∈ e1.toList, Gd w e := fun e m => by
      rcases List.mem_cons.mp (pc.mem_iff.mp m) with z | z
      · rw [z]; exact ⟨x, tx, rfl, rfl⟩
      · exact gd e z
    have nd1 : (x :: en.toList.map kS).Nodup := List.nodup_cons.mpr ⟨hx, nd⟩
    have z1 : e1.size = en.size + 1 := by rw [← Array.length_toList, pc.length_eq, List.length_cons, Array.length_toList]
    have hb1 : e1.size < scanBound := by rw [z1]; exact room
    have led : w.params.followText "set-order" = true ∨ t1.led = true := hl.imp id fun z => by rw [l1]; exact z
    have fin : ∀ h' L2, Heap.SameBut a s.heap h' → L2.Perm (x :: en.toList.map kS) → TxS w h' a L2 → Q true { s with heap := h' } := fun h' L2 sb q r => hQ h' L2 true sb (by rw [if_neg hx]; exact q) r
    refine wpAny_bind (hgw _ ?_)
    split
    · refine wpAny_bind ?_
      rw [hashByValue_scannable 8 sc]; refine wpAny_pure ?_
      refine tx_tail ?_ g hex hd g1 pk nd1 hb1 ?_ ?_ ?_ ?_
      · intro b z Z q; cases b <;> first | exact wpAny_pure q | exact wpAny_rule q
      · first | (split <;> first | exact f1 | exact SetTable.fits_plain_off f1) | exact f1
      · first | (split <;> exact r1) | exact r1
      · first | (split <;> exact led) | exact led
      · intro h' L2 sb q r; dsimp only; exact wpAny_pure (fin h' L2 sb q r)
    · refine wpAny_bind (wpAny_pure ?_)
      simp only [↓reduceIte]
      refine tx_tail ?_ g hex hd g1 pk nd1 hb1 f1 r1 led ?_
      · intro b z Z q; cases b <;> first | exact wpAny_pure q | exact wpAny_rule q
      · intro h' L2 sb q r; dsimp only; exact wpAny_pure (fin h' L2 sb q r)
/-- what the loop of set(xs) has at turn i -/
def TxI (w : World) (h : Heap) (a : Addr) (xs : List Str) (i : Nat) : Prop := ∃ L, TxS w h a L ∧ L.length ≤ i ∧ ∀ k, k ∈ L ↔ k ∈ xs.take i
theorem TxI.at {h h' : Heap} {xs : List Str} {i : Nat} (T : TxI w h a xs i) (k : ∀ ob, h.get? a = some ob → h'.get? a = some ob) : TxI w h' a xs i := by
  obtain ⟨L, h1, h2⟩ := T
  exact ⟨L, h1.at k, h2⟩
theorem tx_loop {I : Addr} {fp wr : List Addr} {G : Array GenState → Array GenState → Prop} {n : Nat} {Pv : Nat → Value → Prop} {St : Nat → Shared → Prop} {R : Result → Shared → Prop}
    (W : WalksS P w A.in1 I fp wr G n Pv St) (D : Addr) (hDf : D ∉ fp) (xs : List Str) (hn : n = xs.length) (hb : xs.length + 1 < scanBound) (hv : ∀ i v, Pv i v → ∃ y ty, xs[i]? = some y ∧ v = .str y ty) :
    ∀ (k i : Nat) (s : Shared), n - i = k → i ≤ n → St i s → TxI w s.heap D xs i →
      (∀ s', Moved (D :: wr) G s s' → TxI w s'.heap D xs n → R (.ok (.ret .none)) s') →
      codeAny (model P w) A (.builtin "set.update.loop" ⟨[.ref D, .ref I], []⟩) R s := by
  have hDw : D ∉ wr := fun z => hDf (W.sub _ z)
  have sub : ∀ b ∈ wr, b ∈ D :: wr := fun b m => List.mem_cons_of_mem _ m
  intro k
  induction k with
  | zero =>
    intro i s e le st T hR
    obtain rfl : i = n := by omega
    refine codeAny_builtin PyProof.Rows.F.entry_set_update_loop ?_; rw [Around.under_plainId PyProof.Rows.F.plain_set_update_loop _]
    show wpAny _ A.in1 (pyNext (.ref I) >>= _) _ _ s; refine wpAny_bind (W.done s _ _ st fun s' mv => ?_)
    show wpAny _ A.in1 (ret Value.none) _ _ s'; exact wpAny_pure (hR s' (mv.mono sub) (T.at fun ob e => mv.heap D ob hDw e))
  | succ k ih =>
    intro i s e le st ⟨L, T, cl, hm⟩ hR
    have lt : i < n := by omega
    refine codeAny_builtin PyProof.Rows.F.entry_set_update_loop ?_; rw [Around.under_plainId PyProof.Rows.F.plain_set_update_loop _]
    show wpAny _ A.in1 (pyNext (.ref I) >>= _) _ _ s; refine wpAny_bind (W.item i s _ _ lt st fun v s' pv st' mv => ?_)
    obtain ⟨y, ty, hy, rfl⟩ := hv i v pv
    have T' : TxS w s'.heap D L := T.at fun ob e => mv.heap D ob hDw e
    show wpAny _ A.in1 (holding [Value.str y ty] (setAdd D (.str y ty)) >>= _) _ _ s'
    refine wpAny_bind (wpAny_holding ?_); unfold setAdd; refine wpAny_holding ?_
    refine wpAny_bind ((PySem.strKind P w).pyHash (k := y) (strKind_is _ _ _ _) ?_)
    refine tx_addH (s := { s' with toks := s'.toks + 1 }) T' (by omega) fun h' L' b sb pm T2 => ?_
    have T3 : TxI w h' D xs (i + 1) := ⟨L', T2, by
      rw [pm.length_eq]
      split
      · omega
      · rw [List.length_cons]; omega, fun z => by
      rw [pm.mem_iff, List.take_add_one, hy]
      by_cases c : y ∈ L
      · rw [if_pos c, hm]
        simp only [Option.toList, List.mem_append, List.mem_singleton]
        exact ⟨.inl, fun q => q.elim id fun e => e ▸ (hm y).1 c⟩
      · rw [if_neg c, List.mem_cons, hm]
        simp only [Option.toList, List.mem_append, List.mem_singleton]
        exact Or.comm⟩
    refine wpAny_pure ⟨plainId_quiet PyProof.Rows.F.plain_set_update_loop _, ih (i + 1) _ (by omega) lt (W.frame _ s' _ _ st' (Nat.le_succ _) fun c hc o e => ?_) T3 fun s'' mv' T4 => ?_⟩
    · rw [sb.2 c (fun z : c = D => hDf (by rw [← z]; exact hc))]; exact e
    · refine hR s'' (Moved.trans W.gtrans ((mv.mono sub).then_heap (Nat.le_succ _) fun c o hc e => ?_) mv') T4
      rw [sb.2 c (fun z : c = D => hc (by rw [z]; exact List.mem_cons_self))]; exact e
theorem tx_fresh {h : Heap} {xs : List Str} (ho : h.get? a = some { cls := .type "set", dict := none, data := .set #[] 0 (.fresh 0 0 (!w.params.followText "set-order")) }) : TxI w h a xs 0 :=
  ⟨[], ⟨_, #[], 0, _, ho, ⟨rfl, rfl, rfl⟩, rfl, (fun e m => by simp at m), rfl, List.nodup_nil, (by decide), (by rfl), List.Pairwise.nil, by
    show _ ∨ (!w.params.followText "set-order") = true
    cases w.params.followText "set-order" <;> simp⟩, Nat.le_refl _, fun k => by simp⟩
abbrev freshO (w : World) : Obj := { cls := .type "set", dict := none, data := .set #[] 0 (.fresh 0 0 (!w.params.followText "set-order")) }
set_option maxHeartbeats 3200000 in
theorem tx_call {l : Addr} {its : Array Value} (xs : List Str) {Q : Value → Shared → Prop} (hh : A.handled = none) (hl : s.heap.IsList l its) (hit : StrsAre its.toList xs) (hb : xs.length + 1 < scanBound)
    (h : ∀ (h' : Heap) (tk : Nat), TxI w h' s.heap.objs.size xs xs.length → (∀ b o, s.heap.get? b = some o → h'.get? b = some o) → Q (.ref s.heap.objs.size) { s with heap := h', toks := tk }) :
    wpAny (model P w) A (call (.type "set") [.ref l]) Q E s := by
  have hsz : xs.length = its.size := by rw [← StrsAre.len_eq hit, Array.length_toList]
  obtain ⟨c, tl, hmro⟩ := PySem.F.called_set.mro
  have hmade := PySem.F.called_set.made; have hsub := PySem.F.called_set.sub
  refine wpAny_call (codeAny_of_tree ?_); show wpAny _ _ (callAny (.type "set") _) _ _ _
  refine wpAny_pure ⟨Code.quiet_builtin _ (by decide +kernel), codeAny_builtin PySem.F.entry_type_call ?_⟩; rw [Around.under_plain (weight_type_call_type "set" [.ref l] []) rfl]
  have h1 := PySem.F.called_set.notType; have h2 := PySem.F.called_set.canCreate; have hct := PySem.F.typeCall_set_1 (.ref l)
  repeat (any_goals (first | assumption | wp_step))
  refine codeAny_mono (code_set_led1 (.ref l) (E := E) (Q₁ := fun ob z => ob = .ref s.heap.objs.size ∧ z = { s with heap := s.heap.push (freshO w) }) ⟨rfl, rfl⟩) fun r z hr => ?_
  cases r with
  | error e => exact hr
  | ok fl =>
    cases fl with
    | ret ob =>
      obtain ⟨rfl, rfl⟩ := hr
      have hS : (s.heap.push (freshO w)).get? s.heap.objs.size = some (freshO w) := Heap.get?_push_size _ rfl
      have hT : Shared.TypeIs { s with heap := s.heap.push (freshO w) } (.ref s.heap.objs.size) "set" := ⟨_, hS, rfl⟩
      have hli := PySem.F.called_set.init.lookup; have hbi := PySem.F.called_set.init.bind (.ref s.heap.objs.size)
      repeat (any_goals (first | assumption | wp_step))
      refine codeAny_mono (codeAny_call_builtin (R := wants (fun r z => r = .none ∧ ∃ h' tk, z = { s with heap := h', toks := tk } ∧ TxI w h' s.heap.objs.size xs xs.length ∧
          (∀ b o, s.heap.get? b = some o → h'.get? b = some o)) E) PySem.F.called_set.init.plain PySem.F.entry_set_init (check_set_init_1 hT ?_)) fun r2 z2 hr2 => ?_
      · obtain ⟨ol, hol, hcl, nl, hdl⟩ := hl
        obtain ⟨oc, od, odata, osl⟩ := ol
        simp only at hcl hdl; subst hcl; subst hdl
        have hol' : (s.heap.push (freshO w)).get? l = some { cls := .type "list", dict := od, data := .seq its nl, slots := osl } := Heap.get?_push_of_some _ hol
        have u1 := PySem.F.sub_list_set; have u2 := PySem.F.sub_list_frozenset
        have hne : (Value.type "list" == Value.type "dict") = false := by decide
        have hl1 : (s.heap.push (freshO w)).IsList l its := ⟨_, hol', rfl, nl, rfl⟩
        unfold Builtin.«set.__init__» noKeywords Builtin.Frozenset.updateFrom
        generalize hPI : pyIter = PI; wp_walk; subst hPI
        refine wpAny_pyIter_list hl1 ?_; refine wpAny_bind (wpAny_runValue ?_)
        have ls : l < s.heap.objs.size := Heap.lt_size hol
        have hh3 : A.in1.in1.in1.handled = none := by simp [hh]
        have hz1 : (s.heap.push (freshO w)).objs.size = s.heap.objs.size + 1 := Heap.size_push ..
        have nI : l ≠ (s.heap.push (freshO w)).objs.size := by rw [hz1]; exact Nat.ne_of_lt (Nat.lt_succ_of_lt ls)
        have sf : s.heap.objs.size ∉ [(s.heap.push (freshO w)).objs.size, l] := by
          rw [hz1]; simp only [List.mem_cons, List.not_mem_nil, or_false, not_or]
          exact ⟨Nat.ne_of_lt (Nat.lt_succ_self _), Nat.ne_of_gt ls⟩
        have hv : ∀ (i : Nat) (v : Value), its[i]? = some v → ∃ y ty, xs[i]? = some y ∧ v = .str y ty := fun i v e => by
          have hi : i < xs.length := by rw [hsz]; exact (Array.getElem?_eq_some_iff.mp e).1
          obtain ⟨ty, q⟩ := SS.strs_at hit i v (by rw [Array.getElem?_toList]; exact e)
          exact ⟨xs[i], ty, List.getElem?_eq_getElem hi, by rw [q, List.getD_eq_getElem?_getD, List.getElem?_eq_getElem hi] <;> rfl⟩
        refine tx_loop ((Walks.list hh3 _ l nI its).toS) s.heap.objs.size sf xs hsz.symm hb hv (its.size - 0) 0 _ (by omega) (Nat.zero_le _) ⟨⟨_, Heap.get?_push_size _ rfl, rfl, rfl⟩, (hl1.push _)⟩ ?h0 ?hR
        case h0 => exact tx_fresh (Heap.get?_push_of_some _ hS)
        case hR =>
          intro z' mv T
          obtain ⟨h', g2, d', tk', os'⟩ := z'
          obtain rfl : g2 = s.gens := mv.gens
          obtain rfl : d' = s.drawn := mv.drawn
          obtain rfl : os' = s.os := mv.os
          show wpAny _ _ _ _ _ _; refine wpAny_pure ?_
          show wpAny _ _ (ret Value.none) _ _ _
          rw [← hsz] at T
          refine wpAny_pure ⟨rfl, h', tk', rfl, T, fun b o e => ?_⟩
          have b0 : b < s.heap.objs.size := Heap.lt_size e
          have b2 : b ≠ (s.heap.push (freshO w)).objs.size := by rw [hz1]; exact Nat.ne_of_lt (Nat.lt_succ_of_lt b0)
          exact mv.heap b o (by simp only [List.mem_cons, List.mem_singleton, List.not_mem_nil, or_false, not_or]; exact ⟨Nat.ne_of_lt b0, b2⟩) (Heap.get?_push_of_some _ (Heap.get?_push_of_some _ e))
      · cases r2 with
        | error e => exact hr2
        | ok f2 =>
          cases f2 with
          | ret r =>
            obtain ⟨rfl, h', tk, rfl, T, hk⟩ := hr2
            repeat (any_goals (first | assumption | wp_step))
            exact h _ _ T hk
          | _ => exact hr2.elim
    | _ => exact hr.elim
theorem strs_perm {vs : List Value} {en : List (Int × Value)} (g : ∀ e ∈ en, Gd w e) (p : vs.Perm (en.map (·.2))) : ∃ ys, StrsAre vs ys ∧ ys.Perm (en.map kS) := by
  have key : ∀ (v : Value), (∃ x tx, v = Value.str x tx) → kS (0, v) = kS (0, v) := fun _ _ => rfl
  refine ⟨vs.map fun v => kS (0, v), ?_, ?_⟩
  · have all : ∀ v ∈ vs, ∃ x tx, v = Value.str x tx := fun v m => by
      obtain ⟨e, he, q⟩ := List.mem_map.mp (p.mem_iff.mp m)
      obtain ⟨x, tx, h1, _⟩ := g e he
      exact ⟨x, tx, by rw [← q]; exact h1⟩
    clear p key
    induction vs with
    | nil => exact .nil
    | cons v vs ih =>
      obtain ⟨x, tx, rfl⟩ := all v List.mem_cons_self
      exact .cons x tx (ih fun u m => all u (List.mem_cons_of_mem _ m))
  · have q := p.map fun v => kS (0, v)
    rw [List.map_map] at q
    exact q
theorem tx_sorted {Q : Value → Shared → Prop} (T : TxS w s.heap a L) (hh : A.handled = none) (h64 : L.length < 64)
    (hQ : ∀ s' p (out : Array Value) (c : Nat) (ys : List Str), (∀ b o, s.heap.get? b = some o → s'.heap.get? b = some o) → s'.gens = s.gens → s'.os = s.os → s.heap.objs.size ≤ p →
      s'.heap.get? p = some (seqObj "list" out c) → StrsAre out.toList ys → ys.Perm L → sortedS ys = true → Q (.ref p) s') :
    wpAny (model P w) A (call (.builtin "sorted") [.ref a]) Q E s := by
  obtain ⟨ob, en, p, tb, g, hex, hd, gd, eL, nd, hb, hf, hr, hl⟩ := T
  refine Calls.call_function_entry kind_sorted plain_sorted entry_sorted (args_sorted1 _) ?_
  unfold Builtin.«sorted»; refine wpAny_bind (m := checkCount "sorted" 1 1 _) (wpAny_pure ?_)
  refine wpAny_bind (collect_set (A := A.in1) hh ⟨ob, g, hex.1, hd⟩ hf hb hr hl fun s1 vs k1 hz g1 o1 pm => ?_)
  obtain ⟨zs, hS, pz⟩ := strs_perm gd pm
  rw [eL] at pz
  have vl : vs.length = L.length := by rw [StrsAre.len_eq hS, pz.length_eq]
  refine wpAny_bind (wpAny_newList ?_ (by rw [vl, sizeLine_eq]; omega))
  have hoL : (s1.heap.push (seqObj "list" vs.toArray 0)).get? s1.heap.objs.size = some (seqObj "list" vs.toArray 0) := Heap.get?_push_size _ rfl
  refine wpAny_bind (wpAny_holding (wpAny_call_entry PyProof.Rows.slot_list_sort ⟨_, hoL, rfl⟩ PyProof.Rows.entry_list_sort
    (list_sort_treeK strKind_oneLt hoL hS.keysOf (fun v1 v2 rest e => keyKind_strs (by rw [← e]; exact hS)) (by rw [vl]; exact h64) fun st' hp hs => ⟨_, rfl, ?_⟩) (PyProof.Rows.args_list_sort _)))
  obtain ⟨ys, q1, q2, q3⟩ := sorted_out_str hS hp hs
  obtain ⟨c, hc⟩ := PyProof.Rows.sortedHeap_at (vs := vs) (out := (arrOf st').map (·.2)) hoL
  refine wpAny_pure ⟨_, rfl, hQ _ s1.heap.objs.size _ c ys (fun b u e => ?_) g1 o1 hz hc q1 (q2.trans pz) q3⟩
  have q := k1 b u e
  have lt := Heap.lt_size q
  show (sortedHeap (s1.heap.push (seqObj "list" vs.toArray 0)) s1.heap.objs.size vs ((arrOf st').map (·.2))).get? b = some u
  rw [sortedHeap_old (Nat.ne_of_lt lt) (by rw [size_push']; exact Nat.lt_succ_of_lt lt)]
  exact Heap.get?_push_of_some _ q
end
section
variable {X : Cx} {B : D3.Bs}
/-- sorted(set(xs)), xs a list of texts -/
def tSSet (K : PySem.W.Frag) (ta : TE) : TE := fun σ H Q => ta σ H fun x H1 => ∃ l, ∃ xs : List Str, x = .ref l ∧ SqL K H1 l (xs.map V.str) ∧ xs.length + 1 < scanBound ∧
  ∀ ys : List Str, ys.Nodup → (∀ k, k ∈ ys ↔ k ∈ xs) → ys.length < 64 ∧ (sortedS ys = true → ∀ p, H1 p = none → Q (.ref p) (upd H1 p (.lst (ys.map V.str))))
theorem pe_sSet {a : Expr} {ta : TE} {p p2 q pos : Pos} (hc : X.calm = true) (hg : Gl X "sorted") (hm : X.mg "sorted" = none) (hg2 : Gl X "set") (hm2 : X.mg "set" = none) (ha : PE X a ta)
    (na : starEach [a] X.env = (false, eval a X.env) :: starEach [] X.env := by rfl) : PE X (.Call (.Name "sorted" p) [.Call (.Name "set" p2) [a] [] q] [] pos) (tSSet X.K ta) := by
  refine ⟨fun pins s σ H Q I h => ?_⟩
  refine Call_ (ld_blt I hg hm (u := .builtin "sorted") (by decide +kernel) ?_)
  refine PyProof.Rows.callWith_builtin1 (PyProof.Rows.args_cons ?_ rfl) rfl rfl
  refine Call_ (ld_blt I hg2 hm2 boot_set ?_)
  refine PyProof.Rows.callWith_type1 (PyProof.Rows.args_cons (thn (ha.run pins s σ H _ I h) fun v s1 ⟨x, H1, I1, r1, q1⟩ => PyProof.Rows.args_nil ?_) na) na rfl
  obtain ⟨l, xs, rfl, hq, hb, q1⟩ := q1
  cases r1
  obtain ⟨its, r, pl, hz⟩ := I1.list hq
  refine tx_call xs (I1.ok.hd hc) pl.isList (by simpa using strsAre_of r) hb fun h' tk T hk => ?_
  refine PyProof.Rows.args_nil ?_
  obtain ⟨L, T, hl, hm⟩ := T
  rw [List.take_of_length_le (Nat.le_refl _)] at hm
  have nd : L.Nodup := by obtain ⟨ob, en, p, tb, g, hex, hd, gd, eL, nd, _⟩ := T; exact nd
  have I2 : Inv X pins σ H1 { s1 with heap := h', toks := tk } := I1.kept hk
  refine tx_sorted (s := { s1 with heap := h', toks := tk }) T (I1.ok.hd hc) (q1 L nd hm).1 fun s' p out c ys k g o hp hg hi hs ho => ?_
  obtain ⟨q2, q3⟩ := q1 ys (hs.nodup_iff.mpr nd) fun k => hs.mem_iff.trans (hm k)
  have hlen : (ys.map V.str).length ≤ sizeLine := by rw [List.length_map, sizeLine_eq]; omega
  have hn : H1 p = none := I2.hok.fresh hp
  have J : Inv X pins σ (upd H1 p (.lst (ys.map V.str))) { s1 with heap := s'.heap, gens := s'.gens, drawn := s'.drawn, toks := s'.toks } :=
    Inv.call (s := { s1 with heap := h', toks := tk }) (ch := []) I2 (Un.laid k hp hn) (I2.hok.laid k hp ⟨hlen, out.toList, c, vals_of_strs hi, hg⟩) (by rw [g]; exact I2.bare) (fun _ z => nomatch z)
  have e : s' = { s1 with heap := s'.heap, gens := s'.gens, drawn := s'.drawn, toks := s'.toks } := by
    cases s'; cases s1; cases o; rfl
  rw [e]
  exact ⟨.ref p, _, J, rfl, q3 ho p hn⟩
end
end D3S
namespace D3
open PySem PySem.Spec PyProof.Rows L2
def strsOf : List Dv → Option (List Str)
  | [] => some []
  | .str x :: r => (strsOf r).map (x :: ·)
  | _ :: _ => none
theorem strsOf_map : ∀ xs : List Str, strsOf (xs.map Dv.str) = some xs
  | [] => rfl
  | x :: xs => by show (strsOf (xs.map Dv.str)).map (x :: ·) = _; rw [strsOf_map xs]; rfl
def eSSet (t : TEd) : TEd := fun σ S Q => t σ S fun x S1 => ∃ i ds xs, x = .obj i ∧ getL S1 i = some ds ∧ strsOf ds = some xs ∧ xs.length < 4000 ∧
  ∀ ys : List Str, ys.Nodup → (∀ k, k ∈ ys ↔ k ∈ xs) → ys.length < 64 ∧ (sortedS ys = true → Q (.obj S1.length) (S1 ++ [.lst (ys.map Dv.str)]))
section
variable {G : Cf} {π : List Addr} {H : Hp}
theorem strs_rep : ∀ {ds : List Dv} {vs : List V} {xs : List Str}, RepL G π H ds vs → strsOf ds = some xs → vs = xs.map V.str
  | _, _, _, .nil, h => by cases h; rfl
  | _, _, _, .cons (d := d) h1 t, h => by
    cases d <;> first | (cases h; done) | skip
    obtain rfl := h1.str_inv
    rename_i ds vs x
    have h' : (strsOf ds).map (x :: ·) = some _ := h
    cases e : strsOf ds with
    | none => rw [e] at h'; cases h'
    | some ys =>
      rw [e] at h'
      cases h'
      rw [strs_rep t e]; rfl
theorem repL_strs : ∀ xs : List Str, RepL G π H (xs.map Dv.str) (xs.map V.str)
  | [] => .nil
  | x :: xs => .cons (.str x) (repL_strs xs)
end
section
variable {X : Cx} {B : Bs} {a : Expr} {ta : TEd}
theorem pSSet {p p2 q pos : Pos} (hK : B.G.K = X.K) (hc : X.calm = true) (hg : Gl X "sorted") (hm : X.mg "sorted" = none) (hg2 : Gl X "set") (hm2 : X.mg "set" = none) (ha : PE X a (LE B ta))
    (na : starEach [a] X.env = (false, eval a X.env) :: starEach [] X.env := by rfl) : PE X (.Call (.Name "sorted" p) [.Call (.Name "set" p2) [a] [] q] [] pos) (LE B (eSSet ta)) :=
  PE_imp (D3S.pe_sSet hc hg hm hg2 hm2 ha na) (by
    rintro σ H Q ⟨π, S, σd, Qd, R, h, k⟩
    refine ⟨π, S, σd, _, R, h, ?_⟩
    rintro π' H' S' d v x R' r ⟨i, ds, xs, rfl, hl, hs, hb, q⟩
    obtain ⟨b, vs, rfl, hq, l⟩ := seq_rep R' r (show seqOf S' (.obj i) = some ds from hl)
    obtain ⟨b', e, hp, vs', h1, l'⟩ := R'.here (getL_iff.mp hl) r
    cases e
    obtain rfl := strs_rep l' hs
    refine ⟨b, xs, rfl, by rw [← hK]; exact SqL.of h1, by unfold scanBound; omega, fun ys nd hk => ⟨(q ys nd hk).1, fun ho p hn => ?_⟩⟩
    exact (k.to x).lst R' (repL_strs ys) ((q ys nd hk).2 ho) hn)
end
end D3
set_option Elab.async false
set_option linter.all false
set_option maxRecDepth 100000
set_option maxHeartbeats 2000000
namespace D3
open PySem PySem.Spec PyProof.Rows L2
end D3
set_option Elab.async false
set_option linter.all false
set_option maxRecDepth 100000
set_option maxHeartbeats 2000000
namespace D3
open PySem PySem.Spec PyProof.Rows L2
def dSortedK : RDs := fun xs S Q => match xs with
  | [.obj i] => ∃ kvs ks, getK S i = some kvs ∧ kvs.map (·.1) = ks.map Sum.inr ∧ ks.length < 64 ∧ ∀ ys : List Str, ys.Perm ks → sortedS ys = true → Q (.obj S.length) (S ++ [.lst (ys.map Dv.str)])
  | _ => False
theorem repK_keys {G : Cf} {π : List Addr} {H : Hp} {kvs : List (Key × Dv)} {ws : List (Key × V)} (r : RepK G π H kvs ws) : ws.map (·.1) = kvs.map (·.1) := by
  unfold RepK at r
  induction r with
  | nil => rfl
  | cons h t ih => rw [List.map_cons, List.map_cons, ih, h.1]
section
variable {X : Cx} {B : Bs}
theorem kSortedK (hc : X.calm = true) : CallR X (.builtin "sorted") (LC B dSortedK) := by
  refine CallR_imp (call_sortedD hc) ?_
  rintro vs H Q ⟨π, S, ds, Qd, R, l, q, k⟩
  unfold dSortedK at q
  split at q
  · obtain ⟨v, rfl, rx⟩ := l.one_inv
    obtain ⟨kvs, ks, g, hk, hl, q⟩ := q
    obtain ⟨a, ws, rfl, hd, rk⟩ := getK_rep R g rx
    exact ⟨a, ws, ks, rfl, hd, by rw [repK_keys rk]; exact hk, hl, fun ys p hp hs hn => k.lst R (repL_strs ys) (q ys hp hs) hn⟩
  · exact q.elim
end
end D3
set_option Elab.async false
set_option linter.all false
set_option maxRecDepth 100000
set_option maxHeartbeats 2000000
namespace D3
open PySem PySem.Spec PyProof.Rows L2
theorem keyD_rep {G : Cf} {π : List Addr} {H : Hp} {k : Key} {v : V} (r : Rep G π H (keyD k) v) : v = kV k := by
  cases k
  · exact r.int_inv
  · exact r.str_inv
def dMulT : RD2 := fun x y S Q => match x, y with
  | .tup ds, .int k => ds ≠ [] ∧ 1 ≤ k ∧ k ≤ 1000 ∧ ds.length ≤ 1000 ∧ Q (.tup (List.replicate k.toNat ds).flatten) S
  | _, _ => False
end D3
namespace D3T
open PySem PySem.Spec PyProof.Rows L2
theorem tup_mul1 (l : Addr) (its : Array Value) (n : Nat) (dd : Option Addr) (sl : Array (Option Value)) (u : Tok) :
    Meets (Builtin.«tuple.__mul__» ⟨[.ref l, .int 1 u], []⟩) (fun _ R s => s.heap.get? l = some { cls := .type "tuple", dict := dd, data := .seq its n, slots := sl } ∧ R (.ok (.ret (Value.ref l))) s) :=
  .of_wp fun prog w A R s h => by
    obtain ⟨hp, g, d, tk, os⟩ := s; obtain ⟨hl, h⟩ := h
    have f1 := AutoSeq1.idx_int
    have c0 : (decide ((1 : Int) < -(2 ^ 63)) || decide ((1 : Int) ≥ 2 ^ 63)) = false := by decide
    have c1 : (its.isEmpty || ((1 : Int) == 1)) = true := by simp
    wp_walk using wpAny_loadPart' hl
    repeat (first
      | (refine wpAny_ite_false (decide_eq_false (by rw [c0]; exact Bool.false_ne_true)) ?_; wp_walk using wpAny_loadPart' hl)
      | (refine wpAny_ite_true (decide_eq_true (by rw [c1])) ?_; wp_walk using wpAny_loadPart' hl))
    exact ⟨_, rfl, h⟩
section
variable {X : Cx}
theorem op_mul1 : OpR X (binaryOp .Mult) (fun x y H Q => ∃ l xs, x = .ref l ∧ y = .int 1 ∧ SqT X.K H l xs ∧ Q (.ref l) H) := by
  intro pins s σ H x y v u Q I rx ry h
  obtain ⟨l, xs, rfl, rfl, hT, q⟩ := h
  cases rx
  obtain ⟨t, rfl⟩ := ry
  obtain ⟨its, r, ⟨⟨cls, dd, data, sl⟩, ho, hc, n, hd⟩, hs⟩ := I.tuple hT
  simp only at hc hd; subst hc hd
  exact wpAny_binaryOp_repeat_ref (T := "tuple") (U := "int") (by decide) ⟨_, ho, rfl⟩ (fun s' => typeIs_int s' 1 t) noFill_tuple_mul PySem.F.fills_int_mul PySem.F.slot_int_rmul repeat_tuple PySem.F.slot_int_index.lookup
    (call_meets PySem.F.slot_int_rmul (typeIs_int s 1 t) PySem.F.entry_int_rmul (PySem.F.args_int_rmul_2 _ _) (int_rmul_tuple 1 t l its.toArray n dd sl)
      ⟨ho, rfl, ⟨_, ho, rfl⟩, call_meets PySem.F.slot_tuple_mul ⟨_, ho, rfl⟩ PySem.F.entry_tuple_mul (PySem.F.args_tuple_mul_2 _ _) (tup_mul1 l its.toArray n dd sl t) ⟨ho, .ref l, H, I, rfl, q⟩⟩)
end
end D3T
namespace D3
open PySem PySem.Spec PyProof.Rows L2
section
variable {X : Cx} {B : Bs}
theorem oMulT (hK : B.G.K = X.K := by rfl) : OpR X (binaryOp .Mult) (L2' B dMulT) := by
  refine OpR_imp (OpR.or op_repT D3T.op_mul1) ?_
  rintro v u H Q ⟨π, S, d, e, Qd, R, r1, r2, q, k⟩
  unfold dMulT at q
  split at q
  · rename_i ds kk
    obtain ⟨hne, h1, h2, h3, q⟩ := q
    obtain rfl := r2.int_inv
    obtain ⟨a, xs, rfl, ht, l⟩ := r1.tup_inv
    have hlen := l.length
    by_cases c : kk = 1
    · subst c
      refine .inr ⟨a, xs, rfl, rfl, by rw [← hK]; exact ht.sq, k.here R r1 ?_⟩
      have e : (List.replicate (1 : Int).toNat ds).flatten = ds := by simp
      rw [e] at q
      exact q
    · refine .inl ⟨a, kk, xs, rfl, rfl, by rw [← hK]; exact ht.sq, fun z => hne ?_, by omega, h2, by omega, fun p hp => k.tup R (l.flat _) q hp⟩
      rw [z] at hlen
      exact List.eq_nil_of_length_eq_zero hlen
  · exact q.elim
end
end D3
set_option Elab.async false
set_option linter.all false
set_option maxRecDepth 100000
set_option maxHeartbeats 2000000
namespace D3
open PySem PySem.Spec
theorem gc_drop {S T : Store} {Q : KD} {d : Dv} (h : Q d S) (hd : d.clo S.length = true) (hc : StClo S) : Gc S.length Q d (S ++ T) :=
  .inr ⟨S.length, Nat.le_refl _, hd, by rw [List.take_left]; exact hc, by rw [List.take_left]; exact h⟩
theorem wc_drop {S T : Store} {acc : List Dv} {R : Store → Prop} (h : R S) (hd : Dv.cloL S.length acc = true) (hc : StClo S) : Wc S.length acc R (S ++ T) :=
  .inr ⟨S.length, Nat.le_refl _, hd, by rw [List.take_left]; exact hc, by rw [List.take_left]; exact h⟩
theorem stclo_one {S : Store} {m : Mo} (h : StClo S) (hm : m.clo (S.length + 1) = true) : StClo (S ++ [m]) := fun x hx => by
  rw [List.length_append]
  rcases List.mem_append.mp hx with z | z
  · exact mo_clo_le (Nat.le_add_right _ _) (h x z)
  · rw [List.mem_singleton.mp z]; exact hm
theorem cloL_ints {n : Nat} : ∀ {l : List Int}, Dv.cloL n (l.map Dv.int) = true
  | [] => rfl
  | a :: as => by show (true && Dv.cloL n (as.map Dv.int)) = true; rw [cloL_ints]; rfl
theorem cloL_append {n : Nat} : ∀ {a b : List Dv}, Dv.cloL n a = true → Dv.cloL n b = true → Dv.cloL n (a ++ b) = true
  | [], _, _, h => h
  | d :: ds, b, h, h2 => by
    have h' : (d.clo n && Dv.cloL n ds) = true := h
    rw [Bool.and_eq_true] at h'
    show (d.clo n && Dv.cloL n (ds ++ b)) = true
    rw [h'.1, cloL_append h'.2 h2]; rfl
theorem cloL_map {α : Type} {n : Nat} {f : α → Dv} : ∀ {l : List α}, (∀ a ∈ l, (f a).clo n = true) → Dv.cloL n (l.map f) = true
  | [], _ => rfl
  | a :: l, h => by
    show ((f a).clo n && Dv.cloL n (l.map f)) = true
    rw [h a List.mem_cons_self, cloL_map fun b hb => h b (List.mem_cons_of_mem _ hb)]; rfl
theorem cloL_iff {n : Nat} : ∀ {l : List Dv}, Dv.cloL n l = true ↔ ∀ d ∈ l, d.clo n = true
  | [] => ⟨fun _ d h => (nomatch h), fun _ => rfl⟩
  | a :: l => by
    show (a.clo n && Dv.cloL n l) = true ↔ _
    rw [Bool.and_eq_true, cloL_iff]
    simp
/-- a comprehension over l: what is made of each item is told, nothing is written -/
theorem lc_opt {α : Type} {J : Itd} {t : Tg} {tt : TTd} {te : TEd} {vs : List Nat} {σ : Sl} {S1 : Store} {Q : KD} (l : List α) (F : α → Dv) (g : α → Option Dv) (hJ : J.items = l.map F) (hok : J.ok S1) (hl : l.length < 100000) (hc : StClo S1)
    (hg : ∀ a ∈ l, ∀ y, g a = some y → y.clo S1.length = true)
    (step : ∀ a ∈ l, ∀ (K1 : KD) (K0 : Store → Prop), (∀ y, g a = some y → ∀ T, K1 y (S1 ++ T)) → (g a = none → ∀ T, K0 (S1 ++ T)) → t.rd (F a) (wipeD σ vs) S1 fun σ2 S2 => tt σ2 S2 fun b S3 => if b = true then te σ2 S3 K1 else K0 S3)
    (fin : Q (.obj S1.length) (S1 ++ [.lst (l.filterMap g)])) :
    ∃ Pv : Nat → List Dv → Store → Prop, Pv 0 [] S1 ∧ (∀ i acc S, i ≤ J.items.length → Pv i acc S → J.ok S ∧ acc.length < sizeLine) ∧
      (∀ (i : Nat) d acc S, J.items[i]? = some d → Pv i acc S → t.rd d (wipeD σ vs) S fun σ2 S2 => tt σ2 S2 fun b S3 =>
        if b = true then te σ2 S3 fun y S4 => Wc S1.length (acc ++ [y]) (Pv (i + 1) (acc ++ [y])) S4 else Wc S1.length acc (Pv (i + 1) acc) S3) ∧ ∀ acc S, Pv J.items.length acc S → Q (.obj S.length) (S ++ [.lst acc]) := by
  have hz : (100000 : Nat) ≤ sizeLine := by decide
  have hcl : ∀ i, Dv.cloL S1.length ((l.take i).filterMap g) = true := fun i => cloL_iff.mpr fun d hd => by
    obtain ⟨a, ha, e⟩ := List.mem_filterMap.mp hd
    exact hg a (List.mem_of_mem_take ha) d e
  refine ⟨fun i acc S => S = S1 ∧ acc = (l.take i).filterMap g, ⟨rfl, rfl⟩, ?_, ?_, ?_⟩
  · rintro i acc S hi ⟨rfl, rfl⟩
    refine ⟨hok, ?_⟩
    have := List.length_filterMap_le g (l.take i)
    rw [List.length_take] at this
    omega
  · rintro i d acc S hd ⟨rfl, rfl⟩
    rw [hJ, List.getElem?_map] at hd
    obtain ⟨a, ha, rfl⟩ := Option.map_eq_some_iff.mp hd
    have hm : a ∈ l := List.mem_of_getElem? ha
    have ht : l.take (i + 1) = l.take i ++ [a] := by rw [List.take_add_one, ha]; rfl
    refine step a hm _ (fun S3 => Wc S.length ((l.take i).filterMap g) _ S3) (fun y hy T => wc_drop ⟨rfl, ?_⟩ (cloL_append (hcl i) ?_) hc) (fun hy T => wc_drop ⟨rfl, ?_⟩ (hcl i) hc)
    · rw [ht, List.filterMap_append]; simp [hy]
    · show (y.clo _ && true) = true
      rw [hg a hm y hy]; rfl
    · rw [ht, List.filterMap_append]; simp [hy]
  · rintro acc S ⟨rfl, rfl⟩
    rw [hJ, List.length_map, List.take_length]
    exact fin
theorem lc_map {α : Type} {J : Itd} {t : Tg} {tt : TTd} {te : TEd} {vs : List Nat} {σ : Sl} {S1 : Store} {Q : KD} (l : List α) (F g : α → Dv) (hJ : J.items = l.map F) (hok : J.ok S1) (hl : l.length < 100000) (hc : StClo S1)
    (hg : ∀ a ∈ l, (g a).clo S1.length = true)
    (step : ∀ a ∈ l, ∀ (K1 : KD) (K0 : Store → Prop), (∀ T, K1 (g a) (S1 ++ T)) → t.rd (F a) (wipeD σ vs) S1 fun σ2 S2 => tt σ2 S2 fun b S3 => if b = true then te σ2 S3 K1 else K0 S3)
    (fin : Q (.obj S1.length) (S1 ++ [.lst (l.map g)])) :
    ∃ Pv : Nat → List Dv → Store → Prop, Pv 0 [] S1 ∧ (∀ i acc S, i ≤ J.items.length → Pv i acc S → J.ok S ∧ acc.length < sizeLine) ∧
      (∀ (i : Nat) d acc S, J.items[i]? = some d → Pv i acc S → t.rd d (wipeD σ vs) S fun σ2 S2 => tt σ2 S2 fun b S3 =>
        if b = true then te σ2 S3 fun y S4 => Wc S1.length (acc ++ [y]) (Pv (i + 1) (acc ++ [y])) S4 else Wc S1.length acc (Pv (i + 1) acc) S3) ∧ ∀ acc S, Pv J.items.length acc S → Q (.obj S.length) (S ++ [.lst acc]) := by
  refine lc_opt l F (fun a => some (g a)) hJ hok hl hc (fun a ha y hy => by cases hy; exact hg a ha) (fun a ha K1 K0 h _ => step a ha K1 K0 (h _ rfl)) ?_
  rw [show l.filterMap (fun a => some (g a)) = l.map g from by rw [List.filterMap_eq_map']]
  exact fin
theorem eLc_map {α : Type} {wi : TId} {t : Tg} {tt : TTd} {te : TEd} {vs : List Nat} {σ : Sl} {S S1 : Store} {Q : KD} (J : Itd) (l : List α) (F g : α → Dv) (hw : ∀ R : Itd → Store → Prop, R J S1 → wi σ S R) (hJ : J.items = l.map F) (hok : J.ok S1) (hl : l.length < 100000) (hc : StClo S1)
    (hg : ∀ a ∈ l, (g a).clo S1.length = true)
    (step : ∀ a ∈ l, ∀ (K1 : KD) (K0 : Store → Prop), (∀ T, K1 (g a) (S1 ++ T)) → t.rd (F a) (wipeD σ vs) S1 fun σ2 S2 => tt σ2 S2 fun b S3 => if b = true then te σ2 S3 K1 else K0 S3)
    (fin : Q (.obj S1.length) (S1 ++ [.lst (l.map g)])) : eLc wi t tt te vs σ S Q := hw _ (lc_map l F g hJ hok hl hc hg step fin)
theorem app_nil {S : Store} {K : Store → Prop} (h : ∀ T, K (S ++ T)) : K S := by
  have := h []
  rwa [List.append_nil] at this
theorem blsOf_mapf {α : Type} (f : α → Bool) : ∀ l : List α, blsOf (l.map fun a => .bl (f a)) = some (l.map f)
  | [] => rfl
  | a :: l => by show (blsOf (l.map fun a => .bl (f a))).map (f a :: ·) = _; rw [blsOf_mapf f l]; rfl
def cloSl (n : Nat) (σ : Sl) : Bool := σ.all fun o => match o with
  | none => true
  | some d => d.clo n
theorem fg_refl {n : Nat} : ∀ {σ : Sl}, cloSl n σ = true → Fg n σ σ
  | [], _ => trivial
  | none :: σ, h => by
    refine ⟨?_, fg_refl (σ := σ) (by simpa [cloSl] using h)⟩
    first | trivial | exact .inl rfl
  | some d :: σ, h => by
    have h' : (d.clo n && cloSl n σ) = true := h
    rw [Bool.and_eq_true] at h'
    refine ⟨?_, fg_refl h'.2⟩
    exact .inr ⟨rfl, h'.1⟩
theorem wk_drop {S T : Store} {σ : Sl} {R : Sl → Store → Prop} (h : R σ S) (hσ : cloSl S.length σ = true) (hc : StClo S) : Wk S.length R σ (S ++ T) :=
  .inr ⟨S.length, σ, Nat.le_refl _, fg_refl hσ, by rw [List.take_left]; exact hc, by rw [List.take_left]; exact h⟩
theorem getL_at {S T : Store} {xs : List Dv} : getL (S ++ .lst xs :: T) S.length = some xs := by
  unfold getL
  rw [List.getElem?_append_right (Nat.le_refl _), Nat.sub_self]; rfl
theorem st_get0 {S T : Store} : (S ++ T)[S.length]? = T[0]? := by rw [List.getElem?_append_right (Nat.le_refl _), Nat.sub_self]
theorem st_getk {S T : Store} {k : Nat} : (S ++ T)[S.length + k]? = T[k]? := by rw [List.getElem?_append_right (Nat.le_add_right _ _), Nat.add_sub_cancel_left]
theorem st_set0 {S T : Store} {m : Mo} : (S ++ T).set S.length m = S ++ T.set 0 m := by rw [List.set_append_right _ _ (Nat.le_refl _), Nat.sub_self]
theorem st_setk {S T : Store} {k : Nat} {m : Mo} : (S ++ T).set (S.length + k) m = S ++ T.set k m := by rw [List.set_append_right _ _ (Nat.le_add_right _ _), Nat.add_sub_cancel_left]
theorem st_getL0 {S T : Store} : getL (S ++ T) S.length = getL T 0 := by unfold getL; rw [st_get0]
theorem st_getLk {S T : Store} {k : Nat} : getL (S ++ T) (S.length + k) = getL T k := by unfold getL; rw [st_getk]
theorem getL_c0 {xs : List Dv} {T : Store} : getL (.lst xs :: T) 0 = some xs := rfl
theorem getL_cs {m : Mo} {T : Store} {k : Nat} : getL (m :: T) (k + 1) = getL T k := rfl
theorem seqI {A B : TSd} {D : EndsD} {σ : Sl} {S : Store} (h : A { D with nx := B D } σ S) : sSeq A B D σ S := h
theorem ifI {c : TTd} {A B : TSd} {D : EndsD} {σ : Sl} {S : Store} (h : c σ S fun b S1 => if b = true then A D σ S1 else B D σ S1) : sIf c A B D σ S := h
theorem dNe_int {a b : Int} {S : Store} {Q : KD} : dNe (.int a) (.int b) S Q = Q (.bl (!decide (a = b))) S := rfl
theorem dEq_int {a b : Int} {S : Store} {Q : KD} : dEq (.int a) (.int b) S Q = Q (.bl (decide (a = b))) S := rfl
theorem cast2 : ((2 : Nat) : Int) = 2 := rfl
theorem line0 : (0 ≤ sizeLine) = True := by simp
theorem line1 : (1 ≤ sizeLine) = True := eq_true (by decide)
theorem line2 : (2 ≤ sizeLine) = True := eq_true (by decide)
theorem line3 : (3 ≤ sizeLine) = True := eq_true (by decide)
theorem flatten1 {d : Dv} : ∀ {n : Nat}, (List.replicate n [d]).flatten = List.replicate n d
  | 0 => rfl
  | n + 1 => by rw [List.replicate_succ, List.flatten_cons, flatten1, List.replicate_succ]; rfl
theorem at_lt {α : Type} {l : List α} {i : Nat} {x : α} (h : l[i]? = some x) : i < l.length := (List.getElem?_eq_some_iff.mp h).1
theorem getL_old {S T : Store} {i : Nat} {xs : List Dv} (h : getL S i = some xs) : getL (S ++ T) i = some xs := by
  rw [getL_iff] at h ⊢
  rw [List.getElem?_append_left (at_lt h)]
  exact h
theorem ixN_nat {n k : Nat} (h : k < n) : L2.ixN n (k : Int) = some k := by
  unfold L2.ixN
  rw [if_pos (Int.natCast_nonneg k), if_pos (by omega), Int.toNat_natCast]
theorem atI_nat {α : Type} {l : List α} {i : Nat} {x : α} (h : l[i]? = some x) : L2.atI l (i : Int) = some x := by
  unfold L2.atI
  rw [ixN_nat (at_lt h)]
  exact h
theorem atI_neg1 {α : Type} {l : List α} {x : α} : L2.atI (l ++ [x]) (-1) = some x := by
  unfold L2.atI L2.ixN
  rw [if_neg (by decide), if_pos (by rw [List.length_append]; simp; omega)]
  have e : ((-1 : Int) + ((l ++ [x]).length : Nat)).toNat = l.length := by rw [List.length_append]; simp; omega
  rw [e]
  simp
theorem enum_get {α : Type} {l : List α} {f : α → Dv} {i : Nat} {d : Dv} (h : ((l.map f).zipIdx.map fun p => Dv.tup [.int (p.2 : Nat), p.1])[i]? = some d) : ∃ a, l[i]? = some a ∧ d = .tup [.int (i : Nat), f a] := by
  rw [List.getElem?_map, List.getElem?_zipIdx, List.getElem?_map] at h
  cases e : l[i]? with
  | none => rw [e] at h; simp at h
  | some a => rw [e] at h; simp at h; exact ⟨a, rfl, h.symm⟩
def jEnum (x : Dv) (ds : List Dv) : Itd := ⟨ds.zipIdx.map fun p => .tup [.int (p.2 : Nat), p.1], fun S' => seqOf S' x = some ds⟩
def jSeq (x : Dv) (ds : List Dv) : Itd := ⟨ds, fun S' => seqOf S' x = some ds⟩
def jRg (n : Nat) : Itd := ⟨(List.range n).map fun k : Nat => .int (0 + k), fun _ => True⟩
def jZip (x y : Dv) (ds es : List Dv) : Itd := ⟨(ds.zip es).map fun p => .tup [p.1, p.2], fun S' => seqOf S' x = some ds ∧ seqOf S' y = some es⟩
theorem jRg_get {n i : Nat} {d : Dv} (h : (jRg n).items[i]? = some d) : i < n ∧ d = .int i := by
  have h' : ((List.range n).map fun k : Nat => Dv.int (0 + k))[i]? = some d := h
  rw [List.getElem?_map] at h'
  obtain ⟨k, hk, rfl⟩ := Option.map_eq_some_iff.mp h'
  have hl := at_lt hk
  rw [List.length_range] at hl
  rw [List.getElem?_range hl] at hk
  cases hk
  exact ⟨hl, by rw [Int.zero_add]⟩
theorem jRg_len {n : Nat} : (jRg n).items.length = n := by simp [jRg]
theorem jEnum_get {α : Type} {x : Dv} {l : List α} {f : α → Dv} {i : Nat} {d : Dv} (h : (jEnum x (l.map f)).items[i]? = some d) : ∃ a, l[i]? = some a ∧ d = .tup [.int (i : Nat), f a] := enum_get h
theorem jEnum_len {α : Type} {x : Dv} {l : List α} {f : α → Dv} : (jEnum x (l.map f)).items.length = l.length := by simp [jEnum]
theorem jSeq_get {α : Type} {x : Dv} {l : List α} {f : α → Dv} {i : Nat} {d : Dv} (h : (jSeq x (l.map f)).items[i]? = some d) : ∃ a, l[i]? = some a ∧ d = f a := by
  have h' : (l.map f)[i]? = some d := h
  rw [List.getElem?_map] at h'
  obtain ⟨a, ha, rfl⟩ := Option.map_eq_some_iff.mp h'
  exact ⟨a, ha, rfl⟩
theorem jSeq_len {α : Type} {x : Dv} {l : List α} {f : α → Dv} : (jSeq x (l.map f)).items.length = l.length := by simp [jSeq]
theorem hw_enum {t : TAd} {σ : Sl} {S S1 : Store} {x : Dv} {ds : List Dv} (ht : ∀ R : List Dv → Store → Prop, R [x] S1 → t σ S R) (hs : seqOf S1 x = some ds) : ∀ R : Itd → Store → Prop, R (jEnum x ds) S1 → iEnumD t σ S R := fun R h => ht _ ⟨x, ds, rfl, hs, h⟩
theorem hw_seq {t : TEd} {σ : Sl} {S S1 : Store} {x : Dv} {ds : List Dv} (ht : ∀ R : Dv → Store → Prop, R x S1 → t σ S R) (hs : seqOf S1 x = some ds) : ∀ R : Itd → Store → Prop, R (jSeq x ds) S1 → iSeq t σ S R := fun R h => ht _ ⟨ds, hs, h⟩
theorem hw_rg1 {t : TAd} {σ : Sl} {S S1 : Store} {n : Nat} (ht : ∀ R : List Dv → Store → Prop, R [.int n] S1 → t σ S R) (hn : n < 100000) : ∀ R : Itd → Store → Prop, R (jRg n) S1 → iRg1 t σ S R := fun R h => ht _ ⟨(n : Nat), rfl, by omega, by omega, by rw [Int.toNat_natCast]; exact h⟩
theorem hw_zip {t : TAd} {σ : Sl} {S S1 : Store} {x y : Dv} {ds es : List Dv} (ht : ∀ R : List Dv → Store → Prop, R [x, y] S1 → t σ S R) (h1 : seqOf S1 x = some ds) (h2 : seqOf S1 y = some es) : ∀ R : Itd → Store → Prop, R (jZip x y ds es) S1 → iZipD t σ S R := fun R h => ht _ ⟨x, y, ds, es, rfl, h1, h2, h⟩
def jDown (n : Nat) : Itd := ⟨(List.range n).map fun k : Nat => .int (((n : Int) - 1) + (k : Int) * (-1)), fun _ => True⟩
theorem jDown_get {n i : Nat} {d : Dv} (h : (jDown n).items[i]? = some d) : i < n ∧ d = .int ((n - 1 - i : Nat) : Int) := by
  have h' : ((List.range n).map fun k : Nat => Dv.int (((n : Int) - 1) + (k : Int) * (-1)))[i]? = some d := h
  rw [List.getElem?_map] at h'
  obtain ⟨k, hk, rfl⟩ := Option.map_eq_some_iff.mp h'
  have hl := at_lt hk
  rw [List.length_range] at hl
  rw [List.getElem?_range hl] at hk
  cases hk
  exact ⟨hl, by congr 1; omega⟩
theorem jDown_len {n : Nat} : (jDown n).items.length = n := by simp [jDown]
theorem hw_down {t : TAd} {σ : Sl} {S S1 : Store} {n : Nat} (ht : ∀ R : List Dv → Store → Prop, R [.int ((n : Int) - 1), .int (-1), .int (-1)] S1 → t σ S R) (hn : n < 100000) : ∀ R : Itd → Store → Prop, R (jDown n) S1 → iRg3 t σ S R := fun R h => ht _ ⟨(n : Int) - 1, -1, -1, n, rfl, by
  have := L2.RgC.neg (i := (n : Int) - 1) (j := -1) (by omega) (by omega) (by omega) (by omega)
  have e : ((n : Int) - 1 - -1).toNat = n := by omega
  rw [e] at this
  exact this, h⟩
theorem sFor_inv {wi : TId} {g : TGd} {tb : TSd} {D : EndsD} {σ : Sl} {S S1 : Store} (J : Itd) (Pv : Nat → Sl → Store → Prop) (hw : ∀ R : Itd → Store → Prop, R J S1 → wi σ S R) (h0 : Pv 0 σ S1) (hok : ∀ i σ S, i ≤ J.items.length → Pv i σ S → J.ok S)
    (step : ∀ (i : Nat) d σ S, J.items[i]? = some d → Pv i σ S → ∀ K : Sl → Store → Prop, (∀ σ S, Wk S1.length (Pv (i + 1)) σ S → K σ S) → g d σ S fun σ2 S2 => tb { D with nx := K, ct := K, bk := D.nx } σ2 S2) (fin : ∀ σ S, Pv J.items.length σ S → D.nx σ S) : sFor wi g tb D σ S :=
  hw _ ⟨Pv, h0, hok, fun i d σ S hd hP => step i d σ S hd hP _ (fun _ _ h => h), fin⟩
theorem take_succ0 {α : Type} {l : List α} {i : Nat} {a : α} (ha : l[i]? = some a) : l.take (i + 1) = l.take i ++ [a] := by rw [List.take_add_one, ha]; rfl
theorem for_ex {g : TGd} {tb : TSd} {D : EndsD} {σ : Sl} {S1 : Store} (J : Itd) (Pv : Nat → Sl → Store → Prop) (h0 : Pv 0 σ S1) (hok : ∀ i σ S, i ≤ J.items.length → Pv i σ S → J.ok S)
    (step : ∀ (i : Nat) d σ S, J.items[i]? = some d → Pv i σ S → ∀ K : Sl → Store → Prop, (∀ σ S, Wk S1.length (Pv (i + 1)) σ S → K σ S) → g d σ S fun σ2 S2 => tb { D with nx := K, ct := K, bk := D.nx } σ2 S2) (fin : ∀ σ S, Pv J.items.length σ S → D.nx σ S) :
    ∃ Pv : Nat → Sl → Store → Prop, Pv 0 σ S1 ∧ (∀ i σ S, i ≤ J.items.length → Pv i σ S → J.ok S) ∧
      (∀ (i : Nat) d σ S, J.items[i]? = some d → Pv i σ S → g d σ S fun σ2 S2 => tb { D with nx := Wk S1.length (Pv (i + 1)), ct := Wk S1.length (Pv (i + 1)), bk := D.nx } σ2 S2) ∧ ∀ σ S, Pv J.items.length σ S → D.nx σ S :=
  ⟨Pv, h0, hok, fun i d σ S hd hP => step i d σ S hd hP _ (fun _ _ h => h), fin⟩
/-- a loop over range(n), n one of several -/
theorem sFor_rg {t : TAd} {g : TGd} {tb : TSd} {D : EndsD} {σ : Sl} {S : Store} (P : Nat → Store → Prop) (ht : ∀ R : List Dv → Store → Prop, (∀ (n : Nat) S1, P n S1 → R [.int (n : Nat)] S1) → t σ S R) (hP : ∀ n S1, P n S1 → n < 100000)
    (body : ∀ n S1, P n S1 → ∃ Pv : Nat → Sl → Store → Prop, Pv 0 σ S1 ∧ (∀ i σ S, i ≤ (jRg n).items.length → Pv i σ S → (jRg n).ok S) ∧
      (∀ (i : Nat) d σ S, (jRg n).items[i]? = some d → Pv i σ S → g d σ S fun σ2 S2 => tb { D with nx := Wk S1.length (Pv (i + 1)), ct := Wk S1.length (Pv (i + 1)), bk := D.nx } σ2 S2) ∧ ∀ σ S, Pv (jRg n).items.length σ S → D.nx σ S) : sFor (iRg1 t) g tb D σ S :=
  ht _ fun n S1 hn => ⟨(n : Nat), rfl, by omega, by have := hP n S1 hn; omega, by rw [Int.toNat_natCast]; exact body n S1 hn⟩
theorem eLc_inv {wi : TId} {t : Tg} {tt : TTd} {te : TEd} {vs : List Nat} {σ : Sl} {S S1 : Store} {Q : KD} (J : Itd) (Pv : Nat → List Dv → Store → Prop) (hw : ∀ R : Itd → Store → Prop, R J S1 → wi σ S R) (h0 : Pv 0 [] S1) (hok : ∀ i acc S, i ≤ J.items.length → Pv i acc S → J.ok S ∧ acc.length < sizeLine)
    (step : ∀ (i : Nat) d acc S, J.items[i]? = some d → Pv i acc S → ∀ (K1 : KD) (K0 : Store → Prop), (∀ y S4, Wc S1.length (acc ++ [y]) (Pv (i + 1) (acc ++ [y])) S4 → K1 y S4) → (∀ S4, Wc S1.length acc (Pv (i + 1) acc) S4 → K0 S4) → t.rd d (wipeD σ vs) S fun σ2 S2 => tt σ2 S2 fun b S3 => if b = true then te σ2 S3 K1 else K0 S3)
    (fin : ∀ acc S, Pv J.items.length acc S → Q (.obj S.length) (S ++ [.lst acc])) : eLc wi t tt te vs σ S Q :=
  hw _ ⟨Pv, h0, hok, fun i d acc S hd hP => step i d acc S hd hP _ (fun S => Wc S1.length acc (Pv (i + 1) acc) S) (fun _ _ h => h) (fun _ h => h), fin⟩
theorem yesT {σ : Sl} {S : Store} {A B : Store → Prop} (h : A S) : cYes σ S fun b S => if b = true then A S else B S := by show (if true = true then A S else B S); rw [if_pos rfl]; exact h
theorem small_line {n : Nat} (h : n < 100000) : n < sizeLine := Nat.lt_of_lt_of_le h (by decide)
theorem find_first {α : Type} {p : α → Bool} {l : List α} {i : Nat} {a : α} (h : ∀ b ∈ l.take i, p b = false) (ha : l[i]? = some a) (hp : p a = true) : l.findIdx? p = some i := by
  rw [List.findIdx?_eq_some_iff_getElem]
  refine ⟨at_lt ha, ?_, fun j hj => ?_⟩
  · rw [(List.getElem?_eq_some_iff.mp ha).2]; exact hp
  · have hl := at_lt ha
    rw [h _ (by rw [List.mem_take_iff_getElem]; exact ⟨j, by omega, rfl⟩)]
    exact Bool.false_ne_true
theorem find_none {α : Type} {p : α → Bool} {l : List α} (h : ∀ b ∈ l, p b = false) : l.findIdx? p = none := by
  rw [List.findIdx?_eq_none_iff]
  exact h
theorem take_succ {α : Type} {l : List α} {i : Nat} {a : α} (ha : l[i]? = some a) : l.take (i + 1) = l.take i ++ [a] := by rw [List.take_add_one, ha]; rfl
end D3
set_option Elab.async false
set_option linter.all false
set_option maxRecDepth 100000
set_option maxHeartbeats 2000000
namespace D3
open PySem PySem.Spec PyProof.Rows L2
section
variable {X : Cx} {B : Bs}
theorem RepL.rev {G : Cf} {π : List Addr} {H : Hp} : ∀ {ds : List Dv} {vs : List V}, RepL G π H ds vs → RepL G π H ds.reverse vs.reverse
  | _, _, .nil => .nil
  | _, _, .cons h t => by
    rw [List.reverse_cons, List.reverse_cons]
    exact RepL.append (RepL.rev t) (.cons h .nil)
end
end D3
set_option Elab.async false
set_option linter.all false
set_option maxRecDepth 100000
set_option maxHeartbeats 4000000
namespace D3
open PySem PySem.Spec PyProof.Rows L2 L2.DX
end D3
namespace D3
open PySem PySem.Spec PyProof.Rows L2 L2.DX
end D3
set_option Elab.async false
set_option linter.all false
set_option maxRecDepth 100000
set_option maxHeartbeats 4000000
namespace D3
open PySem PySem.Spec PyProof.Rows L2
section
variable {X : Cx} {B : Bs}
theorem reads_bls {h : Heap} : ∀ {bs : List Bool} {vs : List Value}, Vals (bs.map V.bl) vs → ReadsAll h vs (bs.map PyData.bool) []
  | [], _, r => by cases r; exact .nil
  | b :: bs, _, r => by
    cases r with
    | cons r1 r2 =>
      obtain rfl := (show _ = Value.bool b from r1)
      exact .cons (as := []) (bs := []) (.bool b) (reads_bls r2)
theorem plain_bls : ∀ bs : List Bool, PyData.plainAll (bs.map PyData.bool) = true
  | [] => rfl
  | b :: bs => by
    have ih := plain_bls bs
    simp only [List.map_cons, PyData.plainAll, PyData.plain, ih, Bool.and_self]
theorem depth_bls : ∀ bs : List Bool, PyData.depthAll (bs.map PyData.bool) = 0
  | [] => rfl
  | b :: bs => by
    have ih := depth_bls bs
    simp only [List.map_cons, PyData.depthAll, PyData.depth, ih]
    rfl
theorem count_bls (b : Bool) : ∀ bs : List Bool, ((bs.map PyData.bool).countP fun y => PyData.eqv y (.bool b)) = bs.countP fun c => c == b
  | [] => rfl
  | c :: bs => by
    have ih := count_bls b bs
    rw [List.map_cons, List.countP_cons, List.countP_cons, ih]
    congr 1
def rCountB (K : PySem.W.Frag) : V → List V → Hp → VK → Prop := fun x xs H Q => ∃ (a : Addr) (bs : List Bool) (b : Bool), x = .ref a ∧ xs = [.bl b] ∧ SqL K H a (bs.map V.bl) ∧ Q (.int ((bs.countP fun c => c == b : Nat) : Int)) H
theorem mt_countB (hu : X.A.units + 64 < cLine) : MtR X "list.count" (rCountB X.K) := by
  intro pins s σ H x xs v us Q I rx rxs h
  obtain ⟨a, bs, b, rfl, rfl, hs, q⟩ := h
  cases rx
  cases rxs with
  | cons ry rt =>
    cases rt
    obtain rfl := (show _ = Value.bool b from ry)
    obtain ⟨its, rv, hl, _⟩ := I.list hs
    have r1 : ReadsAll s.heap its.toArray.toList (bs.map PyData.bool) [] := reads_bls rv
    refine PySem.SeqAt.count_list_data hl.isList r1 (.bool b) (plain_bls bs) rfl (by rw [depth_bls]; have : min 0 (PyData.depth (.bool b)) = 0 := Nat.zero_min _; omega) ?_
    rw [count_bls]
    exact ⟨.int _, H, I.tok _, ⟨_, rfl⟩, q⟩
def dCount : Dv → RDs := fun x vs S Q => match x, vs with
  | .obj i, [.bl b] => ∃ ds bs, getL S i = some ds ∧ blsOf ds = some bs ∧ Q (.int ((bs.countP fun c => c == b : Nat) : Int)) S
  | _, _ => False
theorem mCount (hu : X.A.units + 64 < cLine) (hK : B.G.K = X.K := by rfl) : MtR X "list.count" (LM B dCount) := by
  refine MtR_imp (mt_countB hu) ?_
  rintro v vs H Q ⟨π, S, d, ds, Qd, R, r, rs, q, k⟩
  unfold dCount at q
  split at q
  · obtain ⟨xs, bs, g, hb, q⟩ := q
    obtain ⟨a, rfl, i1, zs, h1, l⟩ := R.here (getL_iff.mp g) r
    obtain ⟨u, rfl, ru⟩ := rs.one_inv
    obtain rfl := ru.bl_inv
    have e := bls_rep l hb
    subst e
    exact ⟨a, bs, _, rfl, rfl, SqL.of h1, k.here R (.int _) q⟩
  · exact q.elim
def dIndexB : Dv → RDs := fun x vs S Q => match x, vs with
  | .obj i, [.bl b] => ∃ ds bs, getL S i = some ds ∧ blsOf ds = some bs ∧ ∃ j : Nat, bs[j]? = some b ∧ (∀ m : Nat, m < j → bs[m]? ≠ some b) ∧ Q (.int (j : Int)) S
  | _, _ => False
theorem flat_bls : ∀ bs : List Bool, (bs.map V.bl).all flatV = true
  | [] => rfl
  | _ :: bs => flat_bls bs
theorem mIndexB (hK : B.G.K = X.K := by rfl) : MtR X "list.index" (LM B dIndexB) := by
  refine MtR_imp mt_index ?_
  rintro v vs H Q ⟨π, S, d, ds, Qd, R, r, rs, q, k⟩
  unfold dIndexB at q
  split at q
  · obtain ⟨xs, bs, g, hb, j, hj, hno, q⟩ := q
    obtain ⟨a, rfl, i1, zs, h1, l⟩ := R.here (getL_iff.mp g) r
    obtain ⟨u, rfl, ru⟩ := rs.one_inv
    obtain rfl := ru.bl_inv
    have e := bls_rep l hb
    subst e
    rename_i b
    refine ⟨a, bs.map V.bl, .bl b, j, .bl b, rfl, rfl, SqL.of h1, rfl, flat_bls bs, by rw [List.getElem?_map, hj]; rfl, by cases b <;> rfl, fun m z' hm hz => ?_, k.here R (.int _) q⟩
    rw [List.getElem?_map] at hz
    obtain ⟨c, hc, rfl⟩ := Option.map_eq_some_iff.mp hz
    have := hno m hm
    rw [hc] at this
    cases b <;> cases c <;> first | rfl | exact absurd rfl this
  · exact q.elim
def eNever : TEd := fun _ _ _ => False
theorem pNever {e : Expr} : PE X e (LE B eNever) := ⟨fun pins s σ H Q I h => by
  obtain ⟨_, _, _, _, _, z, _⟩ := h
  exact z.elim⟩
def dIsE (K : PySem.W.Frag) (D a : Addr) : RDs := fun xs S Q => match xs with
  | [.adr b, .adr C] => b = a ∧ ∃ t, PySem.W.kitOne K (.ref D) (.ref C) = some t ∧ Q (.bl t) S
  | [.adr b, .ty n] => b = a ∧ ∃ t, PySem.W.kitOne K (.ref D) (.type n) = some t ∧ Q (.bl t) S
  | _ => False
theorem kIsE {a D : Addr} {oe : Obj} {pn : List (Addr × Obj)} (C : ExcC X.K D) (hz : Zc (.ref D) none oe) (hf : ∃ vs, oe.data = .fields vs) : CallR (X.suite a ((a, oe) :: pn)) (.builtin "isinstance") (LC B (dIsE X.K D a)) := by
  refine CallR_imp (call_isE C hz hf) ?_
  rintro vs H Q ⟨π, S, ds, Qd, R, r, q, k⟩
  unfold dIsE at q
  split at q
  · obtain ⟨v, u, rfl, r1, r2⟩ := r.two_inv
    obtain ⟨rfl, t, ht, q⟩ := q
    cases r1
    cases r2
    exact ⟨_, _, t, rfl, fun u hu => hu, ht, k.here R (.bl _) q⟩
  · obtain ⟨v, u, rfl, r1, r2⟩ := r.two_inv
    obtain ⟨rfl, t, ht, q⟩ := q
    cases r1
    obtain rfl := r2.ty_inv
    exact ⟨_, _, t, rfl, fun u hu => hu, ht, k.here R (.bl _) q⟩
  · exact q.elim
end
end D3
set_option Elab.async false
set_option linter.all false
set_option maxRecDepth 100000
set_option maxHeartbeats 4000000
namespace D3
open PySem PySem.Spec PyProof.Rows L2
structure FunC (K : PySem.W.Frag) (x qual : Str) (st : Stmt) (f : Addr) (fd : FuncData) (c : Addr) : Prop where
  ex : ∃ (oc : Value) (od : Option Addr) (kV doc pm : Value) (an : Option Addr) (ct : Value) (osl : Array (Option Value)),
    fd = PySem.W.fnOf x qual (defArgs st) (defBody st) (defScope st) .none kV doc pm an (.ref c) ct ∧ K.lookup f = some ⟨oc, od, .func fd, osl⟩ ∧ PySem.W.codeIn K (.ref c) qual = true
section
variable {P : Program} {w : World} {K : PySem.W.Frag} {mg : Str → Option Value} {base : Heap} {k : Nat} {f c : Addr} {fd : FuncData} {ps : List Str} {spd : Spd} {x : Str}
theorem okDc {qual : Str} {st : Stmt} {N : List Str} {TT : List (Addr × Str)} (F : FunC K x qual st f fd c) (S : FnScope N ps (defScope st)) (len : ∀ ds S Q E, spd ds S Q E → ds.length = ps.length) (td : WXd → TSd)
    (hb : ∀ (π0 : List Addr) (H0 : Hp) (Wd : WXd) (A : Around) (outer : List Env) (s : Shared) (H : Hp) (E : XK), Room k (A.deeper (envOfC qual (defScope st) s.heap.objs.size f (.ref c))) → Takes (cxOf (L2.CX P w) P w K mg base N qual (defScope st) f (.ref c) A outer s H E) (LW ⟨⟨K, TT⟩, π0, H0⟩ Wd) →
      PSs (cxOf (L2.CX P w) P w K mg base N qual (defScope st) f (.ref c) A outer s H E) (defBody st) (LS ⟨⟨K, TT⟩, π0, H0⟩ (td Wd)))
    (hr : ∀ ds S Qd Ed, spd ds S Qd Ed → StClo S → td (WEx S.length Ed) { nx := fun _ S' => Gc S.length Qd .non S', rt := Gc S.length Qd } (startD N.length ds) S) :
    FnOk P w K mg base (L2.CX P w) (k + 1) f fd ps (LSp ⟨K, TT⟩ spd) := by
  obtain ⟨oc, od, kV, doc, pm, an, ct, osl, rfl, lk, hcd⟩ := F.ex
  refine fn_of lk hcd S (fun vs H Q E h => ?_) fun A outer s H vs Q E hroom h => ?_
  · obtain ⟨π, S, ds, Qd, Ed, _, l, h, _⟩ := h
    rw [← l.length]
    exact len ds S Qd Ed h
  · obtain ⟨π, S, ds, Qd, Ed, R, l, h, kq, kx⟩ := h
    have tk : Takes (cxOf (L2.CX P w) P w K mg base N qual (defScope st) f (.ref c) A outer s H E) (LW ⟨⟨K, TT⟩, π, H⟩ (WEx S.length Ed)) :=
      (takes_of rfl rfl rfl rfl).imp fun cls d σ H' q => by
        obtain ⟨π', S', σd, x, R', r, q⟩ := q
        exact gcx_use (Nat.le_of_eq R.len) kx R'.ext R'.sto r q
    refine ⟨_, hb π H (WEx S.length Ed) A outer s H E hroom tk, π, S, startD N.length ds, _, ⟨Ext.refl _ _ _, R, start_rep l⟩, hr ds S Qd Ed h R.clo, ?_, ?_, ?_, ?_⟩
    · intro π' H' S' σd' σ' x R' rs q
      exact gc_use (B := ⟨⟨K, TT⟩, π, H⟩) (Nat.le_of_eq R.len) kq x R' .non q
    · intro π' H' S' d v x R' rs q
      exact gc_use (B := ⟨⟨K, TT⟩, π, H⟩) (Nat.le_of_eq R.len) kq x R' rs q
    · intro π' H' S' σd' σ' x R' rs q
      exact q.elim
    · intro π' H' S' σd' σ' x R' rs q
      exact q.elim
end
section
variable {G : Cf} {π : List Addr} {H H1 : Hp} {S : Store}
theorem step_N (R : RepS G π H S) (e : LamX.ExtN H H1) (t : LamX.Tabs G.T H1) : RepS G π H1 S ∧ Ext G π H π H1 := by
  have x : Ext G π H π H1 := by
    refine ⟨⟨[], by simp, fun _ h => by cases h⟩, fun a xs h => ?_, fun a xs h => ?_, fun b o h _ n => e b o h n, fun b nb o h => ?_, fun b od u h => e _ _ h fun ps w => by cases w⟩
    · rcases h with h | h
      · exact .inl (e _ _ h fun ps w => by cases w)
      · exact .inr h
    · rcases h with ⟨_, h⟩ | h
      · exact .inl ⟨_, e _ _ h fun ps w => by cases w⟩
      · exact .inr h
    · exact Classical.byContradiction fun hn => hn (nb o (e b o h fun ps w => hn ⟨ps, w⟩))
  refine ⟨⟨R.len, R.nd, fun i m a h1 h2 => ?_, t⟩, x⟩
  have q := R.at_ i m a h1 h2
  obtain ⟨o, ho, hm⟩ := q.mo
  exact q.mon x.mon ((e _ _ ho fun ps w => by rw [w] at hm; cases hm).trans ho.symm)
theorem extN_of {π' : List Addr} {H' : Hp} (x : Ext G [] H π' H') : LamX.ExtN H H' := fun b o h n => x.frm b o h List.not_mem_nil n
theorem rep_name {π'' : List Addr} {H' : Hp} {nm : Str} {v : V} (r : Rep G π'' H' (.tup [.str nm]) v) : Rep G π H' (.tup [.str nm]) v := by
  have r0 : Rep G [] H' (.tup [.str nm]) v := by
    have := Rep.drop 0 r rfl
    rw [List.take_zero] at this
    exact this
  exact r0.mon ⟨fun i a h => by simp at h, fun _ _ h => h, fun _ _ h => h⟩
end
def resK (RN : List (Addr × Str)) (x : Exn) (S : Store) (Q : KD) : Prop := x.fs = none ∧ ∃ nm, RN.lookup x.cls = some nm ∧ Q (.tup [.str nm]) S
def eRes (RN : List (Addr × Str)) (te : WXd → TEd) : TEd := fun σ S Q => te (fun x _ S' => resK RN x S' Q) σ S Q
def EchR (G : Cf) (RN : List (Addr × Str)) (Q : VK) : XK := fun cls d H' => ∃ D nm, cls = .ref D ∧ d = none ∧ RN.lookup D = some nm ∧ LamX.Tabs G.T H' ∧
  ∀ π'' H'' S'' v, Ext G [] H' π'' H'' → RepS G π'' H'' S'' → Rep G π'' H'' (.tup [.str nm]) v → Q v H''
def TRes (G : Cf) (RN : List (Addr × Str)) : (XK → Hp → VK → Prop) → Hp → VK → Prop := fun tl H Q => tl (EchR G RN Q) H Q
def tL (G : Cf) (te : WXd → TEd) : XK → TE := fun E σ H Q => ∃ π S σd Qd Ed, RepS G π H S ∧ RepSl G π H σd σ ∧ te (fun x _ S' => Ed x S') σd S Qd ∧ KV' ⟨G, π, H⟩ π H Qd Q ∧ XG G π H Ed E
section
variable {X : Cx} {B : Bs} {RN : List (Addr × Str)} {te : WXd → TEd} {x a e n q : Str} {g c P SE : Addr} {k i : Nat} {st : Stmt} {fd : FuncData} {Ng : List Str} {params : Arguments} {body : Expr} {scope sg : Scope} {cdg : Value} {p lpos pos p1 p2 p3 p4 p5 p6 : Pos} {G : Cf}
theorem pRes (F : Fun X.K x x st g fd) (hb : Binds X.K fd [a] []) (Sg : FnScope Ng [a] (defScope st)) (hg : Gl X x) (hm : X.mg x = some (.ref g)) (hNg : Ng[0]? = some a) (hva : Vis (defScope st) a)
    (hG : ∀ cdg, LamX.GivesTo X Ng x (defScope st) g cdg (defBody st) a (X.env.qual ++ "<lambda>") (TRes B.G RN))
    (TB : LamX.TabB X.base X.mg c P) (hcode : X.env.code = .ref c) (hmT : (P, X.env.qual ++ "<lambda>") ∈ B.G.T) (hu : ∀ p ∈ B.G.T, p.1 = P → p.2 = X.env.qual ++ "<lambda>") (hr : Room (k + 2) X.A) (L : LamX.LamS X.env.scope scope)
    (hbody : ∀ (π0 : List Addr) (H0 : Hp) (Wd : WXd) (A : Around) (outer : List Env) (s : Shared) (H : Hp) (E : XK) (f c' : Addr), Room k (A.deeper (LamX.lamEnv X scope s.heap.objs.size f c')) → Takes (LamX.lamCx X A outer s H E scope f c') (LW ⟨B.G, π0, H0⟩ Wd) →
      PE (LamX.lamCx X A outer s H E scope f c') body (LE ⟨B.G, π0, H0⟩ (te Wd)))
    (hdef : defaultsOf params X.env = ([], []) := by rfl)
    (hbind : ∀ (q : Str) (cl : List (Str × Addr)) (pm cv ctv : Value), bindArgs (PySem.W.kla_fn "<lambda>" q params body scope cl pm cv ctv) ⟨[], []⟩ = pure [] := by intros; rfl)
    (hdb : (x == ("__debug__" : Str)) = false := by decide) (hd : (a == ("__debug__" : Str)) = false := by decide) (hcd : (a == ("__classdict__" : Str)) = false := by decide) :
    PE X (.Call (.Name x p) [.Lambda params body scope lpos] [] pos) (LE B (eRes RN te)) := by
  obtain ⟨oc, od, kV, doc, pm, an, cdv, ct, osl, rfl, lk, hcd'⟩ := F.ex
  refine PE_imp (LamX.pe_lamcall (T := B.G.T) (TT := TRes B.G RN) (t := tL B.G te) (k := k) hg hm F.kp lk hcd' hb Sg hNg hva (hG cdv) TB hcode hmT hu hr L hdef hbind (fun A outer s H E f c' hr2 => ?_) hdb hd hcd) ?_
  · refine ⟨fun pins s' σ H' Q I h => ?_⟩
    obtain ⟨π, S, σd, Qd, Ed, R, rs, h, kq, kx⟩ := h
    have tk : Takes (LamX.lamCx X A outer s H E scope f c') (LW ⟨B.G, π, H'⟩ fun x _ S' => Ed x S') :=
      (takes_of rfl rfl rfl rfl).imp fun cls d σ' H'' q => by
        obtain ⟨π', S', σd', x, R', r, q⟩ := q
        exact kx π' H'' S' x cls d R'.ext R'.sto r q
    exact (hbody π H' _ A outer s H E f c' hr2 tk).run pins s' σ H' Q I ⟨π, S, σd, Qd, ⟨Ext.refl _ _ _, R, rs⟩, h, kq⟩
  · rintro σ H Q ⟨π, S, σd, Qd, R, h, k⟩
    refine ⟨R.sto.tab, fun H1 eN T1 => ?_⟩
    obtain ⟨R1, x1⟩ := step_N R.sto eN T1
    refine ⟨π, S, σd, Qd, fun x S' => resK RN x S' Qd, R1, R.slt.mono x1, h, k.to x1, ?_⟩
    intro π' H' S' x cls d e R' r q
    obtain ⟨hfs, nm, hl, q⟩ := q
    have r2 := r.2
    rw [hfs] at r2
    refine ⟨x.cls, nm, r.1, r2, hl, R'.tab, fun π'' H'' S'' v e2 R2 rv => ?_⟩
    obtain ⟨R3, x3⟩ := step_N R' (extN_of e2) R2.tab
    exact k π' H'' S' _ v (x1.trans (e.trans x3)) R3 (rep_name rv) q
/-- the def that calls what it got, and names what is raised -/
theorem res_gives {b₀ : Stmt} {suite : List Stmt} {tres : Addr → Addr → TSd} (hge : sg.names.lookup e = some .globalImplicit) (hme : X.mg e = some (.ref SE)) (hN : Ng.Nodup) (hi : Ng[i]? = some n) (hln : ∀ L : Addr, (envOfC x sg L g cdg).kindOf n = some .local)
    (hRN : ∀ D nm, RN.lookup D = some nm → ExcC X.K D ∧ PySem.W.exmOne X.K (.ref D) (.ref SE) = some true)
    (hread : ∀ D nm b, RN.lookup D = some nm → tres D b { nx := fun _ _ => False, rt := fun d _ => d = .tup [.str nm] } ((List.replicate Ng.length none).set i (some (.adr b))) [])
    (hsu : ∀ (s : Shared) (H : Hp) (b D : Addr) (oe : Obj) (pn : List (Addr × Obj)) (H0 : Hp), Zc (.ref D) none oe → (∃ vs, oe.data = .fields vs) → ExcC X.K D → PSs ((cxOf C8.CX0 X.prog X.w X.K X.mg X.base Ng x sg g cdg X.A X.stack s H C8.E0).nox.suite b ((b, oe) :: pn)) (b₀ :: suite) (LS ⟨G, [], H0⟩ (tres D b)))
    (hde : (e == ("__debug__" : Str)) = false := by decide) (h0 : ∀ f : Addr, (L2.start Ng [V.ref f])[0]? = some (some (V.ref f)) := by intro f; rfl) :
    LamX.GivesTo X Ng x sg g cdg [.Try [.Return (some (.Call (.Name a p1) [] [] p2)) p3] [.ExceptHandler (some (.Name e p4)) (some n) (b₀ :: suite) p5] [] [] p6] a q (TRes G RN) := by
  intro f c' s H Q tl act hc h
  have hgl : Gl (cxOf C8.CX0 X.prog X.w X.K X.mg X.base Ng x sg g cdg X.A X.stack s H C8.E0).nox e := hge
  refine ⟨_, pss_one (ps_try_as (X := (cxOf C8.CX0 X.prog X.w X.K X.mg X.base Ng x sg g cdg X.A X.stack s H C8.E0).nox) (c := .ref SE) (i := i) (n := n)
      (tb := fun W D σ H => ∃ Ech : XK, (∀ cls d σ' H', Ech cls d H' → W cls d σ' H') ∧ σ[0]? = some (some (.ref f)) ∧ H c' = some (LamX.CodeO c' q) ∧ tl Ech H D.rt)
      (ts := fun b cls d D σ H => ∃ (σ0 : L2.St) (Dd : Addr) (nm : Str), σ = σ0.set i (some (.ref b)) ∧ cls = .ref Dd ∧ d = none ∧ RN.lookup Dd = some nm ∧ LamX.Tabs G.T H ∧ ∀ π'' H'' S'' v, Ext G [] H π'' H'' → RepS G π'' H'' S'' → Rep G π'' H'' (.tup [.str nm]) v → D.rt v H'')
      rfl rfl hN hi (hln _) ⟨hgl, hde, .inl hme⟩ LamX.takes0 (fun W pn xe tk _ => ?_) (fun b oe cls d pn hz hf => ?_)), ?_⟩
  · refine ⟨fun pins s' σ H' D I h' => ?_⟩
    obtain ⟨Ech, hW, h1, h2, h3⟩ := h'
    have hp := act W pn xe Ech p1 p2 tk hW
    have hq := pss_one (ps_ret (pos := p3) hp)
    exact hq.run pins s' σ H' D I ⟨h1, h2, h3⟩
  · refine ⟨fun pins s' σ H' D I h' => ?_⟩
    obtain ⟨σ0, Dd, nm, rfl, rfl, rfl, hl, hT, hk⟩ := h'
    have hlen : (σ0.set i (some (V.ref b))).length = Ng.length := I.len
    refine (hsu s H b Dd oe pn H' hz hf (hRN Dd nm hl).1).run pins s' _ H' D I ⟨[], [], (List.replicate Ng.length none).set i (some (.adr b)), _, ⟨Ext.refl _ _ _, ⟨rfl, List.nodup_nil, fun i m a h => by simp at h, hT⟩, ⟨by rw [hlen, List.length_set, List.length_replicate], fun j d hj => ?_⟩⟩, hread Dd nm b hl, ?_, ?_, ?_, ?_⟩
    · by_cases hij : j = i
      · subst hij
        have hil : j < (List.replicate Ng.length (none : Option Dv)).length := by rw [List.length_replicate]; exact (List.getElem?_eq_some_iff.mp hi).1
        rw [List.getElem?_set_self hil] at hj
        cases hj
        refine ⟨_, List.getElem?_set_self ?_, .adr b⟩
        rw [List.length_set] at hlen
        rw [hlen]
        exact (List.getElem?_eq_some_iff.mp hi).1
      · rw [List.getElem?_set_ne (fun w => hij w.symm), List.getElem?_replicate] at hj
        split at hj <;> cases hj
    · intro π' H'' S' σd' σ' x R' rs q
      exact q.elim
    · intro π' H'' S' d v x R' r q
      have q : d = .tup [.str nm] := q
      subst q
      exact hk π' H'' S' v x R' r
    · intro π' H'' S' σd' σ' x R' rs q
      exact q.elim
    · intro π' H'' S' σd' σ' x R' rs q
      exact q.elim
  · refine ⟨EchR G RN Q, fun cls d σ' H' hE => ?_, h0 f, hc, h⟩
    obtain ⟨D, nm, rfl, rfl, hl, hT, hk⟩ := hE
    exact ⟨true, (hRN D nm hl).2, fun _ b _ => ⟨σ', D, nm, rfl, rfl, rfl, hl, hT, hk⟩, fun w => by cases w⟩
end
end D3
set_option Elab.async false
set_option linter.all false
set_option maxRecDepth 100000
set_option maxHeartbeats 4000000
namespace D3
open PySem PySem.Spec PyProof.Rows L2
structure XcOk (K : PySem.W.Frag) (mg : Str → Option Value) (x : Str) (C : Addr) : Prop where
  g : mg x = some (.ref C)
  q : PySem.W.excIn K C [.type "ValueError", .type "Exception", .type "BaseException", .type "object"] "ValueError.__new__" = true
  k : PySem.W.keepIn K (.ref C) = true
  b : PySem.W.subIn K (.ref C) (.type "BaseException") = some true
  t : PySem.W.typeIn K (.ref C) = some (.type "type")
def sRaise (C : Addr) (Wd : WXd) : TSd := fun _ σ S => Wd ⟨C, none⟩ σ S
section
variable {X : Cx} {B : Bs}
theorem sRaise' {Wd : WXd} {C : Addr} {x m : Str} {j : Nat} {p p2 pos pos' : Pos} (tk : Takes X (LW B Wd)) (T : XcOk X.K X.mg x C) (hg : Gl X x := by rfl) (hc : X.calm = true := by rfl) (hdb : (x == ("__debug__" : Str)) = false := by decide) :
    PS X (.Raise (some (.Call (.Name x p) [.Constant (.str m) j p2] [] pos)) none pos') (LS B (sRaise C Wd)) := PS_imp (ps_raise hc tk (pmk_own PySem.F.excBase_ValueError T.q T.g T.k (raises_own T.b T.t) hg hdb)) (by
  rintro D σ H ⟨π, S, σd, Dd, R, q, k⟩
  exact ⟨π, S, σd, ⟨C, none⟩, R, ⟨rfl, rfl⟩, q⟩)
end
def tRes (K : PySem.W.Frag) (C_BadBook C_BadCertificate C_BadCount C_BadRefrain C_BadState C_BadTurns C_RefrainBusy C_TooManyCandidates C_TooManyWords : Addr) (D b : Addr) : TSd :=
    (sSeq (sAsg (eLst (aCons (eArgs (dIsE K D b) (aCons (eVar 1) (aCons (eC (.adr C_BadBook)) aNil))) (aCons (eArgs (dIsE K D b) (aCons (eVar 1) (aCons (eC (.adr C_BadCertificate)) aNil))) (aCons (eArgs (dIsE K D b) (aCons (eVar 1) (aCons (eC (.adr C_BadCount)) aNil))) aNil)))) (gNm 2))
    (sSeq (sAsg (eOp dAdd (eVar 2) (eLst (aCons (eArgs (dIsE K D b) (aCons (eVar 1) (aCons (eC (.adr C_BadRefrain)) aNil))) (aCons (eArgs (dIsE K D b) (aCons (eVar 1) (aCons (eC (.adr C_BadState)) aNil))) (aCons (eArgs (dIsE K D b) (aCons (eVar 1) (aCons (eC (.adr C_BadTurns)) aNil))) aNil))))) (gNm 2))
    (sSeq (sAsg (eOp dAdd (eVar 2) (eLst (aCons (eArgs (dIsE K D b) (aCons (eVar 1) (aCons (eC (.adr C_RefrainBusy)) aNil))) (aCons (eArgs (dIsE K D b) (aCons (eVar 1) (aCons (eC (.adr C_TooManyCandidates)) aNil))) (aCons (eArgs (dIsE K D b) (aCons (eVar 1) (aCons (eC (.adr C_TooManyWords)) aNil))) aNil))))) (gNm 2))
    (sSeq (sIf (cOr (cVal (eOp dNe (eBM "list" dCount (eVar 2) (aCons (eC (.bl true)) aNil)) (eC (.int 1)))) (cNot (cVal (eArgs (dIsE K D b) (aCons (eVar 1) (aCons (eC (.ty "ValueError")) aNil)))))) (sRet (eTup (aCons (eC (.str "other")) (aCons (eC (.int 0)) aNil)))) sNext)
    (sSeq (sAsg (eOp dIx (eLst (aCons (eC (.str "BadBook")) (aCons (eC (.str "BadCertificate")) (aCons (eC (.str "BadCount")) (aCons (eC (.str "BadRefrain")) (aCons (eC (.str "BadState")) (aCons (eC (.str "BadTurns")) (aCons (eC (.str "RefrainBusy")) (aCons (eC (.str "TooManyCandidates")) (aCons (eC (.str "TooManyWords")) aNil)))))))))) (eBM "list" dIndexB (eVar 2) (aCons (eC (.bl true)) aNil))) (gNm 3))
    (sRet (eIf (cVal (eOp dEq (eVar 3) (eC (.str "BadBook")))) eNever (eTup (aCons (eVar 3) aNil)))))))))
theorem tabs_of {T : List (Addr × Str)} {H : Hp} (h : ∀ p ∈ T, H p.1 = some (.tbl #[])) : LamX.Tabs T H := fun p hp => .nil (h p hp)
def OwnT (q : Program) (K : PySem.W.Frag) (mg : Str → Option Value) (h : Heap) : Prop := ∀ (x : Str) (f c P : Addr) (o : Obj) (fd : FuncData) (e : Value) (dd : Option Addr) (vs : Array Value) (sl : Array (Option Value)),
  ((recsOf q).any fun e => e.name == x) = true → mg x = some (.ref f) → K.lookup f = some o → o.data = .func fd → fd.code = .ref c → K.lookup c = some ⟨e, dd, .fields vs, sl⟩ → vs[11]? = some (.ref P) → h.get? P = some { cls := .none, data := .fields #[] }
end D3
set_option Elab.async false
set_option linter.all false
set_option maxRecDepth 100000
set_option maxHeartbeats 4000000
namespace D3
open PySem PySem.Spec PyProof.Rows L2
theorem isE_adr {K : PySem.W.Frag} {D b C : Addr} {t : Bool} {S : Store} {Q : KD} (h : PySem.W.kitOne K (.ref D) (.ref C) = some t) (q : Q (.bl t) S) : dIsE K D b [.adr b, .adr C] S Q := ⟨rfl, t, h, q⟩
theorem isE_ty {K : PySem.W.Frag} {D b : Addr} {n : String} {t : Bool} {S : Store} {Q : KD} (h : PySem.W.kitOne K (.ref D) (.type n) = some t) (q : Q (.bl t) S) : dIsE K D b [.adr b, .ty n] S Q := ⟨rfl, t, h, q⟩
def nmsL : List Str := ["BadBook", "BadCertificate", "BadCount", "BadRefrain", "BadState", "BadTurns", "RefrainBusy", "TooManyCandidates", "TooManyWords"]
theorem tRes_ok {K : PySem.W.Frag} {c0 c1 c2 c3 c4 c5 c6 c7 c8 D b : Addr} {t0 t1 t2 t3 t4 t5 t6 t7 t8 : Bool} (h0 : PySem.W.kitOne K (.ref D) (.ref c0) = some t0) (h1 : PySem.W.kitOne K (.ref D) (.ref c1) = some t1) (h2 : PySem.W.kitOne K (.ref D) (.ref c2) = some t2)
    (h3 : PySem.W.kitOne K (.ref D) (.ref c3) = some t3) (h4 : PySem.W.kitOne K (.ref D) (.ref c4) = some t4) (h5 : PySem.W.kitOne K (.ref D) (.ref c5) = some t5) (h6 : PySem.W.kitOne K (.ref D) (.ref c6) = some t6) (h7 : PySem.W.kitOne K (.ref D) (.ref c7) = some t7) (h8 : PySem.W.kitOne K (.ref D) (.ref c8) = some t8)
    (hv : PySem.W.kitOne K (.ref D) (.type "ValueError") = some true) {j : Nat} {nm : Str} (hc : ([t0, t1, t2, t3, t4, t5, t6, t7, t8].countP fun c => c == true) = 1) (hj : [t0, t1, t2, t3, t4, t5, t6, t7, t8][j]? = some true) (hf : ∀ m : Nat, m < j → [t0, t1, t2, t3, t4, t5, t6, t7, t8][m]? ≠ some true)
    (hn : nmsL[j]? = some nm) (hb : nm ≠ "BadBook") : tRes K c0 c1 c2 c3 c4 c5 c6 c7 c8 D b { nx := fun _ _ => False, rt := fun d _ => d = .tup [.str nm] } ((List.replicate 4 none).set 1 (some (.adr b))) [] := by
  have e1 : ((List.replicate 4 (none : Option Dv)).set 1 (some (.adr b))) = [none, some (.adr b), none, none] := rfl
  rw [e1]
  unfold tRes
  refine seqI ?_
  simp only [sAsg, sNext, sBreak, sCont, sDrop, sRet, sRetN, sPar, sPar3, sAug, sNever, D3.sFld, D3.sFldAug, sAugS, gNm, gsNil, gsCons, gUnp, gSb, eVar, eC, eOp, eUn, eChain, eAnd, eOr, eNot, eIf, eTup, eLst, eArgs, eSl, eBM, aNil, aCons, cVal, cAnd, cOr, cNot, cYes, oNo, oSome, eFld, eMake, eMeth, eCall, eKNew, eKGet1, eKGet2, eDisp, tPairsD, dAdd, dSub, dMul, dDiv, dMod, dPow, dNeg, dCmpI, dIs, dIsNot, isNon, sEq, dIx, dSlice, dLen, dInt, b2i', dAbs, dMax, dMin, dList, dTuple, dSum, dAll, dAny, dOrd, dStrI, dIsi, tyOf, isB, isTy, String.reduceBEq, Bool.or_true, Bool.true_or, Bool.or_false, Bool.false_or, Bool.and_true, Bool.and_false, Bool.false_and, Bool.true_and, dAppend, dPop, dExtend, dSetL, dGetL, dAddA, dSubA, dMulA, dKGet, dKSet, seqOf, tyD, Tg.rd, setsD, wipeD, startD, List.map_cons, List.map_nil, List.length_cons, List.length_nil, List.replicate, List.cons_append, List.nil_append, List.getElem?_cons_zero, List.getElem?_cons_succ, List.set_cons_zero, List.set_cons_succ, Option.some.injEq, exists_eq_left', exists_eq_left, Dv.int.injEq, Dv.bl.injEq, Dv.str.injEq, Dv.tup.injEq, Dv.obj.injEq, Mo.dk.injEq, Mo.lst.injEq, Mo.ldk.injEq, Mo.ins.injEq, exists_eq', exists_eq, List.cons.injEq, and_true, true_and, true_or, or_true, eq_self, decide_true, decide_false, cast2, and_assoc, exists_and_left, exists_and_right, exists_const, exists_eq_right, exists_eq_right_right, Nat.reduceAdd, Nat.reduceSub, Nat.zero_add, List.length_append, st_get0, st_getk, st_set0, st_setk, st_getL0, st_getLk, getL_c0, getL_cs, line0, line1, line2, line3, flatten1, Int.toNat_natCast, Nat.one_mul, List.append_assoc, List.append_nil, Nat.reduceLeDiff, ite_true, ite_false, if_true, if_false, Bool.false_eq_true, Bool.not_true, Bool.not_false, Bool.not_eq_true, and_self, false_and, and_false, dNe_int, dEq_int]
  refine isE_adr h0 (isE_adr h1 (isE_adr h2 ?_))
  refine seqI ?_
  simp only [sAsg, sNext, sBreak, sCont, sDrop, sRet, sRetN, sPar, sPar3, sAug, sNever, D3.sFld, D3.sFldAug, sAugS, gNm, gsNil, gsCons, gUnp, gSb, eVar, eC, eOp, eUn, eChain, eAnd, eOr, eNot, eIf, eTup, eLst, eArgs, eSl, eBM, aNil, aCons, cVal, cAnd, cOr, cNot, cYes, oNo, oSome, eFld, eMake, eMeth, eCall, eKNew, eKGet1, eKGet2, eDisp, tPairsD, dAdd, dSub, dMul, dDiv, dMod, dPow, dNeg, dCmpI, dIs, dIsNot, isNon, sEq, dIx, dSlice, dLen, dInt, b2i', dAbs, dMax, dMin, dList, dTuple, dSum, dAll, dAny, dOrd, dStrI, dIsi, tyOf, isB, isTy, String.reduceBEq, Bool.or_true, Bool.true_or, Bool.or_false, Bool.false_or, Bool.and_true, Bool.and_false, Bool.false_and, Bool.true_and, dAppend, dPop, dExtend, dSetL, dGetL, dAddA, dSubA, dMulA, dKGet, dKSet, seqOf, tyD, Tg.rd, setsD, wipeD, startD, List.map_cons, List.map_nil, List.length_cons, List.length_nil, List.replicate, List.cons_append, List.nil_append, List.getElem?_cons_zero, List.getElem?_cons_succ, List.set_cons_zero, List.set_cons_succ, Option.some.injEq, exists_eq_left', exists_eq_left, Dv.int.injEq, Dv.bl.injEq, Dv.str.injEq, Dv.tup.injEq, Dv.obj.injEq, Mo.dk.injEq, Mo.lst.injEq, Mo.ldk.injEq, Mo.ins.injEq, exists_eq', exists_eq, List.cons.injEq, and_true, true_and, true_or, or_true, eq_self, decide_true, decide_false, cast2, and_assoc, exists_and_left, exists_and_right, exists_const, exists_eq_right, exists_eq_right_right, Nat.reduceAdd, Nat.reduceSub, Nat.zero_add, List.length_append, st_get0, st_getk, st_set0, st_setk, st_getL0, st_getLk, getL_c0, getL_cs, line0, line1, line2, line3, flatten1, Int.toNat_natCast, Nat.one_mul, List.append_assoc, List.append_nil, Nat.reduceLeDiff, ite_true, ite_false, if_true, if_false, Bool.false_eq_true, Bool.not_true, Bool.not_false, Bool.not_eq_true, and_self, false_and, and_false, dNe_int, dEq_int]
  refine isE_adr h3 (isE_adr h4 (isE_adr h5 ?_))
  refine ⟨_, rfl, by show 3 + 3 ≤ sizeLine; decide, ?_⟩
  refine seqI ?_
  simp only [sAsg, sNext, sBreak, sCont, sDrop, sRet, sRetN, sPar, sPar3, sAug, sNever, D3.sFld, D3.sFldAug, sAugS, gNm, gsNil, gsCons, gUnp, gSb, eVar, eC, eOp, eUn, eChain, eAnd, eOr, eNot, eIf, eTup, eLst, eArgs, eSl, eBM, aNil, aCons, cVal, cAnd, cOr, cNot, cYes, oNo, oSome, eFld, eMake, eMeth, eCall, eKNew, eKGet1, eKGet2, eDisp, tPairsD, dAdd, dSub, dMul, dDiv, dMod, dPow, dNeg, dCmpI, dIs, dIsNot, isNon, sEq, dIx, dSlice, dLen, dInt, b2i', dAbs, dMax, dMin, dList, dTuple, dSum, dAll, dAny, dOrd, dStrI, dIsi, tyOf, isB, isTy, String.reduceBEq, Bool.or_true, Bool.true_or, Bool.or_false, Bool.false_or, Bool.and_true, Bool.and_false, Bool.false_and, Bool.true_and, dAppend, dPop, dExtend, dSetL, dGetL, dAddA, dSubA, dMulA, dKGet, dKSet, seqOf, tyD, Tg.rd, setsD, wipeD, startD, List.map_cons, List.map_nil, List.length_cons, List.length_nil, List.replicate, List.cons_append, List.nil_append, List.getElem?_cons_zero, List.getElem?_cons_succ, List.set_cons_zero, List.set_cons_succ, Option.some.injEq, exists_eq_left', exists_eq_left, Dv.int.injEq, Dv.bl.injEq, Dv.str.injEq, Dv.tup.injEq, Dv.obj.injEq, Mo.dk.injEq, Mo.lst.injEq, Mo.ldk.injEq, Mo.ins.injEq, exists_eq', exists_eq, List.cons.injEq, and_true, true_and, true_or, or_true, eq_self, decide_true, decide_false, cast2, and_assoc, exists_and_left, exists_and_right, exists_const, exists_eq_right, exists_eq_right_right, Nat.reduceAdd, Nat.reduceSub, Nat.zero_add, List.length_append, st_get0, st_getk, st_set0, st_setk, st_getL0, st_getLk, getL_c0, getL_cs, line0, line1, line2, line3, flatten1, Int.toNat_natCast, Nat.one_mul, List.append_assoc, List.append_nil, Nat.reduceLeDiff, ite_true, ite_false, if_true, if_false, Bool.false_eq_true, Bool.not_true, Bool.not_false, Bool.not_eq_true, and_self, false_and, and_false, dNe_int, dEq_int]
  refine isE_adr h6 (isE_adr h7 (isE_adr h8 ?_))
  refine ⟨_, rfl, by show 6 + 3 ≤ sizeLine; decide, ?_⟩
  have hcq : (([t0, t1, t2, t3, t4, t5, t6, t7, t8].countP fun c => c == true : Nat) : Int) = 1 := by rw [hc]; rfl
  refine seqI (ifI ?_)
  simp only [sAsg, sNext, sBreak, sCont, sDrop, sRet, sRetN, sPar, sPar3, sAug, sNever, D3.sFld, D3.sFldAug, sAugS, gNm, gsNil, gsCons, gUnp, gSb, eVar, eC, eOp, eUn, eChain, eAnd, eOr, eNot, eIf, eTup, eLst, eArgs, eSl, eBM, aNil, aCons, cVal, cAnd, cOr, cNot, cYes, oNo, oSome, eFld, eMake, eMeth, eCall, eKNew, eKGet1, eKGet2, eDisp, tPairsD, dAdd, dSub, dMul, dDiv, dMod, dPow, dNeg, dCmpI, dIs, dIsNot, isNon, sEq, dIx, dSlice, dLen, dInt, b2i', dAbs, dMax, dMin, dList, dTuple, dSum, dAll, dAny, dOrd, dStrI, dIsi, tyOf, isB, isTy, String.reduceBEq, Bool.or_true, Bool.true_or, Bool.or_false, Bool.false_or, Bool.and_true, Bool.and_false, Bool.false_and, Bool.true_and, dAppend, dPop, dExtend, dSetL, dGetL, dAddA, dSubA, dMulA, dKGet, dKSet, seqOf, tyD, Tg.rd, setsD, wipeD, startD, List.map_cons, List.map_nil, List.length_cons, List.length_nil, List.replicate, List.cons_append, List.nil_append, List.getElem?_cons_zero, List.getElem?_cons_succ, List.set_cons_zero, List.set_cons_succ, Option.some.injEq, exists_eq_left', exists_eq_left, Dv.int.injEq, Dv.bl.injEq, Dv.str.injEq, Dv.tup.injEq, Dv.obj.injEq, Mo.dk.injEq, Mo.lst.injEq, Mo.ldk.injEq, Mo.ins.injEq, exists_eq', exists_eq, List.cons.injEq, and_true, true_and, true_or, or_true, eq_self, decide_true, decide_false, cast2, and_assoc, exists_and_left, exists_and_right, exists_const, exists_eq_right, exists_eq_right_right, Nat.reduceAdd, Nat.reduceSub, Nat.zero_add, List.length_append, st_get0, st_getk, st_set0, st_setk, st_getL0, st_getLk, getL_c0, getL_cs, line0, line1, line2, line3, flatten1, Int.toNat_natCast, Nat.one_mul, List.append_assoc, List.append_nil, Nat.reduceLeDiff, ite_true, ite_false, if_true, if_false, Bool.false_eq_true, Bool.not_true, Bool.not_false, Bool.not_eq_true, and_self, false_and, and_false, dNe_int, dEq_int]
  refine ⟨[.bl t0, .bl t1, .bl t2, .bl t3, .bl t4, .bl t5, .bl t6, .bl t7, .bl t8], [t0, t1, t2, t3, t4, t5, t6, t7, t8], rfl, rfl, ?_⟩
  rw [hcq]
  show ∃ c, Dv.bl (!decide ((1 : Int) = 1)) = Dv.bl c ∧ _
  refine ⟨false, rfl, ?_⟩
  rw [if_neg Bool.false_ne_true]
  refine isE_ty hv ⟨true, rfl, ?_⟩
  rw [if_neg (by simp)]
  refine seqI ?_
  simp only [sAsg, sNext, sBreak, sCont, sDrop, sRet, sRetN, sPar, sPar3, sAug, sNever, D3.sFld, D3.sFldAug, sAugS, gNm, gsNil, gsCons, gUnp, gSb, eVar, eC, eOp, eUn, eChain, eAnd, eOr, eNot, eIf, eTup, eLst, eArgs, eSl, eBM, aNil, aCons, cVal, cAnd, cOr, cNot, cYes, oNo, oSome, eFld, eMake, eMeth, eCall, eKNew, eKGet1, eKGet2, eDisp, tPairsD, dAdd, dSub, dMul, dDiv, dMod, dPow, dNeg, dCmpI, dIs, dIsNot, isNon, sEq, dIx, dSlice, dLen, dInt, b2i', dAbs, dMax, dMin, dList, dTuple, dSum, dAll, dAny, dOrd, dStrI, dIsi, tyOf, isB, isTy, String.reduceBEq, Bool.or_true, Bool.true_or, Bool.or_false, Bool.false_or, Bool.and_true, Bool.and_false, Bool.false_and, Bool.true_and, dAppend, dPop, dExtend, dSetL, dGetL, dAddA, dSubA, dMulA, dKGet, dKSet, seqOf, tyD, Tg.rd, setsD, wipeD, startD, List.map_cons, List.map_nil, List.length_cons, List.length_nil, List.replicate, List.cons_append, List.nil_append, List.getElem?_cons_zero, List.getElem?_cons_succ, List.set_cons_zero, List.set_cons_succ, Option.some.injEq, exists_eq_left', exists_eq_left, Dv.int.injEq, Dv.bl.injEq, Dv.str.injEq, Dv.tup.injEq, Dv.obj.injEq, Mo.dk.injEq, Mo.lst.injEq, Mo.ldk.injEq, Mo.ins.injEq, exists_eq', exists_eq, List.cons.injEq, and_true, true_and, true_or, or_true, eq_self, decide_true, decide_false, cast2, and_assoc, exists_and_left, exists_and_right, exists_const, exists_eq_right, exists_eq_right_right, Nat.reduceAdd, Nat.reduceSub, Nat.zero_add, List.length_append, st_get0, st_getk, st_set0, st_setk, st_getL0, st_getLk, getL_c0, getL_cs, line0, line1, line2, line3, flatten1, Int.toNat_natCast, Nat.one_mul, List.append_assoc, List.append_nil, Nat.reduceLeDiff, ite_true, ite_false, if_true, if_false, Bool.false_eq_true, Bool.not_true, Bool.not_false, Bool.not_eq_true, and_self, false_and, and_false, dNe_int, dEq_int]
  refine ⟨by show 9 ≤ sizeLine; decide, ?_⟩
  refine ⟨[.bl t0, .bl t1, .bl t2, .bl t3, .bl t4, .bl t5, .bl t6, .bl t7, .bl t8], [t0, t1, t2, t3, t4, t5, t6, t7, t8], rfl, rfl, j, hj, hf, ?_⟩
  have hix : L2.atI (nmsL.map Dv.str) (j : Int) = some (.str nm) := atI_nat (by rw [List.getElem?_map, hn]; rfl)
  refine ⟨nmsL.map Dv.str, rfl, .str nm, hix, ?_⟩
  simp only [sAsg, sNext, sBreak, sCont, sDrop, sRet, sRetN, sPar, sPar3, sAug, sNever, D3.sFld, D3.sFldAug, sAugS, gNm, gsNil, gsCons, gUnp, gSb, eVar, eC, eOp, eUn, eChain, eAnd, eOr, eNot, eIf, eTup, eLst, eArgs, eSl, eBM, aNil, aCons, cVal, cAnd, cOr, cNot, cYes, oNo, oSome, eFld, eMake, eMeth, eCall, eKNew, eKGet1, eKGet2, eDisp, tPairsD, dAdd, dSub, dMul, dDiv, dMod, dPow, dNeg, dCmpI, dIs, dIsNot, isNon, sEq, dIx, dSlice, dLen, dInt, b2i', dAbs, dMax, dMin, dList, dTuple, dSum, dAll, dAny, dOrd, dStrI, dIsi, tyOf, isB, isTy, String.reduceBEq, Bool.or_true, Bool.true_or, Bool.or_false, Bool.false_or, Bool.and_true, Bool.and_false, Bool.false_and, Bool.true_and, dAppend, dPop, dExtend, dSetL, dGetL, dAddA, dSubA, dMulA, dKGet, dKSet, seqOf, tyD, Tg.rd, setsD, wipeD, startD, List.map_cons, List.map_nil, List.length_cons, List.length_nil, List.replicate, List.cons_append, List.nil_append, List.getElem?_cons_zero, List.getElem?_cons_succ, List.set_cons_zero, List.set_cons_succ, Option.some.injEq, exists_eq_left', exists_eq_left, Dv.int.injEq, Dv.bl.injEq, Dv.str.injEq, Dv.tup.injEq, Dv.obj.injEq, Mo.dk.injEq, Mo.lst.injEq, Mo.ldk.injEq, Mo.ins.injEq, exists_eq', exists_eq, List.cons.injEq, and_true, true_and, true_or, or_true, eq_self, decide_true, decide_false, cast2, and_assoc, exists_and_left, exists_and_right, exists_const, exists_eq_right, exists_eq_right_right, Nat.reduceAdd, Nat.reduceSub, Nat.zero_add, List.length_append, st_get0, st_getk, st_set0, st_setk, st_getL0, st_getLk, getL_c0, getL_cs, line0, line1, line2, line3, flatten1, Int.toNat_natCast, Nat.one_mul, List.append_assoc, List.append_nil, Nat.reduceLeDiff, ite_true, ite_false, if_true, if_false, Bool.false_eq_true, Bool.not_true, Bool.not_false, Bool.not_eq_true, and_self, false_and, and_false, dNe_int, dEq_int]
  show ∃ c, Dv.bl (decide (nm = "BadBook")) = Dv.bl c ∧ _
  rw [decide_eq_false hb]
  exact ⟨false, rfl, by rw [if_neg Bool.false_ne_true]; trivial⟩
def excB (K : PySem.W.Frag) (D : Addr) : Bool := decide (PySem.W.findIn K (.ref D) "__getattribute__" = some (some (.builtin "BaseException.__getattribute__"))) && (decide (PySem.W.findIn K (.ref D) "__getattr__" = some none) && (decide (PySem.W.subIn K (.ref D) (.type "BaseException") = some true) && (PySem.W.hasDictIn K D &&
  (decide (PySem.W.findIn K (.ref D) "__class__" = some (some (.builtin "object.__class__"))) && (decide (PySem.W.specialIn K (.builtin "object.__class__") "__get__" = some (some (.builtin "getset_descriptor.__get__"))) && (decide (PySem.W.takesIn K (.builtin "object.__class__") = some true) && decide (PySem.W.mroIn K D (.type "object") = some true)))))))
theorem excB_ok {K : PySem.W.Frag} {D : Addr} (h : excB K D = true) : ExcC K D := by
  unfold excB at h
  simp only [Bool.and_eq_true, decide_eq_true_eq] at h
  obtain ⟨h1, h2, h3, h4, h5, h6, h7, h8⟩ := h
  exact ⟨h1, h2, h3, h4, h5, h6, h7, h8⟩
def rowB (K : PySem.W.Frag) (SE D : Addr) (cs : List Addr) : Bool := excB K D && (decide (PySem.W.exmOne K (.ref D) (.ref SE) = some true) && (decide (PySem.W.kitOne K (.ref D) (.type "ValueError") = some true) && cs.all fun C => decide (PySem.W.kitOne K (.ref D) (.ref C) = some (decide (D = C)))))
def resB (K : PySem.W.Frag) (SE : Addr) (cs : List Addr) : Bool := decide cs.Nodup && (cs.drop 1).all fun D => rowB K SE D cs
def rnL (cs : List Addr) : List (Addr × Str) := (cs.zip nmsL).drop 1
theorem rnL_at {cs : List Addr} {D : Addr} {nm : Str} (h : (rnL cs).lookup D = some nm) : ∃ j : Nat, 1 ≤ j ∧ cs[j]? = some D ∧ nmsL[j]? = some nm := by
  have hm : (D, nm) ∈ rnL cs := by
    unfold rnL at h ⊢
    generalize (cs.zip nmsL).drop 1 = l at h ⊢
    induction l with
    | nil => cases h
    | cons p l ih =>
      obtain ⟨a, b⟩ := p
      unfold List.lookup at h
      split at h
      · rename_i heq
        rw [beq_iff_eq] at heq
        cases h
        rw [heq]
        exact List.mem_cons_self
      · exact List.mem_cons_of_mem _ (ih h)
  obtain ⟨j, hj⟩ := List.getElem?_of_mem hm
  unfold rnL at hj
  rw [List.getElem?_drop] at hj
  obtain ⟨h1, h2⟩ := List.getElem?_zip_eq_some.mp hj
  exact ⟨1 + j, by omega, h1, h2⟩
theorem count_one {D : Addr} : ∀ {cs : List Addr}, cs.Nodup → D ∈ cs → ((cs.map fun C => decide (D = C)).countP fun c => c == true) = 1
  | [], _, h => by cases h
  | C :: cs, hn, h => by
    rw [List.nodup_cons] at hn
    rw [List.map_cons, List.countP_cons]
    by_cases c : D = C
    · subst c
      have hz : ((cs.map fun C => decide (D = C)).countP fun c => c == true) = 0 := by
        rw [List.countP_eq_zero]
        intro b hb
        obtain ⟨C, hC, rfl⟩ := List.mem_map.mp hb
        have : D ≠ C := fun w => hn.1 (by rw [w]; exact hC)
        simp [this]
      rw [hz]
      simp
    · have hm : D ∈ cs := by
        rcases List.mem_cons.mp h with w | w
        · exact (c w).elim
        · exact w
      rw [count_one hn.2 hm]
      simp [c]
theorem nodup_ix {α : Type} {l : List α} (h : l.Nodup) {i j : Nat} {a : α} (h1 : l[i]? = some a) (h2 : l[j]? = some a) : i = j := by
  obtain ⟨a1, a2⟩ := List.getElem?_eq_some_iff.mp h1
  exact (List.getElem?_inj a1 h).mp (h1.trans h2.symm)
theorem res_table {K : PySem.W.Frag} {SE c0 c1 c2 c3 c4 c5 c6 c7 c8 : Addr} (h : resB K SE [c0, c1, c2, c3, c4, c5, c6, c7, c8] = true) :
    (∀ D nm, (rnL [c0, c1, c2, c3, c4, c5, c6, c7, c8]).lookup D = some nm → ExcC K D ∧ PySem.W.exmOne K (.ref D) (.ref SE) = some true) ∧
    ∀ D nm b, (rnL [c0, c1, c2, c3, c4, c5, c6, c7, c8]).lookup D = some nm → tRes K c0 c1 c2 c3 c4 c5 c6 c7 c8 D b { nx := fun _ _ => False, rt := fun d _ => d = .tup [.str nm] } ((List.replicate 4 none).set 1 (some (.adr b))) [] := by
  unfold resB at h
  rw [Bool.and_eq_true, decide_eq_true_eq] at h
  obtain ⟨hn, hrow⟩ := h
  have row : ∀ D nm, (rnL [c0, c1, c2, c3, c4, c5, c6, c7, c8]).lookup D = some nm → ∃ j : Nat, 1 ≤ j ∧ [c0, c1, c2, c3, c4, c5, c6, c7, c8][j]? = some D ∧ nmsL[j]? = some nm ∧ excB K D = true ∧ PySem.W.exmOne K (.ref D) (.ref SE) = some true ∧ PySem.W.kitOne K (.ref D) (.type "ValueError") = some true ∧
      ∀ C ∈ [c0, c1, c2, c3, c4, c5, c6, c7, c8], PySem.W.kitOne K (.ref D) (.ref C) = some (decide (D = C)) := fun D nm hl => by
    obtain ⟨j, j1, j2, j3⟩ := rnL_at hl
    have hD : D ∈ [c0, c1, c2, c3, c4, c5, c6, c7, c8].drop 1 := by
      obtain ⟨k, rfl⟩ : ∃ k, j = 1 + k := ⟨j - 1, by omega⟩
      refine List.mem_of_getElem? (i := k) ?_
      rw [List.getElem?_drop]
      exact j2
    have hr := List.all_eq_true.mp hrow D hD
    unfold rowB at hr
    simp only [Bool.and_eq_true, decide_eq_true_eq, List.all_eq_true] at hr
    exact ⟨j, j1, j2, j3, hr.1, hr.2.1, hr.2.2.1, hr.2.2.2⟩
  refine ⟨fun D nm hl => ?_, fun D nm b hl => ?_⟩
  · obtain ⟨_, _, _, _, a, b, _⟩ := row D nm hl
    exact ⟨excB_ok a, b⟩
  · obtain ⟨j, j1, j2, j3, _, _, hv, hk⟩ := row D nm hl
    have hmem : D ∈ [c0, c1, c2, c3, c4, c5, c6, c7, c8] := List.mem_of_getElem? j2
    have hnb : nm ≠ "BadBook" := by
      intro w
      have h0 : nmsL[0]? = some nm := by rw [w]; rfl
      have := nodup_ix (l := nmsL) (by decide) h0 j3
      omega
    have hm : ∀ m : Nat, ([c0, c1, c2, c3, c4, c5, c6, c7, c8].map fun C => decide (D = C))[m]? = ([c0, c1, c2, c3, c4, c5, c6, c7, c8][m]?).map fun C => decide (D = C) := fun m => List.getElem?_map
    exact tRes_ok (hk c0 (by simp)) (hk c1 (by simp)) (hk c2 (by simp)) (hk c3 (by simp)) (hk c4 (by simp)) (hk c5 (by simp)) (hk c6 (by simp)) (hk c7 (by simp)) (hk c8 (by simp)) hv (j := j) (count_one hn hmem)
      ((hm j).trans (by rw [j2]; simp)) (fun m hmj w => by
        have w := (hm m).symm.trans w
        obtain ⟨C, hC, e⟩ := Option.map_eq_some_iff.mp w
        have e := of_decide_eq_true e
        rw [← e] at hC
        have := nodup_ix hn hC j2
        omega) j3 hnb
theorem lookup_zip : ∀ {l : List Addr} {m : List Str} {j : Nat} {D : Addr} {nm : Str}, l.Nodup → l[j]? = some D → m[j]? = some nm → (l.zip m).lookup D = some nm
  | [], _, _, _, _, _, h, _ => by simp at h
  | _ :: _, [], _, _, _, _, _, h => by simp at h
  | a :: l, b :: m, 0, D, nm, _, h1, h2 => by
    have h1 : a = D := by simpa using h1
    have h2 : b = nm := by simpa using h2
    subst h1 h2
    rw [List.zip_cons_cons, List.lookup_cons_self]
  | a :: l, b :: m, j + 1, D, nm, hn, h1, h2 => by
    rw [List.nodup_cons] at hn
    have h1 : l[j]? = some D := by simpa using h1
    have h2 : m[j]? = some nm := by simpa using h2
    have hne : (D == a) = false := by
      rw [beq_eq_false_iff_ne]
      exact fun w => hn.1 (by rw [← w]; exact List.mem_of_getElem? h1)
    rw [List.zip_cons_cons]
    show (match D == a with | true => some b | false => (l.zip m).lookup D) = some nm
    rw [hne]
    exact lookup_zip hn.2 h1 h2
theorem rn_at {K : PySem.W.Frag} {SE : Addr} {cs : List Addr} (h : resB K SE cs = true) (j : Nat) {D : Addr} {nm : Str} (h1 : cs[j + 1]? = some D) (h2 : nmsL[j + 1]? = some nm) : (rnL cs).lookup D = some nm := by
  unfold resB at h
  rw [Bool.and_eq_true, decide_eq_true_eq] at h
  unfold rnL
  have e : (cs.zip nmsL).drop 1 = (cs.drop 1).zip (nmsL.drop 1) := by
    cases cs with
    | nil => rfl
    | cons a l => rfl
  rw [e]
  refine lookup_zip (j := j) (h.1.sublist (List.drop_sublist 1 cs)) ?_ ?_
  · rw [List.getElem?_drop, Nat.add_comm]; exact h1
  · rw [List.getElem?_drop, Nat.add_comm]; exact h2
theorem eqv_nm {a b : Str} : PyData.eqv (.tuple [.str a]) (.tuple [.str b]) = decide (a = b) := by
  simp only [PyData.eqv, PyData.eqvAll, Bool.and_true]
  by_cases c : a = b
  · rw [decide_eq_true c]; simp [c]
  · rw [decide_eq_false c]; simp [c]
theorem shaped_nm {a : Str} (h : PyData.strOk a = true) : SeqAt.shaped (.tuple [.str a]) = true := by
  unfold SeqAt.shaped
  simp [PyData.canLay0, PyData.canLayAll0, PyData.depth, PyData.depthAll, h]
theorem dNe_nm {a b : Str} {S : Store} {Q : KD} (h : Q (.bl (!decide (a = b))) S) (ha : PyData.strOk a = true := by decide +kernel) (hb : PyData.strOk b = true := by decide +kernel) : dNe (.tup [.str a]) (.tup [.str b]) S Q := ⟨.tuple [.str a], .tuple [.str b], rfl, rfl, shaped_nm ha, shaped_nm hb, by rw [eqv_nm]; exact h⟩
end D3
local macro_rules | `(tactic| simp! only [$ls,*]) => `(tactic| simp only [D3.sAsg, D3.sNext, D3.sBreak, D3.sCont, D3.sDrop, D3.sRet, D3.sRetN, D3.sPar, D3.sPar3, D3.sAug, D3.sNever, D3.sFld, D3.sFldAug, D3.sAugS, D3.gNm, D3.gsNil, D3.gsCons, D3.gUnp, D3.gSb, D3.eVar, D3.eC, D3.eOp, D3.eUn, D3.eChain, D3.eAnd, D3.eOr, D3.eNot, D3.eIf, D3.eTup, D3.eLst, D3.eArgs, D3.eSl, D3.eBM, D3.aNil, D3.aCons, D3.cVal, D3.cAnd, D3.cOr, D3.cNot, D3.cYes, D3.oNo, D3.oSome, D3.eFld, D3.eMake, D3.eMeth, D3.eCall, D3.eKNew, D3.eKGet1, D3.eKGet2, D3.eDisp, D3.tPairsD, D3.dAdd, D3.dSub, D3.dMul, D3.dDiv, D3.dMod, D3.dPow, D3.dNeg, D3.dCmpI, D3.dIs, D3.dIsNot, D3.isNon, D3.sEq, D3.dIx, D3.dSlice, D3.dLen, D3.dInt, D3.b2i', D3.dAbs, D3.dMax, D3.dMin, D3.dList, D3.dTuple, D3.dSum, D3.dAll, D3.dAny, D3.dOrd, D3.dStrI, D3.dIsi, D3.tyOf, D3.isB, D3.isTy, String.reduceBEq, Bool.or_true, Bool.true_or, Bool.or_false, Bool.false_or, Bool.and_true, Bool.and_false, Bool.false_and, Bool.true_and, D3.dAppend, D3.dPop, D3.dExtend, D3.dSetL, D3.dGetL, D3.dAddA, D3.dSubA, D3.dMulA, D3.dKGet, D3.dKSet, D3.seqOf, D3.tyD, D3.Tg.rd, D3.setsD, D3.wipeD, D3.startD, List.map_cons, List.map_nil, List.length_cons, List.length_nil, List.replicate, List.cons_append, List.nil_append, List.getElem?_cons_zero, List.getElem?_cons_succ, List.set_cons_zero, List.set_cons_succ, Option.some.injEq, exists_eq_left', exists_eq_left, D3.Dv.int.injEq, D3.Dv.bl.injEq, D3.Dv.str.injEq, D3.Dv.tup.injEq, D3.Dv.obj.injEq, D3.Mo.dk.injEq, D3.Mo.lst.injEq, D3.Mo.ldk.injEq, D3.Mo.ins.injEq, exists_eq', exists_eq, List.cons.injEq, and_true, true_and, true_or, or_true, eq_self, decide_true, decide_false, D3.cast2, and_assoc, exists_and_left, exists_and_right, exists_const, exists_eq_right, exists_eq_right_right, Nat.reduceAdd, Nat.reduceSub, Nat.zero_add, List.length_append, D3.st_get0, D3.st_getk, D3.st_set0, D3.st_setk, D3.st_getL0, D3.st_getLk, D3.getL_c0, D3.getL_cs, D3.line0, D3.line1, D3.line2, D3.line3, D3.flatten1, Int.toNat_natCast, Nat.one_mul, List.append_assoc, List.append_nil, Nat.reduceLeDiff, ite_true, ite_false, if_true, if_false, Bool.false_eq_true, Bool.not_true, Bool.not_false, Bool.not_eq_true, and_self, false_and, and_false, D3.dNe_int, D3.dEq_int, $ls,*])
local macro_rules | `(tactic| dsimp! only [$ls,*]) => `(tactic| simp only [D3.sSeq, D3.sAsg, D3.sNext, D3.sBreak, D3.sCont, D3.sDrop, D3.sRet, D3.sRetN, D3.sIf, D3.sPar, D3.sPar3, D3.sAug, D3.sNever, D3.sFld, D3.sFldAug, D3.sAugS, D3.gNm, D3.gsNil, D3.gsCons, D3.gUnp, D3.gSb, D3.eVar, D3.eC, D3.eOp, D3.eUn, D3.eChain, D3.eAnd, D3.eOr, D3.eNot, D3.eIf, D3.eTup, D3.eLst, D3.eArgs, D3.eSl, D3.eBM, D3.aNil, D3.aCons, D3.cVal, D3.cAnd, D3.cOr, D3.cNot, D3.cYes, D3.oNo, D3.oSome, D3.eFld, D3.eMake, D3.eMeth, D3.eCall, D3.eKNew, D3.eKGet1, D3.eKGet2, D3.eDisp, D3.tPairsD, D3.dAdd, D3.dSub, D3.dMul, D3.dDiv, D3.dMod, D3.dPow, D3.dNeg, D3.dCmpI, D3.dIs, D3.dIsNot, D3.isNon, D3.dEq, D3.dNe, D3.sEq, D3.dIx, D3.dSlice, D3.dLen, D3.dInt, D3.b2i', D3.dAbs, D3.dMax, D3.dMin, D3.dList, D3.dTuple, D3.dSum, D3.dAll, D3.dAny, D3.dOrd, D3.dStrI, D3.dIsi, D3.tyOf, D3.isB, D3.isTy, String.reduceBEq, Bool.or_true, Bool.true_or, Bool.or_false, Bool.false_or, Bool.and_true, Bool.and_false, Bool.false_and, Bool.true_and, D3.dAppend, D3.dPop, D3.dExtend, D3.dSetL, D3.dGetL, D3.dAddA, D3.dSubA, D3.dMulA, D3.dKGet, D3.dKSet, D3.seqOf, D3.tyD, D3.Tg.rd, D3.setsD, D3.wipeD, D3.startD, List.map_cons, List.map_nil, List.length_cons, List.length_nil, List.replicate, List.cons_append, List.nil_append, List.getElem?_cons_zero, List.getElem?_cons_succ, List.set_cons_zero, List.set_cons_succ, Option.some.injEq, exists_eq_left', exists_eq_left, D3.Dv.int.injEq, D3.Dv.bl.injEq, D3.Dv.str.injEq, D3.Dv.tup.injEq, D3.Dv.obj.injEq, D3.Mo.dk.injEq, D3.Mo.lst.injEq, D3.Mo.ldk.injEq, D3.Mo.ins.injEq, exists_eq', exists_eq, List.cons.injEq, and_true, true_and, true_or, or_true, eq_self, decide_true, decide_false, D3.cast2, and_assoc, exists_and_left, exists_and_right, exists_const, exists_eq_right, exists_eq_right_right, Nat.reduceAdd, Nat.reduceSub, Nat.zero_add, List.length_append, D3.st_get0, D3.st_getk, D3.st_set0, D3.st_setk, D3.st_getL0, D3.st_getLk, D3.getL_c0, D3.getL_cs, D3.line0, D3.line1, D3.line2, D3.line3, D3.flatten1, Int.toNat_natCast, Nat.one_mul, List.append_assoc, List.append_nil, Nat.reduceLeDiff, ite_true, ite_false, if_true, if_false, Bool.false_eq_true, Bool.not_true, Bool.not_false, Bool.not_eq_true, and_self, false_and, and_false, $ls,*])
set_option Elab.async false
set_option linter.all false
set_option maxRecDepth 100000
set_option maxHeartbeats 2000000
namespace K03
open PySem PySem.Spec PyProof.Rows L2 D3
abbrev c_LETTERS : Dv := .str "abcdefghijklmnopqrstuvwxyz"
abbrev c_MAX_ITEMS : Dv := .int 6
abbrev c_MAX_LETTERS : Dv := .int 8
abbrev c_MAX_REFRAINS : Dv := .int 60
abbrev c_MAX_VERSES : Dv := .int 4
def t_Lfrom (Wd : WXd) : TSd :=
    (sRet (eDisp (((eC (.str "turns")), (eArgs dList (aCons (eOp dIx (eVar 0) (eC (.int 0))) aNil))) :: (((eC (.str "path")), (eLc (iSeq (eOp dIx (eVar 0) (eC (.int 1)))) (Tg.one 1) cYes (eArgs dList (aCons (eVar 1) aNil)) [1])) :: (((eC (.str "starts")), (eLst aNil)) :: [])))))
def t_Lstart (Wd : WXd) : TSd :=
    (sSeq (sAsg (eOp dIx (eOp dKGet (eVar 1) (eC (.str "turns"))) (eVar 2)) (gNm 3))
    (sSeq (sAsg (eIf (cVal (eOp dEq (eOp dAdd (eVar 3) (eC (.int 1))) (eArgs dLen (aCons (eOp dIx (eVar 0) (eVar 2)) aNil)))) (eC (.int 0)) (eOp dAdd (eVar 3) (eC (.int 1)))) (gSb (eOp dKGet (eVar 1) (eC (.str "turns"))) (eVar 2) dSetL))
    (sSeq (sDrop (eBM "list" dAppend (eOp dKGet (eVar 1) (eC (.str "path"))) (aCons (eLst (aCons (eVar 2) (aCons (eVar 3) (aCons (eC (.int 0)) aNil)))) aNil)))
    (sDrop (eBM "list" dAppend (eOp dKGet (eVar 1) (eC (.str "starts"))) (aCons (eTup (aCons (eVar 2) (aCons (eVar 3) aNil))) aNil))))))
def t_Lsing (sp_Lstart : Spd) (Wd : WXd) : TSd :=
    (sSeq (sIf (cVal (eOp dEq (eOp dKGet (eVar 1) (eC (.str "path"))) (eLst aNil))) (sDrop (eCall sp_Lstart Wd (aCons (eVar 0) (aCons (eVar 1) (aCons (eC (.int 0)) aNil))))) sNext)
    (sSeq (sAsg (eOp dIx (eOp dKGet (eVar 1) (eC (.str "path"))) (eUn dNeg (eC (.int 1)))) (gUnp 3 (gsCons (gNm 2) (gsCons (gNm 3) (gsCons (gNm 4) gsNil)))))
    (sSeq (sWhile (cNot (cVal (eArgs dIsi (aCons (eOp dIx (eOp dIx (eOp dIx (eVar 0) (eVar 2)) (eVar 3)) (eVar 4)) (aCons (eC (.ty "str")) aNil))))) (sSeq (sDrop (eCall sp_Lstart Wd (aCons (eVar 0) (aCons (eVar 1) (aCons (eOp dIx (eOp dIx (eOp dIx (eVar 0) (eVar 2)) (eVar 3)) (eVar 4)) aNil)))))
    (sAsg (eOp dIx (eOp dKGet (eVar 1) (eC (.str "path"))) (eUn dNeg (eC (.int 1)))) (gUnp 3 (gsCons (gNm 2) (gsCons (gNm 3) (gsCons (gNm 4) gsNil)))))))
    (sSeq (sAsg (eTup (aCons (eOp dIx (eOp dIx (eOp dIx (eVar 0) (eVar 2)) (eVar 3)) (eVar 4)) (aCons (eArgs dTuple (aCons (eLc (iSeq (eOp dKGet (eVar 1) (eC (.str "path")))) (Tg.one 7) cYes (eArgs dTuple (aCons (eVar 7) aNil)) [7]) aNil)) aNil))) (gNm 5))
    (sSeq (sAsg (eC (.bl true)) (gNm 6))
    (sSeq (sWhile (cAnd (cVal (eVar 6)) (cVal (eOp dNe (eOp dKGet (eVar 1) (eC (.str "path"))) (eLst aNil)))) (sSeq (sAsg (eBM "list" dPop (eOp dKGet (eVar 1) (eC (.str "path"))) aNil) (gUnp 3 (gsCons (gNm 2) (gsCons (gNm 3) (gsCons (gNm 4) gsNil)))))
    (sSeq (sAsg (eOp dEq (eOp dAdd (eVar 4) (eC (.int 1))) (eArgs dLen (aCons (eOp dIx (eOp dIx (eVar 0) (eVar 2)) (eVar 3)) aNil))) (gNm 6))
    (sIf (cNot (cVal (eVar 6))) (sDrop (eBM "list" dAppend (eOp dKGet (eVar 1) (eC (.str "path"))) (aCons (eLst (aCons (eVar 2) (aCons (eVar 3) (aCons (eOp dAdd (eVar 4) (eC (.int 1))) aNil)))) aNil))) sNext))))
    (sRet (eVar 5))))))))
end K03
set_option Elab.async false
set_option linter.all false
set_option maxRecDepth 100000
set_option maxHeartbeats 2000000
namespace K11
open PySem PySem.Spec PyProof.Rows L2 D3
abbrev c_LETTERS : Dv := .str "abcdefghijklmnopqrstuvwxyz"
abbrev c_MAX_ITEMS : Dv := .int 6
abbrev c_MAX_LETTERS : Dv := .int 8
abbrev c_MAX_REFRAINS : Dv := .int 60
abbrev c_MAX_VERSES : Dv := .int 4
def t_Lbegun (Wd : WXd) : TSd :=
    (sSeq (sAsg (eC (.int 0)) (gNm 1))
    (sSeq (sFor (iSeq (eVar 0)) (gNm 2) (sAsg (eOp dMod (eOp dAdd (eOp dAdd (eOp dMul (eVar 1) (eC (.int 48271))) (eOp dMul (eVar 2) (eC (.int 69621)))) (eC (.int 11))) (eC (.int 2147483647))) (gNm 1)))
    (sRet (eLst (aCons (eArgs dList (aCons (eVar 0) aNil)) (aCons (eOp dMul (eVar 1) (eArgs dInt (aCons (eOp dGt (eArgs dLen (aCons (eVar 0) aNil)) (eC (.int 2))) aNil))) aNil))))))
def t_Ltake (Wd : WXd) : TSd :=
    (sSeq (sIf (cVal (eOp dEq (eOp dIx (eVar 0) (eC (.int 0))) (eLst aNil))) (sSeq (sAsg (eOp dMod (eArgs dInt (aCons (eOp dMul (eOp dIx (eVar 0) (eC (.int 1))) (eC (.int 48271))) aNil)) (eC (.int 2147483647))) (gSb (eVar 0) (eC (.int 1)) dSetL))
    (sRet (eOp dMod (eOp dDiv (eOp dIx (eVar 0) (eC (.int 1))) (eC (.int 7))) (eVar 1)))) sNext)
    (sSeq (sAsg (eOp dIx (eOp dIx (eVar 0) (eC (.int 0))) (eC (.int 0))) (gNm 2))
    (sSeq (sAsg (eOp dDiv (eVar 2) (eVar 1)) (gSb (eOp dIx (eVar 0) (eC (.int 0))) (eC (.int 0)) dSetL))
    (sSeq (sIf (cOr (cVal (eOp dEq (eOp dIx (eOp dIx (eVar 0) (eC (.int 0))) (eC (.int 0))) (eC (.int 0)))) (cVal (eOp dEq (eOp dIx (eOp dIx (eVar 0) (eC (.int 0))) (eC (.int 0))) (eUn dNeg (eC (.int 1)))))) (sDrop (eBM "list" dPop (eOp dIx (eVar 0) (eC (.int 0))) (aCons (eC (.int 0)) aNil))) sNext)
    (sRet (eOp dMod (eArgs dInt (aCons (eVar 2) aNil)) (eVar 1)))))))
def t_Lbook (sp_Ltake : Spd) (Wd : WXd) : TSd :=
    (sSeq (sPar 2 3 (aCons (eOp dAdd (eC (.int 1)) (eCall sp_Ltake Wd (aCons (eVar 0) (aCons (eVar 1) aNil)))) (aCons (eLst aNil) aNil)))
    (sSeq (sAsg (eLst (aCons (eC (.str "la")) (aCons (eC (.str "lu")) (aCons (eC (.str "lo")) (aCons (eC (.str "a")) (aCons (eC (.str "zzzzzzzz")) (aCons (eC (.str "la")) aNil))))))) (gNm 4))
    (sSeq (sFor (iRg1 (aCons (eVar 2) aNil)) (gNm 5) (sSeq (sAsg (eLst aNil) (gNm 6))
    (sSeq (sFor (iRg1 (aCons (eOp dIx (eLst (aCons (eC (.int 1)) (aCons (eC (.int 2)) (aCons (eC (.int 2)) (aCons (eC (.int 3)) (aCons (eC (.int 4)) aNil)))))) (eCall sp_Ltake Wd (aCons (eVar 0) (aCons (eC (.int 5)) aNil)))) aNil)) (gNm 7) (sSeq (sAsg (eLst aNil) (gNm 8))
    (sSeq (sFor (iRg1 (aCons (eOp dIx (eLst (aCons (eC (.int 1)) (aCons (eC (.int 2)) (aCons (eC (.int 2)) (aCons (eC (.int 3)) (aCons (eC (.int 6)) aNil)))))) (eCall sp_Ltake Wd (aCons (eVar 0) (aCons (eC (.int 5)) aNil)))) aNil)) (gNm 9) (sSeq (sAsg (eOp dSub (eOp dSub (eVar 2) (eVar 5)) (eC (.int 1))) (gNm 10))
    (sSeq (sAsg (eOp dIx (eLst (aCons (eOp dAdd (eC (.int 1)) (eCall sp_Ltake Wd (aCons (eVar 0) (aCons (eArgs dMax (aCons (eC (.int 1)) (aCons (eVar 10) aNil))) aNil)))) (aCons (eC (.int 1)) aNil))) (eCall sp_Ltake Wd (aCons (eVar 0) (aCons (eC (.int 2)) aNil)))) (gNm 11))
    (sDrop (eBM "list" dAppend (eVar 8) (aCons (eIf (cAnd (cVal (eOp dGt (eVar 10) (eC (.int 0)))) (cVal (eOp dGt (eCall sp_Ltake Wd (aCons (eVar 0) (aCons (eC (.int 3)) aNil))) (eC (.int 0))))) (eOp dAdd (eVar 5) (eVar 11)) (eOp dIx (eVar 4) (eCall sp_Ltake Wd (aCons (eVar 0) (aCons (eC (.int 6)) aNil))))) aNil))))))
    (sDrop (eBM "list" dAppend (eVar 6) (aCons (eArgs dTuple (aCons (eVar 8) aNil)) aNil))))))
    (sDrop (eBM "list" dAppend (eVar 3) (aCons (eArgs dTuple (aCons (eVar 6) aNil)) aNil))))))
    (sRet (eArgs dTuple (aCons (eVar 3) aNil))))))
def t_Lturns (sp_Ltake : Spd) (Wd : WXd) : TSd :=
    (sRet (eArgs dTuple (aCons (eLc (iSeq (eVar 1)) (Tg.one 2) cYes (eCall sp_Ltake WNo (aCons (eVar 0) (aCons (eArgs dLen (aCons (eVar 2) aNil)) aNil))) [2]) aNil)))
end K11
set_option Elab.async false
set_option linter.all false
set_option maxRecDepth 100000
set_option maxHeartbeats 2000000
namespace K20
open PySem PySem.Spec PyProof.Rows L2 D3
abbrev c_LETTERS : Dv := .str "abcdefghijklmnopqrstuvwxyz"
abbrev c_MAX_ITEMS : Dv := .int 6
abbrev c_MAX_LETTERS : Dv := .int 8
abbrev c_MAX_REFRAINS : Dv := .int 60
abbrev c_MAX_VERSES : Dv := .int 4
def t_is_word (Wd : WXd) : TSd :=
    (sRet (eArgs dIsi (aCons (eVar 0) (aCons (eC (.ty "str")) aNil))))
def t_is_valid_item (sp_is_word : Spd) (Wd : WXd) : TSd :=
    (sSeq (sIf (cVal (eCall sp_is_word Wd (aCons (eVar 2) aNil))) (sRet (eAnd (eChain dLe dLe (eC (.int 1)) (eArgs dLen (aCons (eVar 2) aNil)) (eC c_MAX_LETTERS)) (eArgs dAll (aCons (eLc (iStr (eVar 2)) (Tg.one 3) cYes (eOp (dIn false) (eVar 3) (eC c_LETTERS)) [3]) aNil)))) sNext)
    (sRet (eChain dLt dLt (eVar 1) (eVar 2) (eArgs dLen (aCons (eVar 0) aNil)))))
def t_first_invalid_verse (sp_is_valid_item : Spd) (Wd : WXd) : TSd :=
    (sSeq (sAsg (eOp dIx (eVar 0) (eVar 1)) (gNm 2))
    (sSeq (sIf (cNot (cVal (eChain dLe dLe (eC (.int 1)) (eArgs dLen (aCons (eVar 2) aNil)) (eC c_MAX_VERSES)))) (sRet (eUn dNeg (eC (.int 1)))) sNext)
    (sSeq (sFor (iEnumD (aCons (eVar 2) aNil)) (gUnp 2 (gsCons (gNm 3) (gsCons (gNm 4) gsNil))) (sIf (cOr (cNot (cVal (eChain dLe dLe (eC (.int 1)) (eArgs dLen (aCons (eVar 4) aNil)) (eC c_MAX_ITEMS)))) (cNot (cVal (eArgs dAll (aCons (eLc (iSeq (eVar 4)) (Tg.one 5) cYes (eCall sp_is_valid_item WNo (aCons (eVar 0) (aCons (eVar 1) (aCons (eVar 5) aNil)))) [5]) aNil))))) (sRet (eVar 3)) sNext))
    (sRet (eC .non)))))
def t_validate_book (sp_first_invalid_verse : Spd) (Wd : WXd) : TSd :=
    (sSeq (sIf (cVal (eOp dEq (eArgs dLen (aCons (eVar 0) aNil)) (eC (.int 0)))) sNever sNext)
    (sFor (iRg1 (aCons (eArgs dLen (aCons (eVar 0) aNil)) aNil)) (gNm 1) (sSeq (sAsg (eIf (cVal (eOp dEq (eVar 1) (eC c_MAX_REFRAINS))) (eUn dNeg (eC (.int 1))) (eCall sp_first_invalid_verse Wd (aCons (eVar 0) (aCons (eVar 1) aNil)))) (gNm 2))
    (sIf (cVal (eOp dIsNot (eVar 2) (eC .non))) sNever sNext))))
end K20
set_option Elab.async false
set_option linter.all false
set_option maxRecDepth 100000
set_option maxHeartbeats 2000000
namespace K20
open PySem PySem.Spec D3
inductive Itm where
  | ref (n : Int)
  | wd (x : Str)
deriving DecidableEq
abbrev Bk := List (List (List Itm))
def Itm.d : Itm → Dv
  | .ref n => .int n
  | .wd x => .str x
def Itm.isW : Itm → Bool
  | .ref _ => false
  | .wd _ => true
def Itm.short : Itm → Prop
  | .ref _ => True
  | .wd x => x.length ≤ 100000
def vsD (v : List Itm) : Dv := .tup (v.map Itm.d)
def rfD (r : List (List Itm)) : Dv := .tup (r.map vsD)
def bkD (B : Bk) : Dv := .tup (B.map rfD)
theorem Itm.clo (x : Itm) (n : Nat) : x.d.clo n = true := by cases x <;> rfl
theorem vsD_clo (v : List Itm) (n : Nat) : (vsD v).clo n = true := cloL_map fun a _ => a.clo n
theorem rfD_clo (r : List (List Itm)) (n : Nat) : (rfD r).clo n = true := cloL_map fun a _ => vsD_clo a n
theorem bkD_clo (B : Bk) (n : Nat) : (bkD B).clo n = true := cloL_map fun a _ => rfD_clo a n
def spIsWord : Spd := fun ds S Q E => ∃ x : Itm, ds = [x.d] ∧ Q (.bl x.isW) S
theorem r_is_word : ∀ ds S Qd Ed, spIsWord ds S Qd Ed → StClo S → t_is_word (WEx S.length Ed) { nx := fun _ S' => Gc S.length Qd .non S', rt := Gc S.length Qd } (startD 1 ds) S := by
  rintro _ S Qd Ed ⟨x, rfl, h⟩ hc
  unfold t_is_word
  cases x <;> dsimp! only [Itm.d]
  all_goals exact .inl h
/-- the letters of a word -/
def letterOk (c : Nat) : Bool := strIn ⟨#[c]⟩ "abcdefghijklmnopqrstuvwxyz"
def wordOk (w : Str) : Bool := decide (1 ≤ w.length) && decide (w.length ≤ 8) && w.cps.toList.all letterOk
def itemOk (n k : Int) : Itm → Bool
  | .wd w => wordOk w
  | .ref m => decide (k < m) && decide (m < n)
def spIsValidItem : Spd := fun ds S Q E => ∃ (B : Bk) (k : Int) (x : Itm), ds = [bkD B, .int k, x.d] ∧ x.short ∧ Q (.bl (itemOk B.length k x)) S
theorem r_is_valid_item : ∀ ds S Qd Ed, spIsValidItem ds S Qd Ed → StClo S → t_is_valid_item spIsWord (WEx S.length Ed) { nx := fun _ S' => Gc S.length Qd .non S', rt := Gc S.length Qd } (startD 4 ds) S := by
  rintro _ S Qd Ed ⟨B, k, x, rfl, hx, h⟩ hc
  unfold t_is_valid_item
  dsimp! only []
  refine ⟨x, rfl, ?_⟩
  cases x with
  | ref m =>
    dsimp! only [Itm.isW, Itm.d, bkD, List.length_map, c_LETTERS]
    simp only [itemOk] at h
    by_cases h1 : k < m
    · simp only [h1, decide_true, if_true, Bool.true_and] at h ⊢
      exact .inl h
    · simp only [h1, decide_false, Bool.false_and] at h ⊢
      exact .inl h
  | wd w =>
    have hx : w.length ≤ 100000 := hx
    dsimp! only [Itm.isW, Itm.d, bkD, List.length_map, c_LETTERS]
    refine ⟨Nat.le_trans hx (by decide), ?_⟩
    simp only [itemOk, wordOk] at h
    by_cases h1 : 1 ≤ w.length
    · by_cases h2 : w.length ≤ 8
      · have e1 : (1 : Int) ≤ w.length := by omega
        have e2 : (w.length : Int) ≤ 8 := by omega
        simp only [h1, h2, e1, e2, decide_true, if_true, Bool.true_and] at h ⊢
        refine eLc_map ⟨w.cps.toList.map fun c => .str ⟨#[c]⟩, fun _ => True⟩ w.cps.toList (fun c => .str ⟨#[c]⟩) (fun c => .bl (letterOk c)) ?_ rfl trivial ?_ hc (fun _ _ => rfl) ?_ ?_
        · intro R hR
          dsimp! only [iStr]
          exact hR
        · have : w.cps.toList.length = w.length := by simp [Str.length]
          omega
        · intro c hc' K1 K0 hK
          dsimp! only [dIn]
          exact app_nil hK
        · dsimp! only [getL_at, blsOf_mapf, List.all_map]
          exact gc_drop h rfl hc
      · have e1 : (1 : Int) ≤ w.length := by omega
        have e2 : ¬ (w.length : Int) ≤ 8 := by omega
        simp only [h1, h2, e1, e2, decide_true, decide_false, if_true, Bool.false_eq_true, if_false, Bool.true_and, Bool.false_and] at h ⊢
        exact .inl h
    · have e1 : ¬ (1 : Int) ≤ w.length := by omega
      simp only [h1, e1, decide_false, Bool.false_eq_true, if_false, Bool.false_and] at h ⊢
      exact .inl h
def verseOk (n k : Int) (v : List Itm) : Bool := decide (1 ≤ v.length) && decide (v.length ≤ 6) && v.all (itemOk n k)
def firstBad (n k : Int) (r : List (List Itm)) : Dv := if 1 ≤ r.length ∧ r.length ≤ 4 then (match r.findIdx? fun v => !verseOk n k v with
  | some i => .int (i : Nat)
  | none => .non) else .int (-1)
def Small (B : Bk) : Prop := B.length < 100000 ∧ ∀ r ∈ B, r.length < 100000 ∧ ∀ v ∈ r, v.length < 100000 ∧ ∀ x ∈ v, x.short
def spFirstBad : Spd := fun ds S Q E => ∃ (B : Bk) (k : Nat) (r : List (List Itm)), ds = [bkD B, .int k] ∧ Small B ∧ B[k]? = some r ∧ Q (firstBad B.length k r) S
theorem r_first_invalid_verse : ∀ ds S Qd Ed, spFirstBad ds S Qd Ed → StClo S → t_first_invalid_verse spIsValidItem (WEx S.length Ed) { nx := fun _ S' => Gc S.length Qd .non S', rt := Gc S.length Qd } (startD 6 ds) S := by
  rintro _ S Qd Ed ⟨B, k, r, rfl, hB, hk, h⟩ hc
  have hr : r ∈ B := List.mem_of_getElem? hk
  obtain ⟨hB1, hB2⟩ := hB
  obtain ⟨hr1, hr2⟩ := hB2 r hr
  have hk' : (B.map rfD)[k]? = some (rfD r) := by rw [List.getElem?_map, hk]; rfl
  unfold t_first_invalid_verse
  dsimp! only [bkD, atI_nat hk', rfD, List.length_map, c_MAX_VERSES, c_MAX_ITEMS]
  unfold firstBad at h
  by_cases h1 : 1 ≤ r.length
  · by_cases h2 : r.length ≤ 4
    · have e1 : (1 : Int) ≤ r.length := by omega
      have e2 : (r.length : Int) ≤ 4 := by omega
      simp only [h1, h2, e1, e2, and_self, decide_true, if_true, Bool.not_true, Bool.false_eq_true, if_false] at h ⊢
      refine sFor_inv (S1 := S) (jEnum (rfD r) (r.map vsD)) (fun i σ S' => S' = S ∧ (∀ v ∈ r.take i, (!verseOk B.length k v) = false) ∧ ∃ o3 o4, σ = [some (bkD B), some (.int k), some (rfD r), o3, o4, none]) ?_ ?_ ?_ ?_ ?_
      · refine hw_enum (fun R hR => ?_) rfl
        dsimp! only []
        exact hR
      · exact ⟨rfl, fun v hv => by simp at hv, none, none, rfl⟩
      · rintro i σ S' _ ⟨rfl, _⟩
        rfl
      · rintro i d σ S' hd ⟨rfl, hi, o3, o4, rfl⟩ KK hKK
        obtain ⟨v, hv, rfl⟩ := jEnum_get hd
        have hvr : v ∈ r := List.mem_of_getElem? hv
        obtain ⟨hv1, hv2⟩ := hr2 v hvr
        dsimp! only [vsD, List.length_map]
        have hyes : verseOk B.length k v = true → ∀ T, KK [some (bkD B), some (.int k), some (rfD r), some (.int i), some (vsD v), none] (S' ++ T) := fun hy T =>
          hKK _ _ (wk_drop ⟨rfl, fun v' hv' => by
            rw [take_succ hv] at hv'
            rcases List.mem_append.mp hv' with z | z
            · exact hi v' z
            · rw [List.mem_singleton.mp z, hy]; rfl, _, _, rfl⟩ (by simp [cloSl, bkD_clo, rfD_clo, vsD_clo, Dv.clo]) hc)
        have hno : verseOk B.length k v = false → ∀ T, Gc S'.length Qd (.int i) (S' ++ T) := fun hy T => by
          rw [find_first hi hv (by rw [hy]; rfl)] at h
          exact gc_drop h rfl hc
        by_cases g1 : 1 ≤ v.length
        · by_cases g2 : v.length ≤ 6
          · have f1 : (1 : Int) ≤ v.length := by omega
            have f2 : (v.length : Int) ≤ 6 := by omega
            simp only [f1, f2, decide_true, Bool.not_true, Bool.false_eq_true, if_true, if_false]
            have hv3 : verseOk B.length k v = v.all (itemOk B.length k) := by unfold verseOk; simp [g1, g2]
            rw [hv3] at hyes hno
            refine eLc_map (S1 := S') (jSeq (vsD v) (v.map Itm.d)) v Itm.d (fun x => .bl (itemOk B.length k x)) (hw_seq (fun R hR => ?_) rfl) rfl rfl hv1 hc (fun _ _ => rfl) ?_ ?_
            · dsimp! only []
              exact hR
            · intro x hx K1 K0 hK
              dsimp! only []
              exact ⟨B, k, x, rfl, hv2 x hx, app_nil hK⟩
            · dsimp! only [getL_at, blsOf_mapf, List.all_map]
              have e : v.all (id ∘ itemOk B.length k) = v.all (itemOk B.length k) := rfl
              rw [e]
              by_cases g : v.all (itemOk B.length k) = true
              · simp only [g, Bool.not_true, Bool.false_eq_true, if_false]
                exact hyes g _
              · rw [Bool.not_eq_true] at g
                simp only [g, Bool.not_false, if_true]
                exact hno g _
          · have f1 : (1 : Int) ≤ v.length := by omega
            have f2 : ¬ (v.length : Int) ≤ 6 := by omega
            simp only [f1, f2, decide_true, decide_false, Bool.not_false, if_true]
            exact app_nil (hno (by unfold verseOk; simp [g2]))
        · have f1 : ¬ (1 : Int) ≤ v.length := by omega
          simp only [f1, decide_false, Bool.false_eq_true, if_false]
          exact app_nil (hno (by unfold verseOk; simp [g1]))
      · rintro σ S' ⟨rfl, hi, o3, o4, rfl⟩
        dsimp! only []
        rw [jEnum_len, List.take_length] at hi
        rw [find_none hi] at h
        exact .inl h
    · have e1 : (1 : Int) ≤ r.length := by omega
      have e2 : ¬ (r.length : Int) ≤ 4 := by omega
      simp only [h1, h2, e1, e2, and_false, decide_true, decide_false, if_true, if_false, Bool.not_true, Bool.not_false, Bool.false_eq_true] at h ⊢
      exact .inl h
  · have e1 : ¬ (1 : Int) ≤ r.length := by omega
    simp only [h1, e1, false_and, decide_false, if_true, if_false, Bool.not_false, Bool.false_eq_true] at h ⊢
    exact .inl h
structure BkOk (B : Bk) : Prop where
  small : Small B
  pos : 1 ≤ B.length
  le : B.length ≤ 60
  ok : ∀ k r, B[k]? = some r → firstBad B.length (k : Nat) r = .non
def spValidateBook : Spd := fun ds S Q E => ∃ B : Bk, ds = [bkD B] ∧ BkOk B ∧ Q .non S
theorem r_validate_book : ∀ ds S Qd Ed, spValidateBook ds S Qd Ed → StClo S → t_validate_book spFirstBad (WEx S.length Ed) { nx := fun _ S' => Gc S.length Qd .non S', rt := Gc S.length Qd } (startD 3 ds) S := by
  rintro _ S Qd Ed ⟨B, rfl, hB, h⟩ hc
  unfold t_validate_book
  have h1 := hB.pos
  have h2 := hB.le
  have h0 : ¬ (B.length : Int) = 0 := by omega
  dsimp! only [bkD, List.length_map, h0, decide_false, c_MAX_REFRAINS]
  refine sFor_inv (S1 := S) (jRg B.length) (fun i σ S' => S' = S ∧ ∃ o1 o2, σ = [some (bkD B), o1, o2]) (hw_rg1 (fun R hR => ?_) (by omega)) ⟨rfl, none, none, rfl⟩ (fun _ _ _ _ _ => trivial) ?_ ?_
  · dsimp! only [List.length_map]
    exact hR
  · rintro i d σ S' hd ⟨rfl, o1, o2, rfl⟩ KK hKK
    obtain ⟨hi, rfl⟩ := jRg_get hd
    have g : ¬ (i : Int) = 60 := by omega
    dsimp! only [g, decide_false]
    obtain ⟨r, hr⟩ : ∃ r, B[i]? = some r := ⟨_, List.getElem?_eq_getElem hi⟩
    refine ⟨B, i, r, rfl, hB.small, hr, ?_⟩
    rw [hB.ok i r hr]
    dsimp! only []
    exact hKK _ _ (.inl ⟨rfl, _, _, rfl⟩)
  · rintro σ S' ⟨rfl, o1, o2, rfl⟩
    exact .inl h
def turnsOk (B : Bk) (ts : List Int) : Bool := decide (ts.length = B.length) && (ts.zip B).all fun p => decide (0 ≤ p.1) && decide (p.1 < p.2.length)
def tsD (ts : List Int) : Dv := .tup (ts.map Dv.int)
theorem tsD_clo (ts : List Int) (n : Nat) : (tsD ts).clo n = true := cloL_map fun _ _ => rfl
def useOf (size turn starts v : Int) : Int := starts / size + b2i' (decide ((v - turn) % size < starts % size))
def usesL (size : Nat) (turn starts : Int) : List Int := (List.range size).map fun v : Nat => useOf size turn starts v
abbrev Cc := List (Int × Int)
def getC (cc : Cc) (n : Int) : Int := ((cc.find? fun p => decide (p.1 = n)).map (·.2)).getD 0
def putC (cc : Cc) (n m : Int) : Cc := if (cc.any fun p => decide (p.1 = n)) = true then cc.map (fun p => if p.1 = n then (p.1, m) else p) else cc ++ [(n, m)]
def bump (cc : Cc) (n : Int) : Cc := putC cc n (getC cc n + 1)
def bumpI (cc : Cc) : Itm → Cc
  | .wd _ => cc
  | .ref n => bump cc n
def callsOf (v : List Itm) : Cc := v.foldl bumpI []
def dkOf (cc : Cc) : List (L2.Key × Dv) := cc.map fun p => (.inl p.1, .int p.2)
theorem get_at {S T : Store} {m : Mo} : (S ++ m :: T)[S.length]? = some m := by
  rw [List.getElem?_append_right (Nat.le_refl _), Nat.sub_self]; rfl
end K20
set_option Elab.async false
set_option linter.all false
set_option maxRecDepth 100000
set_option maxHeartbeats 2000000
namespace K20
open PySem PySem.Spec D3
def RowAt (S : Store) (x : Dv) (r : List (List Itm)) : Prop := ∃ (b : Nat) (ids : List Nat), x = .obj b ∧ getL S b = some (ids.map Dv.obj) ∧ ids.length = r.length ∧ ∀ (j : Nat) v d, r[j]? = some v → ids[j]? = some d → S[d]? = some (.dk (dkOf (callsOf v)))
def CallsAt (S : Store) (x : Dv) (B : Bk) : Prop := ∃ (a : Nat) (xs : List Dv), x = .obj a ∧ getL S a = some xs ∧ xs.length = B.length ∧ ∀ (k : Nat) r y, B[k]? = some r → xs[k]? = some y → RowAt S y r
theorem get_old {S T : Store} {i : Nat} {m : Mo} (h : S[i]? = some m) : (S ++ T)[i]? = some m := by
  rw [List.getElem?_append_left (at_lt h)]; exact h
theorem RowAt.app {S T : Store} {x : Dv} {r : List (List Itm)} (h : RowAt S x r) : RowAt (S ++ T) x r := by
  obtain ⟨b, ids, rfl, h1, h2, h3⟩ := h
  exact ⟨b, ids, rfl, getL_old h1, h2, fun j v d e1 e2 => get_old (h3 j v d e1 e2)⟩
theorem CallsAt.app {S T : Store} {x : Dv} {B : Bk} (h : CallsAt S x B) : CallsAt (S ++ T) x B := by
  obtain ⟨b, ids, rfl, h1, h2, h3⟩ := h
  exact ⟨b, ids, rfl, getL_old h1, h2, fun j v d e1 e2 => (h3 j v d e1 e2).app⟩
def cntF (B : Bk) (x : Dv) : List (Str × Dv) := [("book", bkD B), ("calls", x)]
end K20
set_option Elab.async false
set_option linter.all false
set_option maxRecDepth 100000
set_option maxHeartbeats 2000000
namespace K20
open PySem PySem.Spec D3
def addAt (l : List Int) (n d : Int) : List Int := l.set n.toNat (l.getD n.toNat 0 + d)
def ccAdd (u : Int) (cc : Cc) (l : List Int) : List Int := cc.foldl (fun l p => addAt l p.1 (u * p.2)) l
def refAdd (us : List Int) (r : List (List Itm)) (l : List Int) : List Int := (us.zip r).foldl (fun l p => ccAdd p.1 (callsOf p.2) l) l
def usesAt (B : Bk) (ts : List Int) (l : List Int) (k : Nat) : List Int := usesL (B.getD k []).length (ts.getD k 0) (l.getD k 0)
def pendStep (B : Bk) (ts : List Int) (l : List Int) (k : Nat) : List Int := refAdd (usesAt B ts l k) (B.getD k []) l
def pendK (B : Bk) (ts : List Int) (l : List Int) (k : Nat) : List Int := (List.range k).foldl (pendStep B ts) l
def rowsK (B : Bk) (ts : List Int) (l : List Int) (k : Nat) : List (List Int) := (List.range k).map fun j => usesAt B ts (pendK B ts l j) j
def finalK (B : Bk) (ts : List Int) (l : List Int) (k : Nat) : List Int := (List.range k).map fun j => (ts.getD j 0 + (pendK B ts l (j + 1)).getD j 0) % ((B.getD j []).length : Int)
theorem pendK_succ {B : Bk} {ts l : List Int} {k : Nat} : pendK B ts l (k + 1) = pendStep B ts (pendK B ts l k) k := by unfold pendK; rw [List.range_succ, List.foldl_append]; rfl
theorem rowsK_succ {B : Bk} {ts l : List Int} {k : Nat} : rowsK B ts l (k + 1) = rowsK B ts l k ++ [usesAt B ts (pendK B ts l k) k] := by unfold rowsK; rw [List.range_succ, List.map_append]; rfl
theorem addAt_len (l : List Int) (n d : Int) : (addAt l n d).length = l.length := List.length_set
def RowsAt (S : Store) (u : Nat) (rows : List (List Int)) : Prop := ∃ as : List Nat, getL S u = some (as.map Dv.obj) ∧ as.length = rows.length ∧ ∀ (k : Nat) row a, rows[k]? = some row → as[k]? = some a → getL S a = some (row.map Dv.int)
/-- every call lies within the book -/
def Within (B : Bk) : Prop := ∀ r ∈ B, ∀ v ∈ r, ∀ n, Itm.ref n ∈ v → 0 ≤ n ∧ n < B.length
def startL (n : Nat) (s : Int) : List Int := (List.replicate n 0).set 0 s
end K20
set_option Elab.async false
set_option linter.all false
set_option maxRecDepth 100000
set_option maxHeartbeats 2000000
namespace K20
open PySem PySem.Spec D3
def prodL (rows wts : List (List Int)) : List Int := (rows.zip wts).flatMap fun p => (p.1.zip p.2).map fun q => q.1 * q.2
/-- does the word count here: none stands for every word -/
def counts (w : Option Str) : Itm → Bool
  | .ref _ => false
  | .wd x => match w with
    | none => true
    | some w => decide (x = w)
def wtsOf (B : Bk) (w : Option Str) : List (List Int) := B.map fun r => r.map fun v => ((v.filter (counts w)).length : Int)
end K20
set_option Elab.async false
set_option linter.all false
set_option maxRecDepth 100000
set_option maxHeartbeats 2000000
namespace K20
open PySem PySem.Spec D3
theorem firstBad_non {n k : Int} {r : List (List Itm)} (h : firstBad n k r = .non) : (1 ≤ r.length ∧ r.length ≤ 4) ∧ ∀ v ∈ r, verseOk n k v = true := by
  unfold firstBad at h
  split at h
  · rename_i h1
    refine ⟨h1, fun v hv => ?_⟩
    split at h
    · cases h
    · rename_i h2
      have := List.findIdx?_eq_none_iff.mp h2 v hv
      simpa using this
  · cases h
theorem BkOk.row {B : Bk} (h : BkOk B) {k : Nat} {r : List (List Itm)} (hr : B[k]? = some r) : 1 ≤ r.length ∧ r.length ≤ 4 := (firstBad_non (h.ok k r hr)).1
theorem BkOk.verse {B : Bk} (h : BkOk B) {k : Nat} {r : List (List Itm)} (hr : B[k]? = some r) {v : List Itm} (hv : v ∈ r) : 1 ≤ v.length ∧ v.length ≤ 6 ∧ v.all (itemOk B.length k) = true := by
  have := (firstBad_non (h.ok k r hr)).2 v hv
  unfold verseOk at this
  simp only [Bool.and_eq_true, decide_eq_true_eq] at this
  exact ⟨this.1.1, this.1.2, this.2⟩
theorem BkOk.ref {B : Bk} (h : BkOk B) {k : Nat} {r : List (List Itm)} (hr : B[k]? = some r) {v : List Itm} (hv : v ∈ r) {n : Int} (hn : .ref n ∈ v) : (k : Int) < n ∧ n < B.length := by
  have := List.all_eq_true.mp (h.verse hr hv).2.2 _ hn
  unfold itemOk at this
  simpa using this
theorem BkOk.within {B : Bk} (h : BkOk B) : Within B := fun r hr v hv n hn => by
  obtain ⟨k, hk⟩ := List.getElem?_of_mem hr
  have := h.ref hk hv hn
  omega
theorem turnsOk_len {B : Bk} {ts : List Int} (h : turnsOk B ts = true) : ts.length = B.length := by
  unfold turnsOk at h
  simp only [Bool.and_eq_true, decide_eq_true_eq] at h
  exact h.1
def songWords (B : Bk) (ts : List Int) (s : Int) (w : Option Str) : Int := (prodL (rowsK B ts (startL B.length s) B.length) (wtsOf B w)).sum
def songTurns (B : Bk) (ts : List Int) (s : Int) : List Int := finalK B ts (startL B.length s) B.length
end K20
set_option Elab.async false
set_option linter.all false
set_option maxRecDepth 100000
set_option maxHeartbeats 2000000
set_option exponentiation.threshold 5000
namespace K20
open PySem PySem.Spec D3
theorem sWhile_inv {c : TTd} {tb : TSd} {D : EndsD} {σ : Sl} {S : Store} {n0 : Nat} (hn : n0 = S.length) (Pv : Nat → Sl → Store → Prop) (h0 : ∃ m, Pv m σ S)
    (step : ∀ m σ1 S1, Pv m σ1 S1 → ∀ K : Sl → Store → Prop, (∀ σ S, (Wk n0 fun σ' S' => ∃ m', m' < m ∧ Pv m' σ' S') σ S → K σ S) → c σ1 S1 fun b S2 => if b = true then tb { D with nx := K, ct := K, bk := D.nx } σ1 S2 else D.nx σ1 S2) : sWhile c tb D σ S :=
  by subst hn; exact ⟨Pv, h0, fun m σ1 S1 h => step m σ1 S1 h _ fun _ _ h => h⟩
theorem at0 {α : Type} {a : α} {l : List α} : L2.atI (a :: l) (0 : Int) = some a := atI_nat (i := 0) rfl
theorem at1 {α : Type} {a b : α} {l : List α} : L2.atI (a :: b :: l) (1 : Int) = some b := atI_nat (i := 1) rfl
def sumQ (qs : List Rat) : Rat := qs.foldl (· + ·) 0
end K20
set_option Elab.async false
set_option linter.all false
set_option maxRecDepth 100000
set_option maxHeartbeats 2000000
set_option exponentiation.threshold 5000
namespace K20
open PySem PySem.Spec D3
def Bd (D M : Nat) (q : Rat) : Prop := ∃ a : Int, q * (D : Rat) = (a : Rat) ∧ a.natAbs ≤ M
theorem Bd.mono {D M N : Nat} {q : Rat} (h : Bd D M q) (hm : M ≤ N) : Bd D N q := by
  obtain ⟨a, e, ha⟩ := h
  exact ⟨a, e, Nat.le_trans ha hm⟩
theorem Bd.add {D M N : Nat} {p q : Rat} (h : Bd D M p) (h' : Bd D N q) : Bd D (M + N) (p + q) := by
  obtain ⟨a, e, ha⟩ := h
  obtain ⟨b, e', hb⟩ := h'
  refine ⟨a + b, ?_, by omega⟩
  rw [Rat.intCast_add, ← e, ← e']
  grind
theorem Bd.neg {D M : Nat} {p : Rat} (h : Bd D M p) : Bd D M (-p) := by
  obtain ⟨a, e, ha⟩ := h
  refine ⟨-a, ?_, by omega⟩
  rw [Rat.intCast_neg, ← e]
  grind
theorem Bd.sub {D M N : Nat} {p q : Rat} (h : Bd D M p) (h' : Bd D N q) : Bd D (M + N) (p - q) := by
  rw [Rat.sub_eq_add_neg]; exact h.add h'.neg
theorem Bd.zero {D M : Nat} : Bd D M 0 := ⟨0, by simp, by simp⟩
theorem Bd.one {D : Nat} : Bd D D 1 := ⟨D, by rw [Rat.intCast_natCast, Rat.one_mul], by simp⟩
theorem Bd.scale {D M : Nat} {p : Rat} (k : Nat) (h : Bd D M p) : Bd (D * k) (M * k) p := by
  obtain ⟨a, e, ha⟩ := h
  refine ⟨a * k, ?_, by rw [Int.natAbs_mul, Int.natAbs_natCast]; exact Nat.mul_le_mul_right _ ha⟩
  rw [Rat.intCast_mul, ← e, Rat.natCast_mul]
  have : (((k : Nat) : Int) : Rat) = (k : Rat) := rfl
  rw [this]
  grind
theorem Bd.div {D M : Nat} {p : Rat} {n : Nat} (h : Bd D (n * M) p) (h0 : 0 < n) (h1 : n ≤ 4) : Bd (D * 12) (12 * M) (p / (n : Rat)) := by
  obtain ⟨a, e, ha⟩ := h
  have hn : n = 1 ∨ n = 2 ∨ n = 3 ∨ n = 4 := by omega
  have key : ∀ m : Nat, n * m = 12 → Bd (D * 12) (12 * M) (p / (n : Rat)) := fun m hm => by
    refine ⟨a * m, ?_, ?_⟩
    · have hn0 : (n : Rat) ≠ 0 := by
        intro z
        have : n = 0 := by exact_mod_cast z
        omega
      have hm' : (n : Rat) * (m : Rat) = 12 := by exact_mod_cast congrArg (fun x : Nat => (x : Rat)) hm
      rw [Rat.intCast_mul, ← e, Rat.natCast_mul]
      have e1 : (((m : Nat) : Int) : Rat) = (m : Rat) := rfl
      have e2 : ((12 : Nat) : Rat) = (n : Rat) * (m : Rat) := by rw [hm']; rfl
      rw [e1, e2]
      grind
    · rw [Int.natAbs_mul, Int.natAbs_natCast]
      have := Nat.mul_le_mul_right m ha
      calc a.natAbs * m ≤ n * M * m := this
        _ = n * m * M := by rw [Nat.mul_assoc, Nat.mul_comm M m, ← Nat.mul_assoc]
        _ = 12 * M := by rw [hm]
  rcases hn with rfl | rfl | rfl | rfl
  · exact key 12 rfl
  · exact key 6 rfl
  · exact key 4 rfl
  · exact key 3 rfl
theorem sum_bd {D M : Nat} : ∀ (qs : List Rat) (z : Rat) (N : Nat), Bd D N z → (∀ q ∈ qs, Bd D M q) → Bd D (N + qs.length * M) (qs.foldl (· + ·) z)
  | [], z, N, hz, _ => hz.mono (by simp)
  | q :: qs, z, N, hz, h => by
    have := sum_bd qs (z + q) (N + M) (hz.add (h q List.mem_cons_self)) fun x hx => h x (List.mem_cons_of_mem _ hx)
    refine this.mono ?_
    rw [List.length_cons, Nat.add_mul]
    omega
theorem sumQ_bd {D M : Nat} {qs : List Rat} (h : ∀ q ∈ qs, Bd D M q) : Bd D (qs.length * M) (sumQ qs) := by
  have := sum_bd qs 0 0 (Bd.zero (M := 0)) h
  rwa [Nat.zero_add] at this
end K20
set_option Elab.async false
set_option linter.all false
set_option maxRecDepth 100000
set_option maxHeartbeats 2000000
set_option exponentiation.threshold 5000
namespace K20
open PySem PySem.Spec D3
def itemQ (w : Str) (qs : List Rat) : Itm → Rat
  | .wd x => if x = w then 1 else 0
  | .ref n => qs.getD n.toNat 0
def verseQ (w : Str) (qs : List Rat) (v : List Itm) : Rat := sumQ (v.map (itemQ w qs))
def rateQ (w : Str) (qs : List Rat) (r : List (List Itm)) : Rat := sumQ (r.map (verseQ w qs)) / (r.length : Rat)
def offQ (rate : Rat) (ss : List Rat) (j : Nat) : Rat := sumQ ((ss.take j).map fun s => s - rate)
def rowQ (rate : Rat) (ss : List Rat) : List Rat := (List.range ss.length).map (offQ rate ss)
abbrev Ct := List Rat × List (List Rat)
def stepC (B : Bk) (w : Str) (c : Ct) (k : Nat) : Ct := (c.1.set k (rateQ w c.1 (B.getD k [])), c.2.set k (rowQ (rateQ w c.1 (B.getD k [])) ((B.getD k []).map (verseQ w c.1))))
def certK (B : Bk) (w : Str) (j : Nat) : Ct := (List.range j).foldl (fun c i => stepC B w c (B.length - 1 - i)) (List.replicate B.length 0, List.replicate B.length [])
theorem certK_succ {B : Bk} {w : Str} {j : Nat} : certK B w (j + 1) = stepC B w (certK B w j) (B.length - 1 - j) := by unfold certK; rw [List.range_succ, List.foldl_append]; rfl
theorem certK_len {B : Bk} {w : Str} : ∀ j, (certK B w j).1.length = B.length ∧ (certK B w j).2.length = B.length
  | 0 => by unfold certK; simp
  | j + 1 => by
    rw [certK_succ]
    obtain ⟨h1, h2⟩ := certK_len (B := B) (w := w) j
    exact ⟨by show (List.set _ _ _).length = _; rw [List.length_set]; exact h1, by show (List.set _ _ _).length = _; rw [List.length_set]; exact h2⟩
theorem item_bd {D M : Nat} {w : Str} {qs : List Rat} (h : ∀ q ∈ qs, Bd D M q) (hD : D ≤ M) (x : Itm) : Bd D M (itemQ w qs x) := by
  cases x with
  | wd y =>
    show Bd D M (if y = w then 1 else 0)
    split
    · exact Bd.one.mono hD
    · exact Bd.zero
  | ref n =>
    show Bd D M (qs.getD n.toNat 0)
    rw [List.getD_eq_getElem?_getD]
    cases e : qs[n.toNat]? with
    | none => exact Bd.zero
    | some q => exact h q (List.mem_of_getElem? e)
theorem verse_bd {D M : Nat} {w : Str} {qs : List Rat} (h : ∀ q ∈ qs, Bd D M q) (hD : D ≤ M) {v : List Itm} (hv : v.length ≤ 6) : Bd D (6 * M) (verseQ w qs v) := by
  have := sumQ_bd (qs := v.map (itemQ w qs)) (D := D) (M := M) fun q hq => by
    obtain ⟨x, _, rfl⟩ := List.mem_map.mp hq
    exact item_bd h hD x
  exact this.mono (by rw [List.length_map]; exact Nat.mul_le_mul_right _ hv)
theorem rate_bd {D M : Nat} {w : Str} {qs : List Rat} (h : ∀ q ∈ qs, Bd D M q) (hD : D ≤ M) {r : List (List Itm)} (hr : 1 ≤ r.length ∧ r.length ≤ 4) (hv : ∀ v ∈ r, v.length ≤ 6) : Bd (D * 12) (72 * M) (rateQ w qs r) := by
  have h1 := sumQ_bd (qs := r.map (verseQ w qs)) (D := D) (M := 6 * M) fun q hq => by
    obtain ⟨v, hv', rfl⟩ := List.mem_map.mp hq
    exact verse_bd h hD (hv v hv')
  rw [List.length_map] at h1
  have h2 := Bd.div h1 hr.1 hr.2
  exact h2.mono (by omega)
theorem cert_bd {B : Bk} (hB : BkOk B) {w : Str} : ∀ j, ∀ q ∈ (certK B w j).1, Bd (12 ^ j) (72 ^ j) q
  | 0 => fun q hq => by
    unfold certK at hq
    have := List.eq_of_mem_replicate (show q ∈ List.replicate B.length (0 : Rat) from hq)
    rw [this]; exact Bd.zero
  | j + 1 => fun q hq => by
    have ih := cert_bd hB (w := w) j
    rw [certK_succ] at hq
    have hD : 12 ^ j ≤ 72 ^ j := Nat.pow_le_pow_left (by decide) j
    rcases List.mem_or_eq_of_mem_set (show q ∈ (certK B w j).1.set _ _ from hq) with z | z
    · have := (ih q z).scale 12
      rw [Nat.pow_succ, Nat.pow_succ]
      exact this.mono (by omega)
    · rw [z]
      rw [Nat.pow_succ, Nat.pow_succ, Nat.mul_comm (72 ^ j)]
      cases e : B[B.length - 1 - j]? with
      | none =>
        rw [List.getD_eq_getElem?_getD, e]
        show Bd _ _ (sumQ [] / ((0 : Nat) : Rat))
        have : sumQ [] / ((0 : Nat) : Rat) = 0 := by
          show (0 : Rat) / _ = 0
          rw [Rat.div_def, Rat.zero_mul]
        rw [this]; exact Bd.zero
      | some r =>
        rw [List.getD_eq_getElem?_getD, e]
        exact rate_bd ih hD (hB.row e) fun v hv => (hB.verse e hv).2.1
end K20
set_option Elab.async false
set_option linter.all false
set_option maxRecDepth 100000
set_option maxHeartbeats 2000000
set_option exponentiation.threshold 5000
namespace K20
open PySem PySem.Spec D3
end K20
set_option Elab.async false
set_option linter.all false
set_option maxRecDepth 100000
set_option maxHeartbeats 2000000
set_option exponentiation.threshold 5000
namespace K20
open PySem PySem.Spec D3
theorem item_congr {w : Str} {qs qs' : List Rat} {x : Itm} (h : ∀ n, x = .ref n → qs.getD n.toNat 0 = qs'.getD n.toNat 0) : itemQ w qs x = itemQ w qs' x := by
  cases x with
  | wd y => rfl
  | ref n => exact h n rfl
theorem verse_congr {w : Str} {qs qs' : List Rat} {v : List Itm} (h : ∀ n, .ref n ∈ v → qs.getD n.toNat 0 = qs'.getD n.toNat 0) : verseQ w qs v = verseQ w qs' v := by
  unfold verseQ
  congr 1
  exact List.map_congr_left fun x hx => item_congr fun n e => h n (by rw [← e]; exact hx)
theorem verses_congr {w : Str} {qs qs' : List Rat} {r : List (List Itm)} (h : ∀ v ∈ r, ∀ n, .ref n ∈ v → qs.getD n.toNat 0 = qs'.getD n.toNat 0) : r.map (verseQ w qs) = r.map (verseQ w qs') :=
  List.map_congr_left fun v hv => verse_congr (h v hv)
theorem rate_congr {w : Str} {qs qs' : List Rat} {r : List (List Itm)} (h : ∀ v ∈ r, ∀ n, .ref n ∈ v → qs.getD n.toNat 0 = qs'.getD n.toNat 0) : rateQ w qs r = rateQ w qs' r := by
  unfold rateQ
  rw [verses_congr h]
/-- the rates and the offsets, each from the rates -/
structure CertOk (B : Bk) (w : Str) (c : Ct) (from_ : Nat) : Prop where
  rate : ∀ (k : Nat) r, from_ ≤ k → B[k]? = some r → c.1[k]? = some (rateQ w c.1 r)
  row : ∀ (k : Nat) r, from_ ≤ k → B[k]? = some r → c.2[k]? = some (rowQ (rateQ w c.1 r) (r.map (verseQ w c.1)))
theorem getD_set_ne {qs : List Rat} {k m : Nat} {x : Rat} (h : k ≠ m) : (qs.set k x).getD m 0 = qs.getD m 0 := by
  rw [List.getD_eq_getElem?_getD, List.getD_eq_getElem?_getD, List.getElem?_set_ne h]
theorem cert_ok {B : Bk} (hB : BkOk B) (w : Str) : ∀ j, j ≤ B.length → CertOk B w (certK B w j) (B.length - j)
  | 0, _ => ⟨fun k r hk hr => by have := at_lt hr; omega, fun k r hk hr => by have := at_lt hr; omega⟩
  | j + 1, hj => by
    have ih := cert_ok hB w j (by omega)
    have hs := certK_succ (B := B) (w := w) (j := j)
    obtain ⟨l1, l2⟩ := certK_len (B := B) (w := w) j
    have hk' : B.length - (j + 1) = B.length - 1 - j := by omega
    -- the refrain of this step
    obtain ⟨r0, hr0⟩ : ∃ r0, B[B.length - 1 - j]? = some r0 := ⟨_, List.getElem?_eq_getElem (by omega)⟩
    have hg0 : B.getD (B.length - 1 - j) [] = r0 := by rw [List.getD_eq_getElem?_getD, hr0]; rfl
    unfold stepC at hs
    rw [hg0] at hs
    have cg : ∀ (k : Nat) r, B.length - 1 - j ≤ k → B[k]? = some r → ∀ v ∈ r, ∀ n, Itm.ref n ∈ v → (certK B w j).1.getD n.toNat 0 = (certK B w (j + 1)).1.getD n.toNat 0 := by
      intro k r hk hr v hv n hn
      obtain ⟨h1, h2⟩ := hB.ref hr hv hn
      rw [hs]
      exact (getD_set_ne (by omega)).symm
    refine ⟨fun k r hk hr => ?_, fun k r hk hr => ?_⟩
    · rw [← rate_congr (cg k r (by omega) hr)]
      by_cases e : k = B.length - 1 - j
      · subst e
        rw [hr0] at hr
        cases hr
        rw [hs]
        exact List.getElem?_set_self (by omega)
      · rw [hs]
        show ((certK B w j).1.set _ _)[k]? = _
        rw [List.getElem?_set_ne (fun z => e z.symm)]
        exact ih.rate k r (by omega) hr
    · rw [← rate_congr (cg k r (by omega) hr), ← verses_congr (cg k r (by omega) hr)]
      by_cases e : k = B.length - 1 - j
      · subst e
        rw [hr0] at hr
        cases hr
        rw [hs]
        exact List.getElem?_set_self (by omega)
      · rw [hs]
        show ((certK B w j).2.set _ _)[k]? = _
        rw [List.getElem?_set_ne (fun z => e z.symm)]
        exact ih.row k r (by omega) hr
theorem foldl_add (qs : List Rat) : ∀ z : Rat, qs.foldl (· + ·) z = z + sumQ qs := by
  induction qs with
  | nil => intro z; show z = z + 0; rw [Rat.add_zero]
  | cons q qs ih =>
    intro z
    show qs.foldl (· + ·) (z + q) = z + qs.foldl (· + ·) (0 + q)
    rw [ih, ih, Rat.zero_add, Rat.add_assoc]
theorem sumQ_cons (q : Rat) (qs : List Rat) : sumQ (q :: qs) = q + sumQ qs := by
  show qs.foldl (· + ·) (0 + q) = _
  rw [foldl_add, Rat.zero_add]
theorem sumQ_append (a b : List Rat) : sumQ (a ++ b) = sumQ a + sumQ b := by
  unfold sumQ
  rw [List.foldl_append, foldl_add]; rfl
theorem sumQ_sub (c : Rat) : ∀ qs : List Rat, sumQ (qs.map fun s => s - c) = sumQ qs - (qs.length : Rat) * c
  | [] => by
    show (0 : Rat) = 0 - ((0 : Nat) : Rat) * c
    have e : ((0 : Nat) : Rat) = 0 := rfl
    rw [e]
    grind
  | q :: qs => by
    rw [List.map_cons, sumQ_cons, sumQ_cons, sumQ_sub c qs, List.length_cons]
    have : (((qs.length + 1 : Nat)) : Rat) = (qs.length : Rat) + 1 := by rw [Rat.natCast_add]; rfl
    rw [this]
    grind
theorem off_succ {rt s : Rat} {ss : List Rat} {i : Nat} (hs : ss[i]? = some s) : offQ rt ss (i + 1) = offQ rt ss i + (s - rt) := by
  unfold offQ
  rw [take_succ hs, List.map_append, sumQ_append]
  show _ + sumQ [s - rt] = _
  rw [sumQ_cons]
  show _ + (s - rt + 0) = _
  rw [Rat.add_zero]
theorem off_zero {rt : Rat} {ss : List Rat} : offQ rt ss 0 = 0 := rfl
/-- around the circle -/
theorem off_round {w : Str} {qs : List Rat} {r : List (List Itm)} (hr : 1 ≤ r.length) : offQ (rateQ w qs r) (r.map (verseQ w qs)) r.length = 0 := by
  have e : (r.map (verseQ w qs)).take r.length = r.map (verseQ w qs) := List.take_of_length_le (by rw [List.length_map]; exact Nat.le_refl _)
  unfold offQ
  rw [e, sumQ_sub, List.length_map]
  unfold rateQ
  have h0 : (r.length : Rat) ≠ 0 := by
    intro z
    have : r.length = 0 := by exact_mod_cast z
    omega
  grind
theorem off_step {w : Str} {qs : List Rat} {r : List (List Itm)} {j : Nat} {v : List Itm} (hv : r[j]? = some v) :
    offQ (rateQ w qs r) (r.map (verseQ w qs)) ((j + 1) % r.length) = offQ (rateQ w qs r) (r.map (verseQ w qs)) j + (verseQ w qs v - rateQ w qs r) := by
  have hj := at_lt hv
  have hs : (r.map (verseQ w qs))[j]? = some (verseQ w qs v) := by rw [List.getElem?_map, hv]; rfl
  rw [← off_succ hs]
  by_cases e : j + 1 = r.length
  · rw [e, Nat.mod_self, off_zero, off_round (by omega)]
  · rw [Nat.mod_eq_of_lt (by omega)]
end K20
set_option Elab.async false
set_option linter.all false
set_option maxRecDepth 100000
set_option maxHeartbeats 2000000
set_option exponentiation.threshold 5000
namespace K20
open PySem PySem.Spec D3
structure CertFull (B : Bk) (w : Str) (c : Ct) : Prop where
  l1 : c.1.length = B.length
  l2 : c.2.length = B.length
  rate : ∀ (k : Nat) r, B[k]? = some r → c.1[k]? = some (rateQ w c.1 r)
  row : ∀ (k : Nat) r, B[k]? = some r → c.2[k]? = some (rowQ (rateQ w c.1 r) (r.map (verseQ w c.1)))
  b1 : ∀ q ∈ c.1, Bd (12 ^ 60) (72 ^ 60) q
theorem Bd.up {j : Nat} {q : Rat} (h : Bd (12 ^ j) (72 ^ j) q) (hj : j ≤ 60) : Bd (12 ^ 60) (72 ^ 60) q := by
  have h1 := h.scale (12 ^ (60 - j))
  rw [← Nat.pow_add, Nat.add_sub_cancel' hj] at h1
  refine h1.mono ?_
  have h2 : 12 ^ (60 - j) ≤ 72 ^ (60 - j) := Nat.pow_le_pow_left (by decide) _
  calc 72 ^ j * 12 ^ (60 - j) ≤ 72 ^ j * 72 ^ (60 - j) := Nat.mul_le_mul_left _ h2
    _ = 72 ^ 60 := by rw [← Nat.pow_add, Nat.add_sub_cancel' hj]
theorem cert_full {B : Bk} (hB : BkOk B) (w : Str) : CertFull B w (certK B w B.length) := by
  obtain ⟨h1, h2⟩ := certK_len (B := B) (w := w) B.length
  have h3 := cert_ok hB w B.length (Nat.le_refl _)
  rw [Nat.sub_self] at h3
  exact ⟨h1, h2, fun k r hr => h3.rate k r (Nat.zero_le _) hr, fun k r hr => h3.row k r (Nat.zero_le _) hr, fun q hq => (cert_bd hB B.length q hq).up hB.le⟩
end K20
set_option Elab.async false
set_option linter.all false
set_option maxRecDepth 100000
set_option maxHeartbeats 2000000
set_option exponentiation.threshold 5000
namespace K11
open PySem PySem.Spec D3 K20
theorem denL_ints {f : Nat → Option PyData} : ∀ ns : List Int, denL f (ns.map Dv.int) = some (ns.map PyData.int)
  | [] => by simp [denL]
  | n :: ns => by
    rw [List.map_cons, denL, denL_ints ns]
    rfl
theorem shaped_ints (ns : List Int) : SeqAt.shaped (.list (ns.map PyData.int)) = true := by
  have h1 : ∀ ns : List Int, PyData.canLayAll0 (ns.map PyData.int) = true := fun ns => by
    induction ns with
    | nil => simp [PyData.canLayAll0]
    | cons n ns ih => simp [PyData.canLayAll0, PyData.canLay0, ih]
  have h2 : ∀ ns : List Int, PyData.depthAll (ns.map PyData.int) ≤ 1 := fun ns => by
    induction ns with
    | nil => simp [PyData.depthAll]
    | cons n ns ih => simp [PyData.depthAll, PyData.depth]; omega
  have h3 := h2 ns
  simp [SeqAt.shaped, PyData.canLay0, PyData.depth, h1 ns]
  omega
theorem fO_ints {S : Store} {b : Nat} {ns : List Int} (h : getL S b = some (ns.map Dv.int)) : den (fO S 4) (.obj b) = some (.list (ns.map PyData.int)) := by
  show fO S 4 b = _
  rw [fO, h]
  show (denL (fO S 3) (ns.map Dv.int)).map PyData.list = _
  rw [denL_ints]; rfl
theorem eqv_nil (ns : List Int) : PyData.eqv (.list (ns.map PyData.int)) (.list []) = decide (ns = []) := by
  cases ns <;> simp [PyData.eqv, PyData.eqvAll]
theorem dEq_nil {S : Store} {b c : Nat} {ns : List Int} {Q : KD} (hb : getL S b = some (ns.map Dv.int)) (hc : getL S c = some []) (h : Q (.bl (decide (ns = []))) S) : dEq (.obj b) (.obj c) S Q := by
  refine ⟨_, _, fO_ints hb, fO_ints (ns := []) hc, shaped_ints ns, shaped_ints [], ?_⟩
  rw [List.map_nil, eqv_nil]
  exact h
def Bx (a b : Nat) (S : Store) : Prop := ∃ (z : Int) (ns : List Int), S[a]? = some (.lst [.obj b, .int z]) ∧ S[b]? = some (.lst (ns.map Dv.int))
theorem Bx.ne {a b : Nat} {S : Store} (h : Bx a b S) : a ≠ b := by
  rintro rfl
  obtain ⟨z, ns, h1, h2⟩ := h
  rw [h1] at h2
  cases ns with
  | nil => cases h2
  | cons x xs => cases h2
theorem Bx.app {a b : Nat} {S T : Store} (h : Bx a b S) : Bx a b (S ++ T) := by
  obtain ⟨z, ns, h1, h2⟩ := h
  exact ⟨z, ns, get_old h1, get_old h2⟩
theorem Bx.lt {a b : Nat} {S : Store} (h : Bx a b S) : a < S.length ∧ b < S.length := by
  obtain ⟨z, ns, h1, h2⟩ := h
  exact ⟨at_lt h1, at_lt h2⟩
structure Bup (a b : Nat) (S S' : Store) : Prop where
  len : S'.length = S.length
  bx : Bx a b S'
  oth : ∀ i, i ≠ a → i ≠ b → S'[i]? = S[i]?
theorem Bup.trans {a b : Nat} {S S1 S2 : Store} (h : Bup a b S S1) (h' : Bup a b S1 S2) : Bup a b S S2 := ⟨h'.len.trans h.len, h'.bx, fun i x y => (h'.oth i x y).trans (h.oth i x y)⟩
theorem Bup.refl {a b : Nat} {S : Store} (h : Bx a b S) : Bup a b S S := ⟨rfl, h, fun _ _ _ => rfl⟩
theorem bup_app {a b : Nat} {S1 T S2 : Store} (hs : Bx a b S1) (h : Bup a b (S1 ++ T) S2) : ∃ S1', S2 = S1' ++ T ∧ Bup a b S1 S1' := by
  obtain ⟨la, lb⟩ := hs.lt
  have hl : S2.length = S1.length + T.length := by rw [h.len, List.length_append]
  have e : S2 = S2.take S1.length ++ T := by
    refine List.ext_getElem? fun i => ?_
    by_cases hi : i < S1.length
    · rw [List.getElem?_append_left (by rw [List.length_take]; omega), List.getElem?_take_of_lt hi]
    · rw [List.getElem?_append_right (by rw [List.length_take]; omega), List.length_take, Nat.min_eq_left (by omega), h.oth i (by omega) (by omega), List.getElem?_append_right (by omega)]
  refine ⟨_, e, by rw [List.length_take]; omega, ?_, fun i h1 h2 => ?_⟩
  · obtain ⟨z, ns, h1, h2⟩ := h.bx
    exact ⟨z, ns, by rw [List.getElem?_take_of_lt la]; exact h1, by rw [List.getElem?_take_of_lt lb]; exact h2⟩
  · by_cases hi : i < S1.length
    · rw [List.getElem?_take_of_lt hi, h.oth i h1 h2, List.getElem?_append_left hi]
    · rw [List.getElem?_eq_none (by rw [List.length_take]; omega), List.getElem?_eq_none (by omega)]
theorem stclo_bup {a b : Nat} {S S' : Store} (hc : StClo S) (h : Bup a b S S') : StClo S' := by
  intro m hm
  obtain ⟨i, hi⟩ := List.getElem?_of_mem hm
  rw [h.len]
  obtain ⟨z, ns, h1, h2⟩ := h.bx
  by_cases e1 : i = a
  · subst e1
    rw [h1] at hi
    cases hi
    have hb := at_lt h2
    rw [h.len] at hb
    show (decide (b < S.length) && (true && true)) = true
    rw [decide_eq_true hb]; rfl
  · by_cases e2 : i = b
    · subst e2
      rw [h2] at hi
      cases hi
      exact cloL_ints
    · rw [h.oth i e1 e2] at hi
      exact hc m (List.mem_of_getElem? hi)
theorem gc_bup {a b : Nat} {S S' T : Store} {Q : KD} {d : Dv} (hc : StClo S) (hu : Bup a b S S') (hd : d.clo S.length = true) (h : Q d S') : Gc S.length Q d (S' ++ T) := by
  have := gc_drop (T := T) h (by rw [hu.len]; exact hd) (stclo_bup hc hu)
  rwa [hu.len] at this
def spBegun : Spd := fun ds S Q E => ∃ (x : Dv) (ns : List Int), ds = [x] ∧ seqOf S x = some (ns.map Dv.int) ∧ ns.length ≤ 63 ∧ ∀ z, Q (.obj (S.length + 1)) (S ++ [.lst (ns.map Dv.int), .lst [.obj S.length, .int z]])
theorem r_begun : ∀ ds S Qd Ed, spBegun ds S Qd Ed → StClo S → t_Lbegun (WEx S.length Ed) { nx := fun _ S' => Gc S.length Qd .non S', rt := Gc S.length Qd } (startD 3 ds) S := by
  rintro _ S Qd Ed ⟨x, ns, rfl, hx, hl, h⟩ hc
  unfold t_Lbegun
  dsimp! only []
  refine sFor_inv (S1 := S) (jSeq x (ns.map Dv.int)) (fun i σ S' => S' = S ∧ ∃ m o, σ = [some x, some (.int m), o]) (hw_seq (fun R hR => ?_) hx) ⟨rfl, _, _, rfl⟩ (fun i σ S' _ hP => by rw [hP.1]; exact hx) ?_ ?_
  · dsimp! only []
    exact hR
  · rintro i d σ S' hd ⟨rfl, m, o, rfl⟩ K hK
    obtain ⟨z, hz, rfl⟩ := jSeq_get hd
    dsimp! only []
    exact ⟨.inl (.inr ⟨by decide, by decide⟩), .inl (.inr ⟨by decide, by decide⟩), by decide, hK _ _ (.inl ⟨rfl, _, _, rfl⟩)⟩
  · rintro σ S' ⟨rfl, m, o, rfl⟩
    have hdl : ∀ Q : KD, Q (.obj S'.length) (S' ++ [.lst (ns.map Dv.int)]) → dList [x] S' Q := fun Q q => ⟨_, hx, q⟩
    have hln : ∀ (T : Store) (Q : KD), Q (.int ns.length) (S' ++ T) → dLen [x] (S' ++ T) Q := fun T Q q => by
      have hx' : seqOf (S' ++ T) x = some (ns.map Dv.int) := by
        cases x <;> first | exact hx | exact getL_old hx | cases hx
      cases x <;> first | (cases hx'; done) | skip
      all_goals (show ∃ _, _; refine ⟨_, hx', ?_⟩; rw [List.length_map]; exact q)
    simp only [sSeq, sAsg, sNext, sBreak, sCont, sDrop, sRet, sRetN, sIf, sPar, sPar3, sAug, sNever, D3.sFld, D3.sFldAug, sAugS, gNm, gsNil, gsCons, gUnp, gSb, eVar, eC, eOp, eUn, eChain, eAnd, eOr, eNot, eIf, eTup, eLst, eArgs, eSl, eBM, aNil, aCons, cVal, cAnd, cOr, cNot, cYes, oNo, oSome, eFld, eMake, eMeth, eCall, eKNew, eKGet1, eKGet2, eDisp, tPairsD, dAdd, dSub, dMul, dDiv, dMod, dPow, dNeg, dCmpI, dIs, dIsNot, isNon, dEq, dNe, sEq, dIx, dSlice, dInt, b2i', dAbs, dMax, dMin, dSum, dAll, dAny, dOrd, dStrI, dIsi, tyOf, isB, isTy, String.reduceBEq, Bool.or_true, Bool.true_or, Bool.or_false, Bool.false_or, Bool.and_true, Bool.and_false, Bool.false_and, Bool.true_and, dAppend, dPop, dExtend, dSetL, dGetL, dAddA, dSubA, dMulA, dKGet, dKSet, tyD, Tg.rd, setsD, wipeD, startD, List.map_cons, List.map_nil, List.length_cons, List.length_nil, List.replicate, List.cons_append, List.nil_append, List.getElem?_cons_zero, List.getElem?_cons_succ, List.set_cons_zero, List.set_cons_succ, Option.some.injEq, exists_eq_left', exists_eq_left, Dv.int.injEq, Dv.bl.injEq, Dv.str.injEq, Dv.tup.injEq, Dv.obj.injEq, Mo.dk.injEq, Mo.lst.injEq, Mo.ldk.injEq, Mo.ins.injEq, exists_eq', exists_eq, List.cons.injEq, and_true, true_and, true_or, or_true, eq_self, decide_true, decide_false, cast2, and_assoc, exists_and_left, exists_and_right, exists_const, exists_eq_right, exists_eq_right_right, Nat.reduceAdd, Nat.reduceSub, Nat.zero_add, List.length_append, st_get0, st_getk, st_set0, st_setk, st_getL0, st_getLk, getL_c0, getL_cs, line0, line1, line2, line3, flatten1, Int.toNat_natCast, Nat.one_mul, List.append_assoc, List.append_nil, Nat.reduceLeDiff, ite_true, ite_false, if_true, if_false, Bool.false_eq_true, Bool.not_true, Bool.not_false, Bool.not_eq_true, and_self, false_and, and_false]
    refine hdl _ ?_
    refine hln _ _ ?_
    dsimp! only []
    refine ⟨.inl (.inr (by split <;> exact ⟨by decide, by decide⟩)), .inl (h _)⟩
def spTake : Spd := fun ds S Q E => ∃ (a b : Nat) (lim : Int), ds = [.obj a, .int lim] ∧ Bx a b S ∧ 0 < lim ∧ lim < 100000000 ∧ ∀ r S', 0 ≤ r → r < lim → Bup a b S S' → Q (.int r) S'
theorem r_take : ∀ ds S Qd Ed, spTake ds S Qd Ed → StClo S → t_Ltake (WEx S.length Ed) { nx := fun _ S' => Gc S.length Qd .non S', rt := Gc S.length Qd } (startD 3 ds) S := by
  rintro _ S Qd Ed ⟨a, b, lim, rfl, hh, hl0, hl1, h⟩ hc
  have hab := hh.ne
  obtain ⟨z, ns, ha, hb⟩ := hh
  have hla := at_lt ha
  have hlb := at_lt hb
  have ga : getL S a = some [.obj b, .int z] := getL_iff.mpr ha
  have gb : getL S b = some (ns.map Dv.int) := getL_iff.mpr hb
  have hlim : ∀ i, DivOk i lim := fun i => .inl ⟨hl0, by omega⟩
  unfold t_Ltake
  refine seqI (ifI ?_)
  simp! only [ga, at0]
  refine dEq_nil (getL_old gb) getL_at ?_
  by_cases e : ns = []
  · subst e
    have gset : ∀ (S0 T : Store) (xs : List Dv), a < S0.length → getL (S0.set a (.lst xs) ++ T) a = some xs := fun S0 T xs h => getL_old (getL_iff.mpr (List.getElem?_set_self h))
    have i21 : L2.ixN 2 (1 : Int) = some 1 := rfl
    dsimp! only [getL_old ga, at0, at1]
    refine ⟨.inl (.inr ⟨by decide, by decide⟩), by decide, 1, i21, ?_⟩
    rw [List.set_append_left _ _ hla]
    refine ⟨_, gset S _ _ hla, _, at1, ?_⟩
    refine ⟨.inl ⟨by decide, by decide⟩, hl0, ?_⟩
    have hu : Bup a b S (S.set a (.lst [.obj b, .int (z * 48271 % 2147483647)])) := ⟨List.length_set, ⟨_, [], List.getElem?_set_self hla, by rw [List.getElem?_set_ne hab]; exact hb⟩, fun i h1 h2 => List.getElem?_set_ne (fun q => h1 q.symm)⟩
    exact gc_bup hc hu rfl (h _ _ (Int.emod_nonneg _ (by omega)) (Int.emod_lt_of_pos _ hl0) hu)
  · obtain ⟨f, rest, rfl⟩ : ∃ f rest, ns = f :: rest := by
      cases ns with
      | nil => exact (e rfl).elim
      | cons f rest => exact ⟨f, rest, rfl⟩
    have gset : ∀ (S0 T : Store) (xs : List Dv), b < S0.length → getL (S0.set b (.lst xs) ++ T) b = some xs := fun S0 T xs h => getL_old (getL_iff.mpr (List.getElem?_set_self h))
    have gsea : ∀ (T : Store) (xs : List Dv), getL (S.set b (.lst xs) ++ T) a = some [.obj b, .int z] := fun T xs => getL_old (getL_iff.mpr (by rw [List.getElem?_set_ne (fun q => hab q.symm)]; exact ha))
    have ixs : ∀ n : Nat, L2.ixN (n + 1) (0 : Int) = some 0 := fun n => ixN_nat (k := 0) (by omega)
    have hmap : (f :: rest).map Dv.int = .int f :: rest.map Dv.int := rfl
    have r0 := Int.emod_nonneg f (Int.ne_of_gt hl0)
    have r1 := Int.emod_lt_of_pos f hl0
    simp! only [e]
    refine seqI ?_
    simp! only [getL_old ga, getL_old gb, at0, at1, List.length_map, ixs, hmap]
    refine seqI ?_
    simp! only [getL_old ga, getL_old gb, at0, at1, List.length_map, ixs, hmap]
    refine ⟨hlim f, ?_⟩
    rw [List.set_append_left _ _ hlb]
    refine seqI (ifI ?_)
    have hu1 : Bup a b S (S.set b (.lst ((f / lim :: rest).map Dv.int))) := ⟨List.length_set, ⟨z, f / lim :: rest, by rw [List.getElem?_set_ne (fun q => hab q.symm)]; exact ha, List.getElem?_set_self hlb⟩, fun i h1 h2 => List.getElem?_set_ne (fun q => h2 q.symm)⟩
    have hu2 : Bup a b S (S.set b (.lst (rest.map Dv.int))) := ⟨List.length_set, ⟨z, rest, by rw [List.getElem?_set_ne (fun q => hab q.symm)]; exact ha, List.getElem?_set_self hlb⟩, fun i h1 h2 => List.getElem?_set_ne (fun q => h2 q.symm)⟩
    have hsb : ∀ T, (S.set b (.lst (.int (f / lim) :: rest.map Dv.int)) ++ T)[b]? = some (.lst (.int (f / lim) :: rest.map Dv.int)) := fun T => get_old (List.getElem?_set_self hlb)
    have hpop : ∀ T, (S.set b (.lst (.int (f / lim) :: rest.map Dv.int)) ++ T).set b (.lst (rest.map Dv.int)) = S.set b (.lst (rest.map Dv.int)) ++ T := fun T => by
      rw [List.set_append_left _ _ (by rw [List.length_set]; exact hlb), List.set_set]
    have hq : seqIndex? 0 (rest.length + 1) = some 0 := by unfold seqIndex?; simp
    have hend : Gc S.length Qd (.int (f % lim)) (S.set b (.lst (rest.map Dv.int)) ++ [.lst []]) := gc_bup hc hu2 rfl (h _ _ r0 r1 hu2)
    have hend1 : Gc S.length Qd (.int (f % lim)) (S.set b (.lst (.int (f / lim) :: rest.map Dv.int)) ++ [.lst []]) := gc_bup hc hu1 rfl (h _ _ r0 r1 hu1)
    by_cases c0 : f / lim = 0
    · simp only [c0] at gset hpop hsb
      dsimp! only [gsea, gset S _ _ hlb, at0, at1, c0, hsb, List.length_map, hq, hpop]
      refine ⟨by decide, by decide, hl0, ?_⟩
      rw [List.eraseIdx_cons_zero, hpop]
      exact hend
    · by_cases c1 : f / lim = -1
      · simp only [c1] at gset hpop hsb
        have m1 : ¬ (-1 : Int) = 0 := by decide
        dsimp! only [gsea, gset S _ _ hlb, at0, at1, c0, c1, m1, hsb, List.length_map, hq, hpop]
        refine ⟨by decide, by decide, hl0, ?_⟩
        rw [List.eraseIdx_cons_zero, hpop]
        exact hend
      · dsimp! only [gsea, gset S _ _ hlb, at0, at1, c0, c1, hsb, List.length_map, hq, hpop]
        exact ⟨hl0, hend1⟩
end K11
set_option Elab.async false
set_option linter.all false
set_option maxRecDepth 100000
set_option maxHeartbeats 2000000
set_option exponentiation.threshold 5000
namespace K11
open PySem PySem.Spec D3 K20
def spTurns : Spd := fun ds S Q E => ∃ (a b : Nat) (B : Bk), ds = [.obj a, bkD B] ∧ Bx a b S ∧ BkOk B ∧ ∀ ts S', turnsOk B ts = true → Bup a b S S' → Q (tsD ts) S'
theorem r_turns : ∀ ds S Qd Ed, spTurns ds S Qd Ed → StClo S → t_Lturns spTake (WEx S.length Ed) { nx := fun _ S' => Gc S.length Qd .non S', rt := Gc S.length Qd } (startD 3 ds) S := by
  rintro _ S Qd Ed ⟨a, b, B, rfl, hh, hB, h⟩ hc
  have hsm := hB.le
  unfold t_Lturns
  simp only [sAsg, sNext, sBreak, sCont, sDrop, sRet, sRetN, sPar, sPar3, sAug, sNever, D3.sFld, D3.sFldAug, sAugS, gNm, gsNil, gsCons, gUnp, gSb, eVar, eC, eOp, eUn, eChain, eAnd, eOr, eNot, eIf, eTup, eLst, eArgs, eSl, eBM, aNil, aCons, cVal, cAnd, cOr, cNot, cYes, oNo, oSome, eFld, eMake, eMeth, eCall, eKNew, eKGet1, eKGet2, eDisp, tPairsD, dAdd, dSub, dMul, dDiv, dMod, dPow, dNeg, dCmpI, dIs, dIsNot, isNon, dEq, dNe, sEq, dIx, dSlice, dLen, dInt, b2i', dAbs, dMax, dMin, dSum, dAll, dAny, dOrd, dStrI, dIsi, tyOf, isB, isTy, String.reduceBEq, Bool.or_true, Bool.true_or, Bool.or_false, Bool.false_or, Bool.and_true, Bool.and_false, Bool.false_and, Bool.true_and, dAppend, dPop, dExtend, dSetL, dGetL, dAddA, dSubA, dMulA, dKGet, dKSet, seqOf, tyD, Tg.rd, setsD, wipeD, startD, List.map_cons, List.map_nil, List.length_cons, List.length_nil, List.replicate, List.cons_append, List.nil_append, List.getElem?_cons_zero, List.getElem?_cons_succ, List.set_cons_zero, List.set_cons_succ, Option.some.injEq, exists_eq_left', exists_eq_left, Dv.int.injEq, Dv.bl.injEq, Dv.str.injEq, Dv.tup.injEq, Dv.obj.injEq, Mo.dk.injEq, Mo.lst.injEq, Mo.ldk.injEq, Mo.ins.injEq, exists_eq', exists_eq, List.cons.injEq, and_true, true_and, true_or, or_true, eq_self, decide_true, decide_false, cast2, and_assoc, exists_and_left, exists_and_right, exists_const, exists_eq_right, exists_eq_right_right, Nat.reduceAdd, Nat.reduceSub, Nat.zero_add, List.length_append, st_get0, st_getk, st_set0, st_setk, st_getL0, st_getLk, getL_c0, getL_cs, line0, line1, line2, line3, flatten1, Int.toNat_natCast, Nat.one_mul, List.append_assoc, List.append_nil, Nat.reduceLeDiff, ite_true, ite_false, if_true, if_false, Bool.false_eq_true, Bool.not_true, Bool.not_false, Bool.not_eq_true, and_self, false_and, and_false]
  refine eLc_inv (S1 := S) (jSeq (bkD B) (B.map rfD)) (fun i acc S' => ∃ ts : List Int, Bup a b S S' ∧ acc = ts.map Dv.int ∧ ts.length = i ∧ ∀ (k : Nat) t r, ts[k]? = some t → B[k]? = some r → 0 ≤ t ∧ t < r.length) (hw_seq (fun R hR => ?_) rfl) ⟨[], .refl hh, rfl, rfl, fun k t r e => by simp at e⟩ ?_ ?_ ?_
  · dsimp! only []
    exact hR
  · rintro i acc S' hi' ⟨ts, hu, rfl, rfl, _⟩
    rw [jSeq_len] at hi'
    exact ⟨rfl, by rw [List.length_map]; exact small_line (by omega)⟩
  · rintro i' d acc S' hd ⟨ts, hu, rfl, rfl, hts⟩ K1 K0 hK1 hK0
    obtain ⟨r', hr', rfl⟩ := jSeq_get hd
    have hrow := hB.row hr'
    dsimp! only [rfD, List.length_map]
    refine ⟨a, b, r'.length, rfl, hu.bx, by omega, by omega, fun t S'' t0 t1 hu' => hK1 _ _ (.inl ⟨ts ++ [t], hu.trans hu', by rw [List.map_append]; rfl, by rw [List.length_append]; rfl, fun k t' r'' e1 e2 => ?_⟩)⟩
    by_cases z : k < ts.length
    · rw [List.getElem?_append_left z] at e1
      exact hts k t' r'' e1 e2
    · have hk : k = ts.length := by have := at_lt e1; rw [List.length_append] at this; simp at this; omega
      subst hk
      rw [List.getElem?_append_right (Nat.le_refl _), Nat.sub_self] at e1
      cases e1
      rw [hr'] at e2
      cases e2
      exact ⟨t0, t1⟩
  rintro acc S4 ⟨ts, hu4, rfl, htl, hts⟩
  rw [jSeq_len] at htl
  have hT : turnsOk B ts = true := by
    unfold turnsOk
    simp only [Bool.and_eq_true, decide_eq_true_eq]
    refine ⟨htl, List.all_eq_true.mpr ?_⟩
    rintro ⟨t, r'⟩ hp
    obtain ⟨k, hk⟩ := List.getElem?_of_mem hp
    obtain ⟨k1, k2⟩ := List.getElem?_zip_eq_some.mp hk
    have := hts k t r' k1 k2
    simp [this.1, this.2]
  refine ⟨_, getL_at, ?_⟩
  exact gc_bup hc hu4 (tsD_clo ts _) (h ts S4 hT hu4)
end K11
set_option Elab.async false
set_option linter.all false
set_option maxRecDepth 100000
set_option maxHeartbeats 2000000
set_option exponentiation.threshold 5000
namespace K11
open PySem PySem.Spec D3 K20
inductive Rch (B : Bk) : Int → Prop
  | root : Rch B 0
  | step {k n : Int} {r : List (List Itm)} {v : List Itm} : Rch B k → B[k.toNat]? = some r → v ∈ r → Itm.ref n ∈ v → Rch B n
def refI : Itm → Option Int
  | .ref n => some n
  | .wd _ => none
def refsOf (v : List Itm) : List Int := v.filterMap refI
theorem mem_refs {v : List Itm} {n : Int} : n ∈ refsOf v ↔ Itm.ref n ∈ v := by
  unfold refsOf
  rw [List.mem_filterMap]
  constructor
  · rintro ⟨x, hx, e⟩
    cases x with
    | ref m => cases e; exact hx
    | wd y => cases e
  · intro h
    exact ⟨_, h, rfl⟩
theorem refs_len (v : List Itm) : (refsOf v).length ≤ v.length := List.length_filterMap_le _ _
theorem filter_less {α : Type} {p q : α → Bool} (h : ∀ x, q x = true → p x = true) : ∀ (l : List α), (l.filter q).length ≤ (l.filter p).length
  | [] => Nat.le_refl _
  | x :: l => by
    have ih := filter_less h l
    by_cases c : q x = true
    · rw [List.filter_cons_of_pos c, List.filter_cons_of_pos (h x c), List.length_cons, List.length_cons]; omega
    · rw [List.filter_cons_of_neg c]
      by_cases d : p x = true
      · rw [List.filter_cons_of_pos d, List.length_cons]; omega
      · rw [List.filter_cons_of_neg d]; exact ih
theorem filter_lt {α : Type} {p q : α → Bool} (h : ∀ x, q x = true → p x = true) {y : α} (hp : p y = true) (hq : q y = false) : ∀ (l : List α), y ∈ l → (l.filter q).length < (l.filter p).length
  | [], m => by cases m
  | x :: l, m => by
    have ih0 := filter_less h l
    by_cases e : x = y
    · subst e
      rw [List.filter_cons_of_neg (by rw [hq]; exact Bool.false_ne_true), List.filter_cons_of_pos hp, List.length_cons]; omega
    · have ih := filter_lt h hp hq l (by
        rcases List.mem_cons.mp m with z | z
        · exact (e z.symm).elim
        · exact z)
      by_cases c : q x = true
      · rw [List.filter_cons_of_pos c, List.filter_cons_of_pos (h x c), List.length_cons, List.length_cons]; omega
      · rw [List.filter_cons_of_neg c]
        by_cases d : p x = true
        · rw [List.filter_cons_of_pos d, List.length_cons]; omega
        · rw [List.filter_cons_of_neg d]; exact ih
/-- how many refrains are not yet found -/
def missN (N : Nat) (f : List Int) : Nat := ((List.range N).filter fun j : Nat => decide ((j : Int) ∉ f)).length
theorem missN_add {N : Nat} {f : List Int} {k : Int} (h0 : 0 ≤ k) (h1 : k < N) (hk : k ∉ f) : missN N (f ++ [k]) < missN N f := by
  unfold missN
  refine filter_lt (y := k.toNat) (fun x hx => ?_) ?_ ?_ _ ?_
  · simp only [decide_eq_true_eq, List.mem_append, List.mem_singleton, not_or] at hx ⊢
    exact hx.1
  · have e : ((k.toNat : Nat) : Int) = k := by omega
    rw [e]; exact decide_eq_true hk
  · have e : ((k.toNat : Nat) : Int) = k := by omega
    rw [e]; exact decide_eq_false (by simp)
  · rw [List.mem_range]; omega
/-- what the search has found and what waits -/
structure Sr (B : Bk) (f p : List Int) : Prop where
  rch : ∀ x, x ∈ f ∨ x ∈ p → Rch B x
  root : 0 ∈ f ∨ 0 ∈ p
  nd : f.Nodup
  cnt : f.length + missN B.length f ≤ B.length
  plen : p.length ≤ 1 + 24 * f.length
  clo : ∀ k ∈ f, ∀ r, B[k.toNat]? = some r → ∀ v ∈ r, ∀ n, Itm.ref n ∈ v → n ∈ f ∨ n ∈ p
theorem rch_in {B : Bk} (hB : BkOk B) {x : Int} (h : Rch B x) : 0 ≤ x ∧ x < B.length := by
  induction h with
  | root => exact ⟨Int.le_refl _, by have := hB.pos; omega⟩
  | step h1 h2 h3 h4 ih =>
    have := hB.ref h2 h3 h4
    omega
theorem Sr.init {B : Bk} : Sr B [] [0] := by
  refine ⟨fun x h => ?_, .inr (by simp), List.nodup_nil, ?_, by simp, fun k h => by cases h⟩
  · rcases h with h | h
    · cases h
    · rw [List.mem_singleton.mp h]; exact .root
  · unfold missN
    have := List.length_filter_le (fun j : Nat => decide ((j : Int) ∉ ([] : List Int))) (List.range B.length)
    rw [List.length_range] at this
    simpa using this
theorem refs_flat {B : Bk} (hB : BkOk B) {k : Nat} {r : List (List Itm)} (hr : B[k]? = some r) : (r.flatMap refsOf).length ≤ 24 := by
  have hrow := hB.row hr
  have : (r.flatMap refsOf).length ≤ 6 * r.length := by
    have hv6 : ∀ v ∈ r, v.length ≤ 6 := fun v hv => (hB.verse hr hv).2.1
    clear hr hrow
    induction r with
    | nil => simp
    | cons v r ih =>
      rw [List.flatMap_cons, List.length_append, List.length_cons]
      have h1 := ih fun v hv => hv6 v (List.mem_cons_of_mem _ hv)
      have h2 := hv6 v List.mem_cons_self
      have h3 := refs_len v
      omega
  omega
theorem Sr.add {B : Bk} (hB : BkOk B) {f p : List Int} {k : Int} {r : List (List Itm)} (s : Sr B f (p ++ [k])) (h : k ∉ f) (hr : B[k.toNat]? = some r) : Sr B (f ++ [k]) (p ++ r.flatMap refsOf) ∧ missN B.length (f ++ [k]) < missN B.length f := by
  have hk : Rch B k := s.rch k (.inr (by simp))
  obtain ⟨k0, k1⟩ := rch_in hB hk
  have hm := missN_add k0 k1 h
  refine ⟨⟨fun x hx => ?_, ?_, ?_, ?_, ?_, ?_⟩, hm⟩
  · rcases hx with z | z
    · rcases List.mem_append.mp z with z | z
      · exact s.rch x (.inl z)
      · rw [List.mem_singleton.mp z]; exact hk
    · rcases List.mem_append.mp z with z | z
      · exact s.rch x (.inr (List.mem_append.mpr (.inl z)))
      · obtain ⟨v, hv, hx⟩ := List.mem_flatMap.mp z
        exact .step hk hr hv (mem_refs.mp hx)
  · rcases s.root with z | z
    · exact .inl (List.mem_append.mpr (.inl z))
    · rcases List.mem_append.mp z with z | z
      · exact .inr (List.mem_append.mpr (.inl z))
      · exact .inl (List.mem_append.mpr (.inr z))
  · rw [List.nodup_append]
    refine ⟨s.nd, by simp, fun a ha b hb => ?_⟩
    rw [List.mem_singleton.mp hb]
    rintro rfl
    exact h ha
  · have := s.cnt
    rw [List.length_append]
    simp only [List.length_singleton]
    omega
  · have hp := s.plen
    rw [List.length_append] at hp ⊢
    rw [List.length_append]
    simp only [List.length_singleton] at hp ⊢
    have := refs_flat hB hr
    omega
  · intro k' hk' r' hr' v hv n hn
    rcases List.mem_append.mp hk' with z | z
    · rcases s.clo k' z r' hr' v hv n hn with y | y
      · exact .inl (List.mem_append.mpr (.inl y))
      · rcases List.mem_append.mp y with y | y
        · exact .inr (List.mem_append.mpr (.inl y))
        · exact .inl (List.mem_append.mpr (.inr y))
    · rw [List.mem_singleton.mp z, hr] at hr'
      cases hr'
      exact .inr (List.mem_append.mpr (.inr (List.mem_flatMap.mpr ⟨v, hv, mem_refs.mpr hn⟩)))
theorem Sr.done {B : Bk} {f : List Int} (s : Sr B f []) (x : Int) : x ∈ f ↔ Rch B x := by
  constructor
  · exact fun h => s.rch x (.inl h)
  · intro h
    induction h with
    | root => exact s.root.elim id fun z => by cases z
    | step h1 h2 h3 h4 ih => exact (s.clo _ ih _ h2 _ h3 _ h4).elim id fun z => by cases z
end K11
set_option Elab.async false
set_option linter.all false
set_option maxRecDepth 100000
set_option maxHeartbeats 2000000
set_option exponentiation.threshold 5000
namespace K11
open PySem PySem.Spec D3 K20
end K11
set_option Elab.async false
set_option linter.all false
set_option maxRecDepth 100000
set_option maxHeartbeats 2000000
set_option exponentiation.threshold 5000
namespace K11
open PySem PySem.Spec D3 K20
end K11
set_option Elab.async false
set_option linter.all false
set_option maxRecDepth 100000
set_option maxHeartbeats 2000000
set_option exponentiation.threshold 5000
namespace K20
open PySem PySem.Spec D3
end K20
set_option Elab.async false
set_option linter.all false
set_option maxRecDepth 100000
set_option maxHeartbeats 2000000
set_option exponentiation.threshold 5000
namespace K20
open PySem PySem.Spec D3
def chg (c : Ct) (ts fs : List Int) : List Rat := (c.2.zip (ts.zip fs)).map fun p => p.1.getD p.2.2.toNat 0 - p.1.getD p.2.1.toNat 0
def countQ (c : Ct) (ts fs : List Int) (s : Int) : Rat := c.1.getD 0 0 * (s : Rat) + sumQ (chg c ts fs)
theorem turnsOk_at {B : Bk} {ts : List Int} (h : turnsOk B ts = true) {k : Nat} {r : List (List Itm)} {t : Int} (hr : B[k]? = some r) (ht : ts[k]? = some t) : 0 ≤ t ∧ t < r.length := by
  unfold turnsOk at h
  simp only [Bool.and_eq_true, decide_eq_true_eq] at h
  have := List.all_eq_true.mp h.2 (t, r) (List.mem_of_getElem? (List.getElem?_zip_eq_some.mpr ⟨ht, hr⟩))
  simpa using this
end K20
set_option Elab.async false
set_option linter.all false
set_option maxRecDepth 100000
set_option maxHeartbeats 2000000
set_option exponentiation.threshold 5000
namespace K20
open PySem PySem.Spec D3
def HS (a b : Nat) (S : Store) : Prop := ∃ (m : Int) (ns : List Int) (c : Int), S[a]? = some (.lst [.int m, .obj b, .int c]) ∧ S[b]? = some (.lst (ns.map Dv.int)) ∧ ns.length ≤ 63
theorem HS.ne {a b : Nat} {S : Store} (h : HS a b S) : a ≠ b := by
  rintro rfl
  obtain ⟨m, ns, c, h1, h2, _⟩ := h
  rw [h1] at h2
  cases ns with
  | nil => cases h2
  | cons x xs => cases xs with
    | nil => cases h2
    | cons y ys => cases h2
structure Hup (a b : Nat) (S S' : Store) : Prop where
  len : S'.length = S.length
  hs : HS a b S'
  oth : ∀ i, i ≠ a → i ≠ b → S'[i]? = S[i]?
theorem HS.app {a b : Nat} {S T : Store} (h : HS a b S) : HS a b (S ++ T) := by
  obtain ⟨m, ns, c, h1, h2, h3⟩ := h
  exact ⟨m, ns, c, get_old h1, get_old h2, h3⟩
end K20
set_option Elab.async false
set_option linter.all false
set_option maxRecDepth 100000
set_option maxHeartbeats 2000000
set_option exponentiation.threshold 5000
namespace K20
open PySem PySem.Spec D3
end K20
set_option Elab.async false
set_option linter.all false
set_option maxRecDepth 100000
set_option maxHeartbeats 2000000
set_option exponentiation.threshold 5000
namespace K20
open PySem PySem.Spec D3
theorem HS.lt {a b : Nat} {S : Store} (h : HS a b S) : a < S.length ∧ b < S.length := by
  obtain ⟨m, ns, c, h1, h2, _⟩ := h
  exact ⟨at_lt h1, at_lt h2⟩
theorem Hup.trans {a b : Nat} {S S1 S2 : Store} (h : Hup a b S S1) (h' : Hup a b S1 S2) : Hup a b S S2 := ⟨h'.len.trans h.len, h'.hs, fun i x y => (h'.oth i x y).trans (h.oth i x y)⟩
theorem Hup.refl {a b : Nat} {S : Store} (h : HS a b S) : Hup a b S S := ⟨rfl, h, fun _ _ _ => rfl⟩
def LaLo (B : Bk) : Prop := ∀ r ∈ B, ∀ v ∈ r, ∀ x, Itm.wd x ∈ v → x = "la" ∨ x = "lo"
end K20
set_option Elab.async false
set_option linter.all false
set_option maxRecDepth 100000
set_option maxHeartbeats 2000000
set_option exponentiation.threshold 5000
namespace K20
open PySem PySem.Spec D3
structure Lw where
  starts : List Int
  la : Int
  lo : Int
def itemStep (u : Int) (s : Lw) : Itm → Lw
  | .ref n => { s with starts := addAt s.starts n u }
  | .wd x => if x = "la" then { s with la := s.la + u } else { s with lo := s.lo + u }
def verseStep (s : Lw) (p : Int × List Itm) : Lw := p.2.foldl (itemStep p.1) s
def rowStep (us : List Int) (r : List (List Itm)) (s : Lw) : Lw := (us.zip r).foldl verseStep s
def bookStep (B : Bk) (ts : List Int) (s : Lw) (k : Nat) : Lw := rowStep (usesL (B.getD k []).length (ts.getD k 0) (s.starts.getD k 0)) (B.getD k []) s
def bookK (B : Bk) (ts : List Int) (s0 : Int) (k : Nat) : Lw := (List.range k).foldl (bookStep B ts) ⟨startL B.length s0, 0, 0⟩
def lawTurns (B : Bk) (ts : List Int) (s : Lw) : List Int := (List.range B.length).map fun k => (ts.getD k 0 + s.starts.getD k 0) % ((B.getD k []).length : Int)
/-- what the law asks of the program, in plain numbers -/
structure Fit : Prop where
  words : ∀ (B : Bk) (ts : List Int) (s : Int), BkOk B → LaLo B → turnsOk B ts = true → 0 ≤ s → songWords B ts s none = (bookK B ts s B.length).la + (bookK B ts s B.length).lo
  turns : ∀ (B : Bk) (ts : List Int) (s : Int), BkOk B → LaLo B → turnsOk B ts = true → 0 ≤ s → songTurns B ts s = lawTurns B ts (bookK B ts s B.length)
  tOk : ∀ (B : Bk) (ts : List Int) (s : Int), BkOk B → LaLo B → turnsOk B ts = true → 0 ≤ s → turnsOk B (lawTurns B ts (bookK B ts s B.length)) = true
  nneg : ∀ (B : Bk) (ts : List Int) (s : Int), BkOk B → LaLo B → turnsOk B ts = true → 0 ≤ s → ∀ k j, k ≤ B.length → 0 ≤ (bookK B ts s k).starts.getD j 0
  cLa : ∀ (B : Bk) (ts : List Int) (s : Int), BkOk B → LaLo B → turnsOk B ts = true → 0 ≤ s → countQ (certK B "la" B.length) ts (lawTurns B ts (bookK B ts s B.length)) s = ((bookK B ts s B.length).la : Int)
  cLo : ∀ (B : Bk) (ts : List Int) (s : Int), BkOk B → LaLo B → turnsOk B ts = true → 0 ≤ s → countQ (certK B "lo" B.length) ts (lawTurns B ts (bookK B ts s B.length)) s = ((bookK B ts s B.length).lo : Int)
theorem bookK_succ {B : Bk} {ts : List Int} {s : Int} {k : Nat} : bookK B ts s (k + 1) = bookStep B ts (bookK B ts s k) k := by unfold bookK; rw [List.range_succ, List.foldl_append]; rfl
theorem item_len (u : Int) (w : Lw) (x : Itm) : (itemStep u w x).starts.length = w.starts.length := by
  cases x with
  | ref n => exact addAt_len _ _ _
  | wd y => show (if y = "la" then _ else _ : Lw).starts.length = _; split <;> rfl
theorem items_len (u : Int) : ∀ (v : List Itm) (w : Lw), (v.foldl (itemStep u) w).starts.length = w.starts.length
  | [], _ => rfl
  | x :: v, w => by show (v.foldl (itemStep u) (itemStep u w x)).starts.length = _; rw [items_len u v, item_len]
theorem verses_len : ∀ (l : List (Int × List Itm)) (w : Lw), (l.foldl verseStep w).starts.length = w.starts.length
  | [], _ => rfl
  | p :: l, w => by show (l.foldl verseStep (verseStep w p)).starts.length = _; rw [verses_len l]; exact items_len _ _ _
theorem bookK_len {B : Bk} {ts : List Int} {s : Int} : ∀ k, (bookK B ts s k).starts.length = B.length
  | 0 => by unfold bookK startL; simp
  | k + 1 => by rw [bookK_succ]; show (rowStep _ _ _).starts.length = _; unfold rowStep; rw [verses_len, bookK_len k]
theorem item_la {u : Int} {w : Lw} : itemStep u w (.wd "la") = ⟨w.starts, w.la + u, w.lo⟩ := by
  show (if ("la" : Str) = "la" then ({ w with la := w.la + u } : Lw) else { w with lo := w.lo + u }) = _
  rw [if_pos rfl]
theorem item_lo {u : Int} {w : Lw} : itemStep u w (.wd "lo") = ⟨w.starts, w.la, w.lo + u⟩ := by
  show (if ("lo" : Str) = "la" then ({ w with la := w.la + u } : Lw) else { w with lo := w.lo + u }) = _
  rw [if_neg (by decide)]
end K20
set_option Elab.async false
set_option linter.all false
set_option maxRecDepth 100000
set_option maxHeartbeats 2000000
set_option exponentiation.threshold 5000
namespace K20
open PySem PySem.Spec D3
theorem addAt_get {l : List Int} {n d : Int} (j : Nat) : (addAt l n d)[j]? = l[j]?.map fun x => if j = n.toNat then x + d else x := by
  unfold addAt
  by_cases e : j = n.toNat
  · subst e
    by_cases h : n.toNat < l.length
    · rw [List.getElem?_set_self h, List.getD_eq_getElem?_getD, List.getElem?_eq_getElem h]; simp
    · rw [List.getElem?_eq_none (by rw [List.length_set]; omega), List.getElem?_eq_none (by omega)]; rfl
  · rw [List.getElem?_set_ne (fun z => e z.symm)]
    cases l[j]? <;> simp [e]
theorem addAt_comm {l : List Int} {a b d e : Int} : addAt (addAt l a d) b e = addAt (addAt l b e) a d := by
  refine List.ext_getElem? fun j => ?_
  rw [addAt_get, addAt_get, addAt_get, addAt_get]
  cases l[j]? with
  | none => rfl
  | some x =>
    simp only [Option.map_some, Option.some.injEq]
    by_cases h1 : j = a.toNat <;> by_cases h2 : j = b.toNat <;> simp [h1, h2] <;> omega
theorem addAt_add {l : List Int} {a d e : Int} : addAt (addAt l a d) a e = addAt l a (d + e) := by
  refine List.ext_getElem? fun j => ?_
  rw [addAt_get, addAt_get, addAt_get]
  cases l[j]? with
  | none => rfl
  | some x =>
    simp only [Option.map_some, Option.some.injEq]
    by_cases h1 : j = a.toNat <;> simp [h1] <;> omega
theorem ccAdd_addAt (u n d : Int) : ∀ (cc : Cc) (l : List Int), ccAdd u cc (addAt l n d) = addAt (ccAdd u cc l) n d
  | [], _ => rfl
  | p :: cc, l => by
    show ccAdd u cc (addAt (addAt l n d) p.1 (u * p.2)) = addAt (ccAdd u cc (addAt l p.1 (u * p.2))) n d
    rw [addAt_comm, ccAdd_addAt u n d cc]
def keysOf (cc : Cc) : List Int := cc.map (·.1)
theorem map_out {n m : Int} : ∀ {cc : Cc}, n ∉ keysOf cc → cc.map (fun p => if p.1 = n then (p.1, m) else p) = cc
  | [], _ => rfl
  | p :: cc, h => by
    have h1 : ¬ p.1 = n := fun z => h (by unfold keysOf; rw [List.map_cons, z]; exact List.mem_cons_self)
    rw [List.map_cons, if_neg h1, map_out fun z => h (by unfold keysOf at z ⊢; rw [List.map_cons]; exact List.mem_cons_of_mem _ z)]
theorem any_key {n : Int} {cc : Cc} : (cc.any fun p => decide (p.1 = n)) = true ↔ n ∈ keysOf cc := by
  unfold keysOf
  rw [List.any_eq_true]
  constructor
  · rintro ⟨p, hp, e⟩
    exact List.mem_map.mpr ⟨p, hp, of_decide_eq_true e⟩
  · intro h
    obtain ⟨p, hp, e⟩ := List.mem_map.mp h
    exact ⟨p, hp, decide_eq_true e⟩
theorem bump_in (u n : Int) : ∀ (cc : Cc) (l : List Int), (keysOf cc).Nodup → n ∈ keysOf cc → ccAdd u (cc.map fun p => if p.1 = n then (p.1, getC cc n + 1) else p) l = addAt (ccAdd u cc l) n u
  | [], _, _, h => by cases h
  | p :: cc, l, hd, h => by
    have hd' : (p.1 :: keysOf cc).Nodup := hd
    rw [List.nodup_cons] at hd'
    by_cases e : p.1 = n
    · have hg : getC (p :: cc) n = p.2 := by unfold getC; rw [List.find?_cons, decide_eq_true e]; rfl
      have hn : n ∉ keysOf cc := by rw [← e]; exact hd'.1
      rw [List.map_cons, if_pos e, map_out hn, hg]
      show ccAdd u cc (addAt l p.1 (u * (p.2 + 1))) = addAt (ccAdd u cc (addAt l p.1 (u * p.2))) n u
      rw [e, ← ccAdd_addAt, addAt_add]
      congr 2
      rw [Int.mul_add, Int.mul_one]
    · have hg : getC (p :: cc) n = getC cc n := by unfold getC; rw [List.find?_cons, decide_eq_false e]
      have hn : n ∈ keysOf cc := by
        have h' : n ∈ p.1 :: keysOf cc := h
        rcases List.mem_cons.mp h' with z | z
        · exact (e z.symm).elim
        · exact z
      rw [List.map_cons, if_neg e, hg]
      exact bump_in u n cc _ hd'.2 hn
theorem bump_add (u n : Int) (cc : Cc) (l : List Int) (hd : (keysOf cc).Nodup) : ccAdd u (bump cc n) l = addAt (ccAdd u cc l) n u ∧ (keysOf (bump cc n)).Nodup := by
  unfold bump putC
  by_cases h : n ∈ keysOf cc
  · rw [if_pos (any_key.mpr h)]
    refine ⟨bump_in u n cc l hd h, ?_⟩
    have e : keysOf (cc.map fun p => if p.1 = n then (p.1, getC cc n + 1) else p) = keysOf cc := by
      unfold keysOf
      rw [List.map_map]
      refine List.map_congr_left fun p _ => ?_
      show (if p.1 = n then _ else _ : Int × Int).1 = p.1
      split <;> rfl
    rw [e]; exact hd
  · have h2 : ¬ (cc.any fun p => decide (p.1 = n)) = true := fun z => h (any_key.mp z)
    rw [if_neg h2]
    have hg : getC cc n = 0 := by
      unfold getC
      have : cc.find? (fun p => decide (p.1 = n)) = none := by
        rw [List.find?_eq_none]
        intro p hp z
        exact h (List.mem_map.mpr ⟨p, hp, of_decide_eq_true z⟩)
      rw [this]; rfl
    rw [hg]
    refine ⟨?_, ?_⟩
    · unfold ccAdd
      rw [List.foldl_append]
      show addAt _ n (u * (0 + 1)) = _
      rw [Int.zero_add, Int.mul_one]
    · unfold keysOf
      rw [List.map_append, List.nodup_append]
      refine ⟨hd, by simp, fun a ha b hb => ?_⟩
      have hb' : b = n := by simpa using hb
      rw [hb']
      rintro rfl
      exact h ha
theorem items_cc (u : Int) : ∀ (v : List Itm) (cc : Cc) (w : Lw) (l : List Int), (keysOf cc).Nodup → w.starts = ccAdd u cc l → (v.foldl (itemStep u) w).starts = ccAdd u (v.foldl bumpI cc) l
  | [], _, _, _, _, h => h
  | x :: v, cc, w, l, hd, h => by
    show (v.foldl (itemStep u) (itemStep u w x)).starts = ccAdd u (v.foldl bumpI (bumpI cc x)) l
    cases x with
    | wd y =>
      refine items_cc u v cc _ l hd ?_
      show (if y = "la" then _ else _ : Lw).starts = _
      split <;> exact h
    | ref n =>
      obtain ⟨h1, h2⟩ := bump_add u n cc l hd
      refine items_cc u v (bump cc n) _ l h2 ?_
      show addAt w.starts n u = _
      rw [h1, h]
theorem verse_starts (w : Lw) (p : Int × List Itm) : (verseStep w p).starts = ccAdd p.1 (callsOf p.2) w.starts := items_cc p.1 p.2 [] w w.starts List.nodup_nil rfl
theorem row_starts : ∀ (l : List (Int × List Itm)) (w : Lw), (l.foldl verseStep w).starts = l.foldl (fun l p => ccAdd p.1 (callsOf p.2) l) w.starts
  | [], _ => rfl
  | p :: l, w => by
    show (l.foldl verseStep (verseStep w p)).starts = l.foldl _ (ccAdd p.1 (callsOf p.2) w.starts)
    rw [row_starts l, verse_starts]
theorem book_starts (B : Bk) (ts : List Int) (s : Int) : ∀ k, (bookK B ts s k).starts = pendK B ts (startL B.length s) k
  | 0 => rfl
  | k + 1 => by
    rw [bookK_succ, pendK_succ]
    show (rowStep _ _ _).starts = refAdd _ _ _
    unfold rowStep refAdd usesAt
    rw [row_starts, book_starts B ts s k]
end K20
set_option Elab.async false
set_option linter.all false
set_option maxRecDepth 100000
set_option maxHeartbeats 2000000
set_option exponentiation.threshold 5000
namespace K20
open PySem PySem.Spec D3
theorem addAt_getD {l : List Int} {n d : Int} {j : Nat} (h : (j : Int) < n) : (addAt l n d).getD j 0 = l.getD j 0 := by
  rw [List.getD_eq_getElem?_getD, List.getD_eq_getElem?_getD, addAt_get]
  have : ¬ j = n.toNat := by omega
  cases l[j]? <;> simp [this]
theorem items_still {u : Int} {j : Nat} : ∀ (v : List Itm) (w : Lw), (∀ n, .ref n ∈ v → (j : Int) < n) → (v.foldl (itemStep u) w).starts.getD j 0 = w.starts.getD j 0
  | [], _, _ => rfl
  | x :: v, w, h => by
    show (v.foldl (itemStep u) (itemStep u w x)).starts.getD j 0 = _
    rw [items_still v _ fun n hn => h n (List.mem_cons_of_mem _ hn)]
    cases x with
    | wd y =>
      show (if y = "la" then _ else _ : Lw).starts.getD j 0 = _
      split <;> rfl
    | ref n => exact addAt_getD (h n List.mem_cons_self)
theorem verses_still {j : Nat} : ∀ (l : List (Int × List Itm)) (w : Lw), (∀ p ∈ l, ∀ n, .ref n ∈ p.2 → (j : Int) < n) → (l.foldl verseStep w).starts.getD j 0 = w.starts.getD j 0
  | [], _, _ => rfl
  | p :: l, w, h => by
    show (l.foldl verseStep (verseStep w p)).starts.getD j 0 = _
    rw [verses_still l _ fun q hq => h q (List.mem_cons_of_mem _ hq)]
    exact items_still p.2 w (h p List.mem_cons_self)
theorem book_still {B : Bk} (hB : BkOk B) {ts : List Int} {s : Int} {k j : Nat} (hk : k < B.length) (hj : j ≤ k) : (bookK B ts s (k + 1)).starts.getD j 0 = (bookK B ts s k).starts.getD j 0 := by
  rw [bookK_succ]
  obtain ⟨r, hr⟩ : ∃ r, B[k]? = some r := ⟨_, List.getElem?_eq_getElem hk⟩
  have hgd : B.getD k [] = r := by rw [List.getD_eq_getElem?_getD, hr]; rfl
  unfold bookStep rowStep
  rw [hgd]
  refine verses_still _ _ fun p hp n hn => ?_
  have := (hB.ref hr (List.of_mem_zip (show (p.1, p.2) ∈ _ from hp)).2 hn).1
  omega
theorem book_stays {B : Bk} (hB : BkOk B) {ts : List Int} {s : Int} {j : Nat} : ∀ m k, k + m ≤ B.length → j ≤ k → (bookK B ts s (k + m)).starts.getD j 0 = (bookK B ts s k).starts.getD j 0
  | 0, k, _, _ => rfl
  | m + 1, k, h, hj => by
    rw [← Nat.add_assoc, book_still hB (by omega) (by omega), book_stays hB m k (by omega) hj]
theorem book_final {B : Bk} (hB : BkOk B) {ts : List Int} {s : Int} {j k : Nat} (hk : k ≤ B.length) (hj : j ≤ k) : (bookK B ts s B.length).starts.getD j 0 = (bookK B ts s k).starts.getD j 0 := by
  have := book_stays hB (ts := ts) (s := s) (j := j) (B.length - k) k (by omega) hj
  rwa [Nat.add_sub_cancel' hk] at this
theorem fit_turns {B : Bk} (hB : BkOk B) (ts : List Int) (s : Int) : songTurns B ts s = lawTurns B ts (bookK B ts s B.length) := by
  unfold songTurns finalK lawTurns
  refine List.map_congr_left fun k hk => ?_
  rw [List.mem_range] at hk
  rw [← book_starts, book_final hB (k := k + 1) (by omega) (by omega)]
theorem fit_tOk {B : Bk} (hB : BkOk B) (ts : List Int) (W : Lw) : turnsOk B (lawTurns B ts W) = true := by
  unfold turnsOk
  simp only [Bool.and_eq_true, decide_eq_true_eq]
  refine ⟨by unfold lawTurns; rw [List.length_map, List.length_range], List.all_eq_true.mpr ?_⟩
  rintro ⟨t, r⟩ hp
  obtain ⟨k, hk⟩ := List.getElem?_of_mem hp
  obtain ⟨k1, k2⟩ := List.getElem?_zip_eq_some.mp hk
  have k2 : B[k]? = some r := k2
  have k1 : (lawTurns B ts W)[k]? = some t := k1
  have hgd : B.getD k [] = r := by rw [List.getD_eq_getElem?_getD, k2]; rfl
  unfold lawTurns at k1
  rw [List.getElem?_map, List.getElem?_range (at_lt k2)] at k1
  have k1 : (ts.getD k 0 + W.starts.getD k 0) % ((B.getD k []).length : Int) = t := Option.some.inj k1
  rw [hgd] at k1
  have hr := hB.row k2
  have h0 : (0 : Int) < r.length := by omega
  subst k1
  simp [Int.emod_nonneg _ (Int.ne_of_gt h0), Int.emod_lt_of_pos _ h0]
theorem use_nonneg {n t s v : Int} (hn : 0 < n) (hs : 0 ≤ s) : 0 ≤ useOf n t s v := by
  unfold useOf
  have := Int.ediv_nonneg hs (Int.le_of_lt hn)
  have h2 : 0 ≤ b2i' (decide ((v - t) % n < s % n)) := by unfold b2i'; split <;> decide
  omega
theorem addAt_nonneg {l : List Int} {n d : Int} (h : ∀ j, 0 ≤ l.getD j 0) (hd : 0 ≤ d) : ∀ j, 0 ≤ (addAt l n d).getD j 0 := by
  intro j
  have := h j
  rw [List.getD_eq_getElem?_getD] at this ⊢
  rw [addAt_get]
  cases e : l[j]? with
  | none => simp
  | some x =>
    rw [e] at this
    simp at this ⊢
    split <;> omega
theorem items_nonneg {u : Int} (hu : 0 ≤ u) : ∀ (v : List Itm) (w : Lw), (∀ j, 0 ≤ w.starts.getD j 0) → ∀ j, 0 ≤ (v.foldl (itemStep u) w).starts.getD j 0
  | [], _, h => h
  | x :: v, w, h => by
    refine items_nonneg hu v (itemStep u w x) ?_
    cases x with
    | wd y =>
      show ∀ j, 0 ≤ (if y = "la" then _ else _ : Lw).starts.getD j 0
      split <;> exact h
    | ref n => exact addAt_nonneg h hu
theorem verses_nonneg : ∀ (l : List (Int × List Itm)) (w : Lw), (∀ p ∈ l, 0 ≤ p.1) → (∀ j, 0 ≤ w.starts.getD j 0) → ∀ j, 0 ≤ (l.foldl verseStep w).starts.getD j 0
  | [], _, _, h => h
  | p :: l, w, hl, h => verses_nonneg l _ (fun q hq => hl q (List.mem_cons_of_mem _ hq)) (items_nonneg (hl p List.mem_cons_self) p.2 w h)
theorem fit_nneg {B : Bk} (hB : BkOk B) (ts : List Int) {s : Int} (hs : 0 ≤ s) : ∀ k, k ≤ B.length → ∀ j, 0 ≤ (bookK B ts s k).starts.getD j 0
  | 0, _ => fun j => by
    show 0 ≤ (startL B.length s).getD j 0
    unfold startL
    rw [List.getD_eq_getElem?_getD, List.getElem?_set]
    split
    · split
      · exact hs
      · simp
    · rw [List.getElem?_replicate]; split <;> simp
  | k + 1, hk => by
    have ih := fit_nneg hB ts hs k (by omega)
    rw [bookK_succ]
    obtain ⟨r, hr⟩ : ∃ r, B[k]? = some r := ⟨_, List.getElem?_eq_getElem (by omega)⟩
    have hgd : B.getD k [] = r := by rw [List.getD_eq_getElem?_getD, hr]; rfl
    have hrow := hB.row hr
    refine verses_nonneg _ _ (fun p hp => ?_) ih
    have := (List.of_mem_zip (show (p.1, p.2) ∈ _ from hp)).1
    unfold usesL at this
    obtain ⟨v, _, e⟩ := List.mem_map.mp this
    rw [← e, hgd]
    exact use_nonneg (by omega) (ih k)
end K20
set_option Elab.async false
set_option linter.all false
set_option maxRecDepth 100000
set_option maxHeartbeats 2000000
set_option exponentiation.threshold 5000
namespace K20
open PySem PySem.Spec D3
theorem emod_sub' (x t n : Int) : (x % n - t) % n = (x - t) % n := by rw [Int.sub_emod, Int.emod_emod, ← Int.sub_emod]
theorem emod_add' (x t n : Int) : (t + x % n) % n = (t + x) % n := by rw [Int.add_emod, Int.emod_emod, ← Int.add_emod]
theorem at_turn {n t s v : Int} (hn : 0 < n) (h0 : 0 ≤ v) (h1 : v < n) : (v = (t + s) % n) ↔ ((v - t) % n = s % n) := by
  constructor
  · intro h
    rw [h, emod_sub']
    congr 1
    omega
  · intro h
    have : (t + (v - t) % n) % n = (t + s % n) % n := by rw [h]
    rw [emod_add', emod_add'] at this
    have e : t + (v - t) = v := by omega
    rw [e, Int.emod_eq_of_lt h0 h1] at this
    exact this
theorem use_zero {n t v : Int} (hn : 0 < n) : useOf n t 0 v = 0 := by
  unfold useOf
  have h0 := Int.emod_nonneg (v - t) (Int.ne_of_gt hn)
  have : ¬ ((v - t) % n < 0 % n) := by rw [Int.zero_emod]; omega
  rw [decide_eq_false this, Int.zero_ediv]; rfl
theorem use_succ {n t v : Int} {s : Int} (hn : 0 < n) (h0 : 0 ≤ v) (h1 : v < n) : useOf n t (s + 1) v = useOf n t s v + (if v = (t + s) % n then 1 else 0) := by
  have hv := at_turn (t := t) (s := s) hn h0 h1
  have e := Int.emod_add_mul_ediv s n
  have r0 := Int.emod_nonneg s (Int.ne_of_gt hn)
  have r1 := Int.emod_lt_of_pos s hn
  have a0 := Int.emod_nonneg (v - t) (Int.ne_of_gt hn)
  have a1 := Int.emod_lt_of_pos (v - t) hn
  unfold useOf
  by_cases c : s % n + 1 < n
  · have e1 : (s + 1) / n = s / n ∧ (s + 1) % n = s % n + 1 := (Int.ediv_emod_unique hn).mpr ⟨by omega, by omega, c⟩
    rw [e1.1, e1.2]
    by_cases h : v = (t + s) % n
    · rw [if_pos h, hv.mp h, decide_eq_true (by omega), decide_eq_false (by omega)]
      show s / n + 1 = s / n + 0 + 1
      omega
    · rw [if_neg h]
      have h' : ¬ (v - t) % n = s % n := fun z => h (hv.mpr z)
      have : decide ((v - t) % n < s % n + 1) = decide ((v - t) % n < s % n) := by
        rw [Bool.eq_iff_iff]; simp; omega
      rw [this, Int.add_zero]
  · have e1 : (s + 1) / n = s / n + 1 ∧ (s + 1) % n = 0 := (Int.ediv_emod_unique hn).mpr ⟨by rw [Int.mul_add]; omega, by omega, hn⟩
    rw [e1.1, e1.2, decide_eq_false (by omega)]
    by_cases h : v = (t + s) % n
    · rw [if_pos h, hv.mp h, decide_eq_false (by omega)]
      show s / n + 1 + 0 = s / n + 0 + 1
      omega
    · rw [if_neg h]
      have h' : ¬ (v - t) % n = s % n := fun z => h (hv.mpr z)
      rw [decide_eq_true (by omega)]
      show s / n + 1 + 0 = s / n + 1 + 0
      rfl
def sumR (n : Nat) (f : Nat → Rat) : Rat := sumQ ((List.range n).map f)
theorem sumR_succ {n : Nat} {f : Nat → Rat} : sumR (n + 1) f = sumR n f + f n := by
  unfold sumR
  rw [List.range_succ, List.map_append, sumQ_append]
  show _ + sumQ [f n] = _
  rw [sumQ_cons]
  show _ + (f n + 0) = _
  rw [Rat.add_zero]
theorem sumR_congr {f g : Nat → Rat} : ∀ {n : Nat}, (∀ i, i < n → f i = g i) → sumR n f = sumR n g
  | 0, _ => rfl
  | n + 1, h => by rw [sumR_succ, sumR_succ, sumR_congr fun i hi => h i (by omega), h n (by omega)]
theorem sumR_zero : ∀ n : Nat, sumR n (fun _ => 0) = 0
  | 0 => rfl
  | n + 1 => by rw [sumR_succ, sumR_zero n, Rat.add_zero]
theorem sumR_add {f g : Nat → Rat} : ∀ {n : Nat}, sumR n (fun i => f i + g i) = sumR n f + sumR n g
  | 0 => by show (0 : Rat) = 0 + 0; rw [Rat.add_zero]
  | n + 1 => by rw [sumR_succ, sumR_succ, sumR_succ, sumR_add]; grind
theorem sumR_one {f : Nat → Rat} {m : Nat} : ∀ {n : Nat}, sumR n (fun i => (if i = m then (1 : Rat) else 0) * f i) = if m < n then f m else 0
  | 0 => rfl
  | n + 1 => by
    rw [sumR_succ, sumR_one]
    by_cases h : m < n
    · have h2 : ¬ n = m := by omega
      rw [if_pos h, if_neg h2, if_pos (by omega)]
      grind
    · by_cases h2 : n = m
      · rw [if_neg h, if_pos h2, if_pos (by omega), h2]
        grind
      · rw [if_neg h, if_neg h2, if_neg (by omega)]
        grind
/-- walking the circle: what is passed, and how often -/
theorem round_sum {n : Nat} (hn : 0 < n) (off d : Nat → Rat) (rate : Rat) (hd : ∀ j, j < n → off ((j + 1) % n) = off j + (d j - rate)) {t : Nat} (ht : t < n) : ∀ s : Nat, sumR n (fun v => ((useOf n t s v : Int) : Rat) * d v) = off ((t + s) % n) - off t + (s : Rat) * rate
  | 0 => by
    have e : sumR n (fun v => ((useOf n t (0 : Nat) v : Int) : Rat) * d v) = sumR n (fun _ => 0) := sumR_congr fun v hv => by
      have : useOf (n : Int) t ((0 : Nat) : Int) v = 0 := use_zero (by omega)
      rw [this]
      show (0 : Rat) * _ = 0
      rw [Rat.zero_mul]
    rw [e, sumR_zero, Nat.add_zero, Nat.mod_eq_of_lt ht]
    show (0 : Rat) = off t - off t + (0 : Rat) * rate
    grind
  | s + 1 => by
    have ih := round_sum hn off d rate hd ht s
    have hm : (t + s) % n < n := Nat.mod_lt _ hn
    have e : sumR n (fun v => ((useOf n t ((s + 1 : Nat) : Int) v : Int) : Rat) * d v) = sumR n (fun v => ((useOf n t s v : Int) : Rat) * d v + (if v = (t + s) % n then (1 : Rat) else 0) * d v) := sumR_congr fun v hv => by
      have h := use_succ (n := n) (t := t) (v := v) (s := s) (by omega) (by omega) (by omega)
      have e1 : ((s + 1 : Nat) : Int) = (s : Int) + 1 := by omega
      rw [e1, h, Rat.intCast_add]
      by_cases c : v = (t + s) % n
      · have c' : (v : Int) = ((t : Int) + s) % n := by rw [c, Int.natCast_emod, Int.natCast_add]
        rw [if_pos c', if_pos c]
        show (_ + (1 : Rat)) * _ = _
        grind
      · have c' : ¬ (v : Int) = ((t : Int) + s) % n := by
          intro z
          rw [← Int.natCast_add, ← Int.natCast_emod] at z
          exact c (by omega)
        rw [if_neg c', if_neg c]
        show (_ + (0 : Rat)) * _ = _
        grind
    rw [e, sumR_add, ih, sumR_one, if_pos hm]
    have h2 := hd _ hm
    have e3 : ((t + s) % n + 1) % n = (t + (s + 1)) % n := by rw [Nat.mod_add_mod]; rfl
    rw [e3] at h2
    rw [h2]
    have e4 : ((s + 1 : Nat) : Rat) = (s : Rat) + 1 := by rw [Rat.natCast_add]; rfl
    rw [e4]
    grind
end K20
set_option Elab.async false
set_option linter.all false
set_option maxRecDepth 100000
set_option maxHeartbeats 2000000
set_option exponentiation.threshold 5000
namespace K20
open PySem PySem.Spec D3
def cntW (word : Str) (W : Lw) : Int := if word = "la" then W.la else W.lo
def dotQ (N : Nat) (l : List Int) (qs : List Rat) : Rat := sumR N fun j => ((l.getD j 0 : Int) : Rat) * qs.getD j 0
theorem dot_add {N : Nat} {l : List Int} {qs : List Rat} {n d : Int} (hl : l.length = N) (h0 : 0 ≤ n) (h1 : n < N) : dotQ N (addAt l n d) qs = dotQ N l qs + (d : Rat) * qs.getD n.toNat 0 := by
  unfold dotQ
  have e : sumR N (fun j => (((addAt l n d).getD j 0 : Int) : Rat) * qs.getD j 0) = sumR N (fun j => ((l.getD j 0 : Int) : Rat) * qs.getD j 0 + (if j = n.toNat then (1 : Rat) else 0) * ((d : Rat) * qs.getD j 0)) := sumR_congr fun j hj => by
    have ej : (addAt l n d).getD j 0 = if j = n.toNat then l.getD j 0 + d else l.getD j 0 := by
      rw [List.getD_eq_getElem?_getD, List.getD_eq_getElem?_getD, addAt_get, List.getElem?_eq_getElem (by omega)]; rfl
    rw [ej]
    by_cases c : j = n.toNat
    · rw [if_pos c, if_pos c, Rat.intCast_add]; grind
    · rw [if_neg c, if_neg c]; grind
  rw [e, sumR_add, sumR_one, if_pos (by omega)]
def phi (word : Str) (qs : List Rat) (N : Nat) (W : Lw) : Rat := ((cntW word W : Int) : Rat) + dotQ N W.starts qs
theorem item_phi {word : Str} (hw : word = "la" ∨ word = "lo") {qs : List Rat} {N : Nat} {W : Lw} {u : Int} {x : Itm} (hl : W.starts.length = N) (hx : (x = .wd "la" ∨ x = .wd "lo") ∨ ∃ n, x = .ref n ∧ 0 ≤ n ∧ n < N) : phi word qs N (itemStep u W x) = phi word qs N W + (u : Rat) * itemQ word qs x := by
  have hne : ¬ ("lo" : Str) = "la" := by decide
  have hne2 : ¬ ("la" : Str) = "lo" := by decide
  rcases hx with (rfl | rfl) | ⟨n, rfl, h0, h1⟩
  · rw [item_la]
    have e : itemQ word qs (.wd "la") = if ("la" : Str) = word then 1 else 0 := rfl
    rw [e]
    unfold phi cntW
    rcases hw with rfl | rfl
    · rw [if_pos rfl, if_pos rfl, if_pos rfl, Rat.intCast_add]; grind
    · rw [if_neg hne, if_neg hne, if_neg hne2]; grind
  · rw [item_lo]
    have e : itemQ word qs (.wd "lo") = if ("lo" : Str) = word then 1 else 0 := rfl
    rw [e]
    unfold phi cntW
    rcases hw with rfl | rfl
    · rw [if_pos rfl, if_pos rfl, if_neg hne]; grind
    · rw [if_neg hne, if_neg hne, if_pos rfl, Rat.intCast_add]; grind
  · have e : itemQ word qs (.ref n) = qs.getD n.toNat 0 := rfl
    rw [e]
    show ((cntW word _ : Int) : Rat) + dotQ N (addAt W.starts n u) qs = _
    rw [dot_add hl h0 h1]
    have e2 : cntW word (itemStep u W (.ref n)) = cntW word W := rfl
    unfold phi
    rw [e2]
    grind
theorem verse_phi {word : Str} (hw : word = "la" ∨ word = "lo") {qs : List Rat} {N : Nat} {u : Int} : ∀ (v : List Itm) (W : Lw), W.starts.length = N → (∀ x ∈ v, (x = .wd "la" ∨ x = .wd "lo") ∨ ∃ n, x = .ref n ∧ 0 ≤ n ∧ n < (N : Int)) → phi word qs N (v.foldl (itemStep u) W) = phi word qs N W + (u : Rat) * verseQ word qs v
  | [], W, _, _ => by show _ = _ + (u : Rat) * 0; rw [Rat.mul_zero, Rat.add_zero]; rfl
  | x :: v, W, hl, hv => by
    show phi word qs N (v.foldl (itemStep u) (itemStep u W x)) = _
    rw [verse_phi hw v _ (by rw [item_len]; exact hl) fun y hy => hv y (List.mem_cons_of_mem _ hy), item_phi hw hl (hv x List.mem_cons_self)]
    have : verseQ word qs (x :: v) = itemQ word qs x + verseQ word qs v := by unfold verseQ; rw [List.map_cons, sumQ_cons]
    rw [this]
    grind
theorem verses_phi {word : Str} (hw : word = "la" ∨ word = "lo") {qs : List Rat} {N : Nat} : ∀ (l : List (Int × List Itm)) (W : Lw), W.starts.length = N → (∀ p ∈ l, ∀ x ∈ p.2, (x = .wd "la" ∨ x = .wd "lo") ∨ ∃ n, x = .ref n ∧ 0 ≤ n ∧ n < (N : Int)) →
    phi word qs N (l.foldl verseStep W) = phi word qs N W + sumQ (l.map fun p => (p.1 : Rat) * verseQ word qs p.2)
  | [], W, _, _ => by show _ = _ + (0 : Rat); rw [Rat.add_zero]; rfl
  | p :: l, W, hl, hv => by
    show phi word qs N (l.foldl verseStep (verseStep W p)) = _
    rw [verses_phi hw l _ (by show (p.2.foldl (itemStep p.1) W).starts.length = N; rw [items_len]; exact hl) fun q hq => hv q (List.mem_cons_of_mem _ hq)]
    have h1 := verse_phi hw (qs := qs) (u := p.1) p.2 W hl (hv p List.mem_cons_self)
    rw [show verseStep W p = p.2.foldl (itemStep p.1) W from rfl, h1, List.map_cons, sumQ_cons]
    grind
theorem items_fine {B : Bk} (hB : BkOk B) (hL : LaLo B) {k : Nat} {r : List (List Itm)} (hr : B[k]? = some r) {v : List Itm} (hv : v ∈ r) : ∀ x ∈ v, (x = .wd "la" ∨ x = .wd "lo") ∨ ∃ n : Int, x = .ref n ∧ 0 ≤ n ∧ n < (B.length : Int) := by
  intro x hx
  cases x with
  | wd y =>
    rcases hL r (List.mem_of_getElem? hr) v hv y hx with rfl | rfl
    · exact .inl (.inl rfl)
    · exact .inl (.inr rfl)
  | ref n =>
    have := hB.ref hr hv hx
    exact .inr ⟨n, rfl, by omega, this.2⟩
theorem row_sum {r : List (List Itm)} {t s : Int} {f : List Itm → Rat} : sumQ (((usesL r.length t s).zip r).map fun p => ((p.1 : Int) : Rat) * f p.2) = sumR r.length fun v => ((useOf r.length t s v : Int) : Rat) * f (r.getD v []) := by
  unfold sumR
  congr 1
  refine List.ext_getElem? fun i => ?_
  rw [List.getElem?_map, List.getElem?_map]
  by_cases hi : i < r.length
  · have hz : ((usesL r.length t s).zip r)[i]? = some (useOf r.length t s i, r[i]) := by
      rw [List.getElem?_zip_eq_some]
      refine ⟨?_, List.getElem?_eq_getElem hi⟩
      unfold usesL
      rw [List.getElem?_map, List.getElem?_range hi]; rfl
    rw [hz, List.getElem?_range hi]
    have hr : r.getD i [] = r[i] := by rw [List.getD_eq_getElem?_getD, List.getElem?_eq_getElem hi]; rfl
    show some _ = some (((useOf r.length t s i : Int) : Rat) * f (r.getD i []))
    rw [hr]
  · rw [List.getElem?_eq_none (by rw [List.length_zip]; omega), List.getElem?_eq_none (by rw [List.length_range]; omega)]; rfl
def offC (c : Ct) (j : Nat) (t : Int) : Rat := (c.2.getD j []).getD t.toNat 0
theorem book_phi {B : Bk} (hB : BkOk B) (hL : LaLo B) {word : Str} (hw : word = "la" ∨ word = "lo") {c : Ct} (hC : CertFull B word c) {ts : List Int} (hT : turnsOk B ts = true) {s : Int} (hs : 0 ≤ s) : ∀ k, k ≤ B.length →
    phi word c.1 B.length (bookK B ts s k) = phi word c.1 B.length (bookK B ts s 0) + sumR k fun j => (offC c j ((lawTurns B ts (bookK B ts s B.length)).getD j 0) - offC c j (ts.getD j 0)) + (((bookK B ts s B.length).starts.getD j 0 : Int) : Rat) * c.1.getD j 0
  | 0, _ => by show _ = _ + (0 : Rat); rw [Rat.add_zero]
  | k + 1, hk => by
    have ih := book_phi hB hL hw hC hT hs k (by omega)
    obtain ⟨r, hr⟩ : ∃ r, B[k]? = some r := ⟨_, List.getElem?_eq_getElem (by omega)⟩
    have hgd : B.getD k [] = r := by rw [List.getD_eq_getElem?_getD, hr]; rfl
    have hrow := hB.row hr
    have hn := fit_nneg hB ts hs k (by omega) k
    have hfin := book_final hB (ts := ts) (s := s) (j := k) (k := k) (by omega) (Nat.le_refl _)
    have htl := turnsOk_len hT
    have htk : ts[k]? = some (ts.getD k 0) := by rw [List.getD_eq_getElem?_getD, List.getElem?_eq_getElem (by omega)]; rfl
    have ht := turnsOk_at hT hr htk
    rw [bookK_succ]
    unfold bookStep rowStep
    rw [hgd, verses_phi hw _ _ (bookK_len k) (fun p hp => items_fine hB hL hr (List.of_mem_zip (show (p.1, p.2) ∈ _ from hp)).2), ih, sumR_succ, row_sum]
    have hrate : c.1.getD k 0 = rateQ word c.1 r := by rw [List.getD_eq_getElem?_getD, hC.rate k r hr]; rfl
    obtain ⟨p, hp⟩ : ∃ p : Nat, (bookK B ts s k).starts.getD k 0 = (p : Int) := ⟨_, (Int.toNat_of_nonneg hn).symm⟩
    obtain ⟨t, ht'⟩ : ∃ t : Nat, ts.getD k 0 = (t : Int) := ⟨_, (Int.toNat_of_nonneg ht.1).symm⟩
    have htr : t < r.length := by have := ht.2; rw [ht'] at this; omega
    have hround := round_sum (n := r.length) (by omega) (offQ (rateQ word c.1 r) (r.map (verseQ word c.1))) (fun v => verseQ word c.1 (r.getD v [])) (rateQ word c.1 r) (fun j hj => by
      have hv : r[j]? = some (r.getD j []) := by rw [List.getD_eq_getElem?_getD, List.getElem?_eq_getElem hj]; rfl
      exact off_step hv) htr p
    have hf : (lawTurns B ts (bookK B ts s B.length)).getD k 0 = (((t + p) % r.length : Nat) : Int) := by
      unfold lawTurns
      rw [List.getD_eq_getElem?_getD, List.getElem?_map, List.getElem?_range (by omega)]
      show (ts.getD k 0 + (bookK B ts s B.length).starts.getD k 0) % ((B.getD k []).length : Int) = _
      rw [hgd, hfin, hp, ht', Int.natCast_emod, Int.natCast_add]
    have ho : ∀ x : Nat, x < r.length → offC c k (x : Int) = offQ (rateQ word c.1 r) (r.map (verseQ word c.1)) x := fun x hx => by
      unfold offC
      have e : c.2.getD k [] = rowQ (rateQ word c.1 r) (r.map (verseQ word c.1)) := by rw [List.getD_eq_getElem?_getD, hC.row k r hr]; rfl
      rw [e, Int.toNat_natCast]
      unfold rowQ
      rw [List.getD_eq_getElem?_getD, List.getElem?_map, List.getElem?_range (by rw [List.length_map]; exact hx)]; rfl
    rw [hf, hfin, hp, ht', ho _ (Nat.mod_lt _ (by omega)), ho _ htr, hrate]
    have e1 : (((p : Nat) : Int) : Rat) = (p : Rat) := rfl
    rw [e1]
    have hround' : sumR r.length (fun v => ((useOf (r.length : Int) (t : Int) (p : Int) v : Int) : Rat) * verseQ word c.1 (r.getD v [])) = offQ (rateQ word c.1 r) (r.map (verseQ word c.1)) ((t + p) % r.length) - offQ (rateQ word c.1 r) (r.map (verseQ word c.1)) t + (p : Rat) * rateQ word c.1 r := hround
    rw [hround']
    grind
end K20
set_option Elab.async false
set_option linter.all false
set_option maxRecDepth 100000
set_option maxHeartbeats 2000000
set_option exponentiation.threshold 5000
namespace K20
open PySem PySem.Spec D3
theorem item_words {u : Int} {W : Lw} {x : Itm} : (itemStep u W x).la + (itemStep u W x).lo = W.la + W.lo + (if counts none x = true then u else 0) := by
  cases x with
  | wd y =>
    have e : counts none (.wd y) = true := rfl
    rw [if_pos e]
    show (if y = "la" then ({ W with la := W.la + u } : Lw) else { W with lo := W.lo + u }).la + (if y = "la" then ({ W with la := W.la + u } : Lw) else { W with lo := W.lo + u }).lo = _
    split
    · show W.la + u + W.lo = _; omega
    · show W.la + (W.lo + u) = _; omega
  | ref n =>
    have e : ¬ counts none (.ref n) = true := Bool.false_ne_true
    rw [if_neg e, Int.add_zero]; rfl
theorem verse_words {u : Int} : ∀ (v : List Itm) (W : Lw), (v.foldl (itemStep u) W).la + (v.foldl (itemStep u) W).lo = W.la + W.lo + u * ((v.filter (counts none)).length : Int)
  | [], W => by show _ = _ + u * 0; rw [Int.mul_zero, Int.add_zero]; rfl
  | x :: v, W => by
    show (v.foldl (itemStep u) (itemStep u W x)).la + (v.foldl (itemStep u) (itemStep u W x)).lo = _
    rw [verse_words v, item_words]
    by_cases c : counts none x = true
    · rw [if_pos c, List.filter_cons_of_pos c, List.length_cons]
      have : u * (((v.filter (counts none)).length + 1 : Nat) : Int) = u * ((v.filter (counts none)).length : Int) + u := by
        rw [Int.natCast_add, Int.mul_add]; show _ + u * 1 = _; rw [Int.mul_one]
      omega
    · rw [if_neg c, List.filter_cons_of_neg c]; omega
theorem verses_words : ∀ (l : List (Int × List Itm)) (W : Lw), (l.foldl verseStep W).la + (l.foldl verseStep W).lo = W.la + W.lo + (l.map fun p => p.1 * ((p.2.filter (counts none)).length : Int)).sum
  | [], W => by show _ = _ + (0 : Int); rw [Int.add_zero]; rfl
  | p :: l, W => by
    show (l.foldl verseStep (verseStep W p)).la + (l.foldl verseStep (verseStep W p)).lo = _
    have h1 := verse_words (u := p.1) p.2 W
    rw [verses_words l, List.map_cons, List.sum_cons]
    have e : (verseStep W p).la + (verseStep W p).lo = W.la + W.lo + p.1 * ((p.2.filter (counts none)).length : Int) := h1
    omega
theorem prodL_snoc {rows wts : List (List Int)} {a b : List Int} (h : rows.length = wts.length) : prodL (rows ++ [a]) (wts ++ [b]) = prodL rows wts ++ (a.zip b).map fun q => q.1 * q.2 := by
  unfold prodL
  rw [List.zip_append h, List.flatMap_append]
  simp
theorem words_k {B : Bk} {ts : List Int} {s : Int} : ∀ k, k ≤ B.length → (prodL (rowsK B ts (startL B.length s) k) ((wtsOf B none).take k)).sum = (bookK B ts s k).la + (bookK B ts s k).lo
  | 0, _ => rfl
  | k + 1, hk => by
    obtain ⟨r, hr⟩ : ∃ r, B[k]? = some r := ⟨_, List.getElem?_eq_getElem (by omega)⟩
    have hgd : B.getD k [] = r := by rw [List.getD_eq_getElem?_getD, hr]; rfl
    have hw1 : (wtsOf B none)[k]? = some (r.map fun v => ((v.filter (counts none)).length : Int)) := by unfold wtsOf; rw [List.getElem?_map, hr]; rfl
    have hl : (rowsK B ts (startL B.length s) k).length = ((wtsOf B none).take k).length := by
      rw [List.length_take]; unfold rowsK wtsOf; rw [List.length_map, List.length_map, List.length_range]; omega
    rw [rowsK_succ, take_succ hw1, prodL_snoc hl, List.sum_append, words_k k (by omega), bookK_succ]
    unfold bookStep rowStep usesAt
    rw [hgd, verses_words, book_starts]
    congr 2
    rw [List.zip_map_right, List.map_map]; rfl
theorem fit_words {B : Bk} {ts : List Int} {s : Int} : songWords B ts s none = (bookK B ts s B.length).la + (bookK B ts s B.length).lo := by
  have := words_k (B := B) (ts := ts) (s := s) B.length (Nat.le_refl _)
  have e : (wtsOf B none).take B.length = wtsOf B none := List.take_of_length_le (by unfold wtsOf; rw [List.length_map]; exact Nat.le_refl _)
  rw [e] at this
  exact this
theorem dot_start {N : Nat} {s : Int} {qs : List Rat} (h : 0 < N) : dotQ N (startL N s) qs = (s : Rat) * qs.getD 0 0 := by
  have e : startL N s = addAt (List.replicate N 0) 0 s := by
    unfold startL addAt
    have : (List.replicate N (0 : Int)).getD (0 : Int).toNat 0 = 0 := by
      rw [List.getD_eq_getElem?_getD, List.getElem?_replicate]; split <;> rfl
    rw [this, Int.zero_add]; rfl
  rw [e, dot_add (by rw [List.length_replicate]) (by decide) (by omega)]
  have z : dotQ N (List.replicate N 0) qs = 0 := by
    unfold dotQ
    rw [sumR_congr (g := fun _ => 0) fun j hj => ?_, sumR_zero]
    have : (List.replicate N (0 : Int)).getD j 0 = 0 := by
      rw [List.getD_eq_getElem?_getD, List.getElem?_replicate]; split <;> rfl
    rw [this]
    show (0 : Rat) * _ = 0
    rw [Rat.zero_mul]
  rw [z, Rat.zero_add]; rfl
theorem chg_sum {B : Bk} {c : Ct} {ts fs : List Int} (h2 : c.2.length = B.length) (h3 : ts.length = B.length) (h4 : fs.length = B.length) : sumQ (chg c ts fs) = sumR B.length fun j => offC c j (fs.getD j 0) - offC c j (ts.getD j 0) := by
  unfold chg sumR
  congr 1
  refine List.ext_getElem? fun i => ?_
  rw [List.getElem?_map, List.getElem?_map]
  by_cases hi : i < B.length
  · obtain ⟨a, ha⟩ : ∃ a, c.2[i]? = some a := ⟨_, List.getElem?_eq_getElem (by omega)⟩
    obtain ⟨b, hb⟩ : ∃ b, ts[i]? = some b := ⟨_, List.getElem?_eq_getElem (by omega)⟩
    obtain ⟨d, hd⟩ : ∃ d, fs[i]? = some d := ⟨_, List.getElem?_eq_getElem (by omega)⟩
    have hz : (c.2.zip (ts.zip fs))[i]? = some (a, (b, d)) := List.getElem?_zip_eq_some.mpr ⟨ha, List.getElem?_zip_eq_some.mpr ⟨hb, hd⟩⟩
    rw [hz, List.getElem?_range hi]
    show some _ = some (offC c i (fs.getD i 0) - offC c i (ts.getD i 0))
    unfold offC
    rw [List.getD_eq_getElem?_getD (l := c.2), ha, List.getD_eq_getElem?_getD (l := fs), hd, List.getD_eq_getElem?_getD (l := ts), hb]; rfl
  · rw [List.getElem?_eq_none (by rw [List.length_zip]; omega), List.getElem?_eq_none (by rw [List.length_range]; omega)]; rfl
theorem fit_count {B : Bk} (hB : BkOk B) (hL : LaLo B) {word : Str} (hw : word = "la" ∨ word = "lo") {ts : List Int} (hT : turnsOk B ts = true) {s : Int} (hs : 0 ≤ s) :
    countQ (certK B word B.length) ts (lawTurns B ts (bookK B ts s B.length)) s = ((cntW word (bookK B ts s B.length) : Int) : Rat) := by
  have hC := cert_full hB word
  have hp := book_phi hB hL hw hC hT hs B.length (Nat.le_refl _)
  have hfl : (lawTurns B ts (bookK B ts s B.length)).length = B.length := by unfold lawTurns; rw [List.length_map, List.length_range]
  rw [sumR_add] at hp
  have h0 : phi word (certK B word B.length).1 B.length (bookK B ts s 0) = (s : Rat) * (certK B word B.length).1.getD 0 0 := by
    unfold phi
    have e1 : cntW word (bookK B ts s 0) = 0 := by unfold cntW; split <;> rfl
    rw [e1]
    have e2 : (bookK B ts s 0).starts = startL B.length s := rfl
    rw [e2, dot_start hB.pos]
    show (0 : Rat) + _ = _
    rw [Rat.zero_add]
  rw [h0] at hp
  unfold phi dotQ at hp
  unfold countQ
  rw [chg_sum hC.l2 (turnsOk_len hT) hfl]
  grind
theorem fit : Fit where
  words := fun B ts s _ _ _ _ => fit_words
  turns := fun B ts s hB _ _ _ => fit_turns hB ts s
  tOk := fun B ts s hB _ _ _ => fit_tOk hB ts _
  nneg := fun B ts s hB _ _ hs k j hk => fit_nneg hB ts hs k hk j
  cLa := fun B ts s hB hL hT hs => by
    rw [fit_count hB hL (.inl rfl) hT hs]; rfl
  cLo := fun B ts s hB hL hT hs => by
    rw [fit_count hB hL (.inr rfl) hT hs]; rfl
end K20
set_option Elab.async false
set_option linter.all false
set_option maxRecDepth 100000
set_option maxHeartbeats 2000000
set_option exponentiation.threshold 5000
namespace K11
open PySem PySem.Spec D3 K20
theorem eIf_to {t : TTd} {a b : TEd} {σ : Sl} {S : Store} {Q : KD} (c : Bool) (x : Dv) (ht : ∀ R : Bool → Store → Prop, R c S → t σ S R) (ha : c = true → ∀ R : KD, R x S → a σ S R) (hb : c = false → ∀ R : KD, R x S → b σ S R) (q : Q x S) : eIf t a b σ S Q := by
  refine ht _ ?_
  cases c with
  | true => rw [if_pos rfl]; exact ha rfl _ q
  | false => rw [if_neg Bool.false_ne_true]; exact hb rfl _ q
theorem item_wd {u : Int} {w : Lw} {y : Str} : (itemStep u w (.wd y)).starts = w.starts := by
  show (if y = "la" then _ else _ : Lw).starts = _
  split <;> rfl
end K11
set_option Elab.async false
set_option linter.all false
set_option maxRecDepth 100000
set_option maxHeartbeats 2000000
set_option exponentiation.threshold 5000
namespace K11
open PySem PySem.Spec D3 K20
theorem RowsAt.app {S T : Store} {u : Nat} {rows : List (List Int)} (h : RowsAt S u rows) : RowsAt (S ++ T) u rows := by
  obtain ⟨as, h1, h2, h3⟩ := h
  exact ⟨as, getL_old h1, h2, fun k row a e1 e2 => getL_old (h3 k row a e1 e2)⟩
end K11
set_option Elab.async false
set_option linter.all false
set_option maxRecDepth 100000
set_option maxHeartbeats 2000000
set_option exponentiation.threshold 5000
namespace K11
open PySem PySem.Spec D3 K20
theorem stclo_app {S : Store} (hc : StClo S) : ∀ (L : Store), (∀ m ∈ L, ∀ n, m.clo n = true) → StClo (S ++ L)
  | [], _ => by simpa using hc
  | m :: L, h => by
    have h1 := stclo_one (m := m) hc (h m List.mem_cons_self _)
    have h2 := stclo_app h1 L fun x hx => h x (List.mem_cons_of_mem _ hx)
    simpa using h2
theorem wk_drop2 {n0 : Nat} {S T : Store} {σ σ' : Sl} {R : Sl → Store → Prop} (hn : n0 ≤ S.length) (h : R σ' S) (f : Fg S.length σ σ') (hc : StClo S) : Wk n0 R σ (S ++ T) :=
  .inr ⟨S.length, σ', hn, f, by rw [List.take_left]; exact hc, by rw [List.take_left]; exact h⟩
def five : List Str := ["la", "lu", "lo", "a", "zzzzzzzz"]
theorem five_ok : ∀ y ∈ five, wordOk y = true := by decide +kernel
theorem five_len : ∀ y ∈ five, Str.length y ≤ 100000 := by decide +kernel
def Five (B : Bk) : Prop := ∀ r ∈ B, ∀ v ∈ r, ∀ y, Itm.wd y ∈ v → y ∈ five
def It5 (n i : Int) (x : Itm) : Prop := (∃ y ∈ five, x = .wd y) ∨ ∃ m, x = .ref m ∧ i < m ∧ m < n
def Vs5 (n i : Int) (v : List Itm) : Prop := (1 ≤ v.length ∧ v.length ≤ 6) ∧ ∀ x ∈ v, It5 n i x
def Row5 (n i : Int) (r : List (List Itm)) : Prop := (1 ≤ r.length ∧ r.length ≤ 4) ∧ ∀ v ∈ r, Vs5 n i v
theorem row5_first {n i : Int} {r : List (List Itm)} (h : Row5 n i r) : firstBad n i r = .non := by
  unfold firstBad
  rw [if_pos h.1]
  have : r.findIdx? (fun v => !verseOk n i v) = none := by
    rw [List.findIdx?_eq_none_iff]
    intro v hv
    obtain ⟨h1, h2⟩ := h.2 v hv
    have : verseOk n i v = true := by
      unfold verseOk
      simp only [Bool.and_eq_true, decide_eq_true_eq]
      refine ⟨h1, List.all_eq_true.mpr fun x hx => ?_⟩
      rcases h2 x hx with ⟨y, hy, rfl⟩ | ⟨m, rfl, h3, h4⟩
      · exact five_ok y hy
      · unfold itemOk; simp [h3, h4]
    rw [this]; rfl
  rw [this]
theorem bkOk5 {B : Bk} (h1 : 1 ≤ B.length) (h2 : B.length ≤ 60) (h : ∀ (k : Nat) r, B[k]? = some r → Row5 B.length k r) : BkOk B ∧ Five B := by
  have hrow : ∀ r ∈ B, ∃ k : Nat, Row5 B.length k r := fun r hr => by
    obtain ⟨k, hk⟩ := List.getElem?_of_mem hr
    exact ⟨k, h k r hk⟩
  refine ⟨⟨⟨by omega, fun r hr => ?_⟩, h1, h2, fun k r hr => row5_first (h k r hr)⟩, fun r hr v hv y hy => ?_⟩
  · obtain ⟨k, hk⟩ := hrow r hr
    refine ⟨by have := hk.1.2; omega, fun v hv => ?_⟩
    obtain ⟨a1, a2⟩ := hk.2 v hv
    refine ⟨by omega, fun x hx => ?_⟩
    rcases a2 x hx with ⟨y, hy, rfl⟩ | ⟨m, rfl, _⟩
    · exact five_len y hy
    · exact trivial
  · obtain ⟨k, hk⟩ := hrow r hr
    rcases (hk.2 v hv).2 _ hy with ⟨z, hz, e⟩ | ⟨m, e, _⟩
    · cases e; exact hz
    · cases e
def W6 : Mo := .lst [.str "la", .str "lu", .str "lo", .str "a", .str "zzzzzzzz", .str "la"]
def L4 : Mo := .lst [.int 1, .int 2, .int 2, .int 3, .int 4]
def L6 : Mo := .lst [.int 1, .int 2, .int 2, .int 3, .int 6]
theorem clo_rows (rows : Bk) (n : Nat) : (Mo.lst (rows.map rfD)).clo n = true := cloL_map fun r _ => rfD_clo r _
theorem clo_vs (vs : List (List Itm)) (n : Nat) : (Mo.lst (vs.map vsD)).clo n = true := cloL_map fun r _ => vsD_clo r _
theorem clo_its (v : List Itm) (n : Nat) : (Mo.lst (v.map Itm.d)).clo n = true := cloL_map fun r _ => r.clo _
theorem clo_W6 (n : Nat) : W6.clo n = true := rfl
theorem clo_L4 (n : Nat) : L4.clo n = true := rfl
theorem clo_L6 (n : Nat) : L6.clo n = true := rfl
theorem at_L4 {r : Int} (h0 : 0 ≤ r) (h1 : r < 5) : ∃ n : Nat, L2.atI [Dv.int 1, .int 2, .int 2, .int 3, .int 4] r = some (.int n) ∧ 1 ≤ n ∧ n ≤ 4 := by
  have : r = 0 ∨ r = 1 ∨ r = 2 ∨ r = 3 ∨ r = 4 := by omega
  rcases this with rfl | rfl | rfl | rfl | rfl
  · exact ⟨1, rfl, by decide, by decide⟩
  · exact ⟨2, rfl, by decide, by decide⟩
  · exact ⟨2, rfl, by decide, by decide⟩
  · exact ⟨3, rfl, by decide, by decide⟩
  · exact ⟨4, rfl, by decide, by decide⟩
theorem at_L6 {r : Int} (h0 : 0 ≤ r) (h1 : r < 5) : ∃ n : Nat, L2.atI [Dv.int 1, .int 2, .int 2, .int 3, .int 6] r = some (.int n) ∧ 1 ≤ n ∧ n ≤ 6 := by
  have : r = 0 ∨ r = 1 ∨ r = 2 ∨ r = 3 ∨ r = 4 := by omega
  rcases this with rfl | rfl | rfl | rfl | rfl
  · exact ⟨1, rfl, by decide, by decide⟩
  · exact ⟨2, rfl, by decide, by decide⟩
  · exact ⟨2, rfl, by decide, by decide⟩
  · exact ⟨3, rfl, by decide, by decide⟩
  · exact ⟨6, rfl, by decide, by decide⟩
theorem at_W6 {r : Int} (h0 : 0 ≤ r) (h1 : r < 6) : ∃ y ∈ five, L2.atI [Dv.str "la", .str "lu", .str "lo", .str "a", .str "zzzzzzzz", .str "la"] r = some (.str y) := by
  have : r = 0 ∨ r = 1 ∨ r = 2 ∨ r = 3 ∨ r = 4 ∨ r = 5 := by omega
  rcases this with rfl | rfl | rfl | rfl | rfl | rfl
  · exact ⟨"la", by decide, rfl⟩
  · exact ⟨"lu", by decide, rfl⟩
  · exact ⟨"lo", by decide, rfl⟩
  · exact ⟨"a", by decide, rfl⟩
  · exact ⟨"zzzzzzzz", by decide, rfl⟩
  · exact ⟨"la", by decide, rfl⟩
theorem at_two {x : Dv} {y : Dv} {r : Int} (h0 : 0 ≤ r) (h1 : r < 2) : L2.atI [x, y] r = some (if r = 0 then x else y) := by
  have : r = 0 ∨ r = 1 := by omega
  rcases this with rfl | rfl <;> rfl
theorem getLk {S0 T : Store} {n k : Nat} (h : S0.length = n) : getL (S0 ++ T) (n + k) = getL T k := by rw [← h, st_getLk]
theorem getk {S0 T : Store} {n k : Nat} (h : S0.length = n) : (S0 ++ T)[n + k]? = T[k]? := by rw [← h, st_getk]
theorem setk {S0 T : Store} {n k : Nat} {m : Mo} (h : S0.length = n) : (S0 ++ T).set (n + k) m = S0 ++ T.set k m := by rw [← h, st_setk]
theorem getL0 {S0 T : Store} {n : Nat} (h : S0.length = n) : getL (S0 ++ T) n = getL T 0 := by rw [← h, st_getL0]
theorem get0 {S0 T : Store} {n : Nat} (h : S0.length = n) : (S0 ++ T)[n]? = T[0]? := by rw [← h, st_get0]
theorem set0 {S0 T : Store} {n : Nat} {m : Mo} (h : S0.length = n) : (S0 ++ T).set n m = S0 ++ T.set 0 m := by rw [← h, st_set0]
theorem line5 : (5 ≤ sizeLine) = True := eq_true (by decide)
theorem line6 : (6 ≤ sizeLine) = True := eq_true (by decide)
def spBook : Spd := fun ds S Q E => ∃ (a b : Nat) (most : Int), ds = [.obj a, .int most] ∧ Bx a b S ∧ 1 ≤ most ∧ most ≤ 60 ∧ ∀ (B : Bk) S', BkOk B → Five B → (B.length : Int) ≤ most → Bup a b S S' → Q (bkD B) S'
theorem r_book : ∀ ds S Qd Ed, spBook ds S Qd Ed → StClo S → t_Lbook spTake (WEx S.length Ed) { nx := fun _ S' => Gc S.length Qd .non S', rt := Gc S.length Qd } (startD 12 ds) S := by
  rintro _ S Qd Ed ⟨a, b, most, rfl, hh, hm1, hm2, h⟩ hc
  obtain ⟨la, lb⟩ := hh.lt
  unfold t_Lbook
  refine seqI ?_
  simp! only [line5, line6]
  refine ⟨a, b, most, rfl, hh, by omega, by omega, fun r S1 r0 r1 hu1 => ?_⟩
  obtain ⟨n, hn⟩ : ∃ n : Nat, 1 + r = (n : Int) := ⟨(1 + r).toNat, by omega⟩
  have hn1 : 1 ≤ n := by omega
  have hn2 : (n : Int) ≤ most := by omega
  have hS1 : S1.length = S.length := hu1.len
  simp! only [line5, line6, hn]
  refine seqI ?_
  simp! only [line5, line6]
  rw [hS1]
  refine seqI ?_
  refine sFor_inv (S1 := S1 ++ [.lst [], W6]) (jRg n) (fun k σ S' => ∃ (S2 : Store) (rows : Bk), Bup a b S S2 ∧ S' = S2 ++ [.lst (rows.map rfD), W6] ∧ rows.length = k ∧ (∀ (i : Nat) r, rows[i]? = some r → Row5 n i r) ∧
    σ = [some (.obj a), some (.int most), some (.int n), some (.obj S.length), some (.obj (S.length + 1)), none, none, none, none, none, none, none]) (hw_rg1 (fun R hR => ?_) (by omega)) ⟨S1, [], hu1, rfl, rfl, fun i r e => by simp at e, rfl⟩ (fun _ _ _ _ _ => trivial) ?_ ?_
  · dsimp! only [line5, line6]
    exact hR
  · rintro k d σ S' hd ⟨S2, rows, hu2, rfl, hrl, hrows, rfl⟩ K hK
    obtain ⟨hk, rfl⟩ := jRg_get hd
    have hS2 := hu2.len
    simp! only [hS2]
    refine seqI ?_
    simp! only [hS2]
    refine seqI ?_
    refine sFor_rg (fun n' S' => 1 ≤ n' ∧ n' ≤ 4 ∧ ∃ S3, Bup a b S S3 ∧ S' = S3 ++ [.lst (rows.map rfD), W6, .lst [], L4]) (fun R hR => ?_) (fun n' S' h => by omega) ?_
    · dsimp! only [line5, hS2]
      refine ⟨a, b, 5, rfl, hu2.bx.app, by decide, by decide, fun r S' h0 h1 hup => ?_⟩
      obtain ⟨S3, rfl, hu3⟩ := bup_app hu2.bx hup
      obtain ⟨n', hn', h4⟩ := at_L4 h0 h1
      exact ⟨_, (getLk (k := 3) (hu3.len.trans hS2)).trans rfl, _, hn', hR _ _ ⟨h4.1, h4.2, S3, hu2.trans hu3, rfl⟩⟩
    · rintro n' S' ⟨hn'1, hn'2, S3, hu3, rfl⟩
      have hS3 := hu3.len
      refine for_ex (jRg n') (fun j σ S' => ∃ (S4 : Store) (vs : List (List Itm)), Bup a b S S4 ∧ S' = S4 ++ [.lst (rows.map rfD), W6, .lst (vs.map vsD), L4] ∧ vs.length = j ∧ (∀ v ∈ vs, Vs5 n k v) ∧
        σ = [some (.obj a), some (.int most), some (.int n), some (.obj S.length), some (.obj (S.length + 1)), some (.int k), some (.obj (S.length + 2)), none, none, none, none, none]) ⟨S3, [], hu3, rfl, rfl, fun v hv => (nomatch hv), rfl⟩ (fun _ _ _ _ _ => trivial) ?_ ?_
      · rintro j d σ S' hd ⟨S4, vs, hu4, rfl, hvl, hvs, rfl⟩ K2 hK2
        obtain ⟨hj, rfl⟩ := jRg_get hd
        have hS4 := hu4.len
        simp! only [hS4]
        refine seqI ?_
        simp! only [hS4]
        refine seqI ?_
        refine sFor_rg (fun n'' S' => 1 ≤ n'' ∧ n'' ≤ 6 ∧ ∃ S5, Bup a b S S5 ∧ S' = S5 ++ [.lst (rows.map rfD), W6, .lst (vs.map vsD), L4, .lst [], L6]) (fun R hR => ?_) (fun n' S' h => by omega) ?_
        · dsimp! only [line5, hS4]
          refine ⟨a, b, 5, rfl, hu4.bx.app, by decide, by decide, fun r S' h0 h1 hup => ?_⟩
          obtain ⟨S5, rfl, hu5⟩ := bup_app hu4.bx hup
          obtain ⟨n'', hn'', h6⟩ := at_L6 h0 h1
          exact ⟨_, (getLk (k := 5) (hu5.len.trans hS4)).trans rfl, _, hn'', hR _ _ ⟨h6.1, h6.2, S5, hu4.trans hu5, rfl⟩⟩
        · rintro n'' S' ⟨hn''1, hn''2, S5, hu5, rfl⟩
          have hS5 := hu5.len
          refine for_ex (jRg n'') (fun l σ S' => ∃ (S6 : Store) (its : List Itm), Bup a b S S6 ∧ S' = S6 ++ [.lst (rows.map rfD), W6, .lst (vs.map vsD), L4, .lst (its.map Itm.d), L6] ∧ its.length = l ∧ (∀ x ∈ its, It5 n k x) ∧
            σ = [some (.obj a), some (.int most), some (.int n), some (.obj S.length), some (.obj (S.length + 1)), some (.int k), some (.obj (S.length + 2)), some (.int j), some (.obj (S.length + 4)), none, none, none]) ⟨S5, [], hu5, rfl, rfl, fun v hv => (nomatch hv), rfl⟩ (fun _ _ _ _ _ => trivial) ?_ ?_
          · rintro l d σ S' hd ⟨S6, its, hu6, rfl, hil, his, rfl⟩ K3 hK3
            obtain ⟨hl, rfl⟩ := jRg_get hd
            have hS6 := hu6.len
            simp! only [hS6]
            refine seqI ?_
            simp! only [hS6]
            refine seqI ?_
            simp! only [hS6]
            obtain ⟨lat, hlat⟩ : ∃ lat : Int, lat = (n : Int) - k - 1 := ⟨_, rfl⟩
            rw [← hlat]
            have hlat0 : 0 ≤ lat := by omega
            refine ⟨a, b, _, rfl, hu6.bx.app, by split <;> omega, by split <;> omega, fun q1 S' q10 q11 hup => ?_⟩
            obtain ⟨S7, rfl, hu7⟩ := bup_app hu6.bx hup
            have hS7 : S7.length = S.length := hu7.len.trans hS6
            simp! only [hS7]
            refine ⟨a, b, 2, rfl, hu7.bx.app, by decide, by decide, fun q2 S' q20 q21 hup => ?_⟩
            obtain ⟨S8, rfl, hu8⟩ := bup_app hu7.bx hup
            have hS8 : S8.length = S.length := hu8.len.trans hS7
            obtain ⟨st, hst, hst1⟩ : ∃ st : Int, L2.atI [Dv.int (1 + q1), .int 1] q2 = some (.int st) ∧ (0 < lat → 1 ≤ st ∧ st ≤ lat) := by
              rw [at_two q20 q21]
              by_cases z : q2 = 0
              · refine ⟨1 + q1, by rw [if_pos z], fun h => ?_⟩
                split at q11 <;> omega
              · exact ⟨1, by rw [if_neg z], fun h => by omega⟩
            simp! only [hS8]
            have fin : ∀ (S9 : Store) (x : Itm), Bup a b S S9 → It5 n k x → K3 [some (.obj a), some (.int most), some (.int n), some (.obj S.length), some (.obj (S.length + 1)), some (.int k), some (.obj (S.length + 2)), some (.int j), some (.obj (S.length + 4)), some (.int l), some (.int lat), some (.int st)]
                (S9 ++ [.lst (rows.map rfD), W6, .lst (vs.map vsD), L4, .lst (its.map Itm.d ++ [x.d]), L6, .lst [.int (1 + q1), .int 1]]) := fun S9 x hu9 hx => hK3 _ _ (by
              have e : S9 ++ [Mo.lst (rows.map rfD), W6, .lst (vs.map vsD), L4, .lst (its.map Itm.d ++ [x.d]), L6, .lst [.int (1 + q1), .int 1]] = (S9 ++ [.lst (rows.map rfD), W6, .lst (vs.map vsD), L4, .lst ((its ++ [x]).map Itm.d), L6]) ++ [.lst [.int (1 + q1), .int 1]] := by simp
              rw [e]
              refine wk_drop2 (σ' := [some (.obj a), some (.int most), some (.int n), some (.obj S.length), some (.obj (S.length + 1)), some (.int k), some (.obj (S.length + 2)), some (.int j), some (.obj (S.length + 4)), none, none, none]) ?_ ⟨S9, its ++ [x], hu9, rfl, by rw [List.length_append, hil]; rfl, fun y hy => ?_, rfl⟩ ?_ ?_
              · rw [List.length_append, List.length_append, hS5, hu9.len]; exact Nat.le_refl _
              · rcases List.mem_append.mp hy with z | z
                · exact his y z
                · rw [List.mem_singleton.mp z]; exact hx
              · simp only [Fg, Dv.clo, List.length_append, hu9.len]
                simp
                omega
              · refine stclo_app (stclo_bup hc hu9) _ fun m hm n => ?_
                simp only [List.mem_cons, List.not_mem_nil, or_false] at hm
                rcases hm with rfl | rfl | rfl | rfl | rfl | rfl
                · exact clo_rows _ _
                · exact clo_W6 _
                · exact clo_vs _ _
                · exact clo_L4 _
                · exact clo_its _ _
                · exact clo_L6 _)
            have hu68 := hu6.trans (hu7.trans hu8)
            have hitl : (its.map Itm.d).length < sizeLine := by rw [List.length_map]; exact small_line (by omega)
            refine ⟨_, (getLk (k := 6) hS8).trans rfl, _, hst, .inl ⟨_, (getk (k := 4) hS8).trans rfl⟩, ?_⟩
            by_cases hl0 : 0 < lat
            · simp! only [hl0]
              refine ⟨a, b, 3, rfl, hu8.bx.app, by decide, by decide, fun q3 S' q30 q31 hup => ?_⟩
              obtain ⟨S9, rfl, hu9⟩ := bup_app hu8.bx hup
              have hS9 : S9.length = S.length := hu9.len.trans hS8
              by_cases hq : 0 < q3
              · simp! only [hq]
                refine ⟨_, (getLk (k := 4) hS9).trans rfl, hitl, ?_⟩
                rw [setk hS9]
                exact fin S9 (.ref ((k : Int) + st)) (hu68.trans hu9) (.inr ⟨_, rfl, by have := hst1 hl0; omega, by have := hst1 hl0; omega⟩)
              · simp! only [hq]
                refine ⟨a, b, 6, rfl, hu9.bx.app, by decide, by decide, fun q6 S' q60 q61 hup => ?_⟩
                obtain ⟨S10, rfl, hu10⟩ := bup_app hu9.bx hup
                have hS10 : S10.length = S.length := hu10.len.trans hS9
                obtain ⟨y, hy5, hy⟩ := at_W6 q60 q61
                refine ⟨_, (getLk (k := 1) hS10).trans rfl, _, hy, _, (getLk (k := 4) hS10).trans rfl, hitl, ?_⟩
                rw [setk hS10]
                exact fin S10 (.wd y) (hu68.trans (hu9.trans hu10)) (.inl ⟨y, hy5, rfl⟩)
            · simp! only [hl0]
              refine ⟨a, b, 6, rfl, hu8.bx.app, by decide, by decide, fun q6 S' q60 q61 hup => ?_⟩
              obtain ⟨S10, rfl, hu10⟩ := bup_app hu8.bx hup
              have hS10 : S10.length = S.length := hu10.len.trans hS8
              obtain ⟨y, hy5, hy⟩ := at_W6 q60 q61
              refine ⟨_, (getLk (k := 1) hS10).trans rfl, _, hy, _, (getLk (k := 4) hS10).trans rfl, hitl, ?_⟩
              rw [setk hS10]
              exact fin S10 (.wd y) (hu68.trans hu10) (.inl ⟨y, hy5, rfl⟩)
          · rintro σ S' ⟨S6, its, hu6, rfl, hil, his, rfl⟩
            rw [jRg_len] at hil
            have hS6 := hu6.len
            dsimp! only [getLk hS6, getk hS6, setk hS6, List.length_map]
            have e : S6 ++ [Mo.lst (rows.map rfD), W6, .lst (vs.map vsD ++ [.tup (its.map Itm.d)]), L4, .lst (its.map Itm.d), L6] = (S6 ++ [.lst (rows.map rfD), W6, .lst ((vs ++ [its]).map vsD), L4]) ++ [.lst (its.map Itm.d), L6] := by simp [vsD]
            refine ⟨small_line (by omega), hK2 _ _ ?_⟩
            rw [e]
            refine wk_drop2 (σ' := [some (.obj a), some (.int most), some (.int n), some (.obj S.length), some (.obj (S.length + 1)), some (.int k), some (.obj (S.length + 2)), none, none, none, none, none]) ?_ ⟨S6, vs ++ [its], hu6, rfl, by rw [List.length_append, hvl]; rfl, fun v hv => ?_, rfl⟩ ?_ ?_
            · rw [List.length_append, List.length_append, hS3, hS6]; exact Nat.le_refl _
            · rcases List.mem_append.mp hv with z | z
              · exact hvs v z
              · rw [List.mem_singleton.mp z]; exact ⟨⟨by omega, by omega⟩, his⟩
            · simp only [Fg, Dv.clo, List.length_append, hS6]
              simp
              omega
            · refine stclo_app (stclo_bup hc hu6) _ fun m hm n => ?_
              simp only [List.mem_cons, List.not_mem_nil, or_false] at hm
              rcases hm with rfl | rfl | rfl | rfl
              · exact clo_rows _ _
              · exact clo_W6 _
              · exact clo_vs _ _
              · exact clo_L4 _
      · rintro σ S' ⟨S4, vs, hu4, rfl, hvl, hvs, rfl⟩
        rw [jRg_len] at hvl
        have hS4 := hu4.len
        dsimp! only [getLk hS4, getk hS4, setk hS4, get0 hS4, getL0 hS4, set0 hS4, List.length_map]
        have e : S4 ++ [Mo.lst (rows.map rfD ++ [.tup (vs.map vsD)]), W6, .lst (vs.map vsD), L4] = (S4 ++ [.lst ((rows ++ [vs]).map rfD), W6]) ++ [.lst (vs.map vsD), L4] := by simp [rfD]
        refine ⟨small_line (by omega), hK _ _ ?_⟩
        rw [e]
        refine wk_drop2 (σ' := [some (.obj a), some (.int most), some (.int n), some (.obj S.length), some (.obj (S.length + 1)), none, none, none, none, none, none, none]) ?_ ⟨S4, rows ++ [vs], hu4, rfl, by rw [List.length_append, hrl]; rfl, fun i r e => ?_, rfl⟩ ?_ ?_
        · rw [List.length_append, List.length_append, hS1, hS4]; exact Nat.le_refl _
        · by_cases z : i < k
          · rw [List.getElem?_append_left (by omega)] at e
            exact hrows i r e
          · have hi : i = k := by have := at_lt e; rw [List.length_append, hrl] at this; simp at this; omega
            subst hi
            rw [List.getElem?_append_right (by omega), hrl, Nat.sub_self] at e
            cases e
            exact ⟨⟨by omega, by omega⟩, hvs⟩
        · simp only [Fg, Dv.clo, List.length_append, hS4]
          simp
          omega
        · refine stclo_app (stclo_bup hc hu4) _ fun m hm n => ?_
          simp only [List.mem_cons, List.not_mem_nil, or_false] at hm
          rcases hm with rfl | rfl
          · exact clo_rows _ _
          · exact clo_W6 _
  · rintro σ S' ⟨S2, rows, hu2, rfl, hrl, hrows, rfl⟩
    rw [jRg_len] at hrl
    have hS2 := hu2.len
    dsimp! only [getL0 hS2]
    obtain ⟨hB, hF⟩ := bkOk5 (B := rows) (by omega) (by omega) (fun k r e => by rw [hrl]; exact hrows k r e)
    exact gc_bup hc hu2 (bkD_clo rows _) (h rows S2 hB hF (by omega) hu2)
end K11
set_option Elab.async false
set_option linter.all false
set_option maxRecDepth 100000
set_option maxHeartbeats 2000000
set_option exponentiation.threshold 5000
namespace K03
open PySem PySem.Spec D3 K20 K11
def cntR (n : Nat) (v : List Itm) : Int := (v.map fun x => if x = .ref (n : Int) then 1 else 0).sum
theorem cntR_cons {n : Nat} {x : Itm} {v : List Itm} : cntR n (x :: v) = (if x = .ref (n : Int) then 1 else 0) + cntR n v := by unfold cntR; rw [List.map_cons, List.sum_cons]
theorem item_st {u : Int} {N n : Nat} {w : Lw} {x : Itm} (hl : w.starts.length = N) (hn : n < N) (hx : ∀ m, x = .ref m → 0 ≤ m) : (itemStep u w x).starts.getD n 0 = w.starts.getD n 0 + u * (if x = .ref (n : Int) then 1 else 0) := by
  cases x with
  | wd y =>
    rw [item_wd, if_neg (by intro z; cases z)]; omega
  | ref m =>
    have hm := hx m rfl
    show (addAt w.starts m u).getD n 0 = _
    rw [List.getD_eq_getElem?_getD, List.getD_eq_getElem?_getD, addAt_get, List.getElem?_eq_getElem (by omega)]
    by_cases c : n = m.toNat
    · have e : Itm.ref m = Itm.ref (n : Int) := by congr 1; omega
      rw [if_pos e]
      simp [c]
    · have e : ¬ Itm.ref m = Itm.ref (n : Int) := fun z => by cases z; exact c (by omega)
      rw [if_neg e]
      simp [c]
theorem verse_st {u : Int} {N n : Nat} (hn : n < N) : ∀ (v : List Itm) (w : Lw), w.starts.length = N → (∀ m, Itm.ref m ∈ v → 0 ≤ m) → (v.foldl (itemStep u) w).starts.getD n 0 = w.starts.getD n 0 + u * cntR n v
  | [], w, _, _ => by
    show _ = _ + u * 0
    rw [Int.mul_zero, Int.add_zero]; rfl
  | x :: v, w, hl, hv => by
    rw [List.foldl_cons, verse_st hn v _ (by rw [item_len]; exact hl) fun m h => hv m (List.mem_cons_of_mem _ h), item_st hl hn fun m h => hv m (by rw [h]; exact List.mem_cons_self), cntR_cons, Int.mul_add]
    omega
theorem verses_st {N n : Nat} (hn : n < N) : ∀ (l : List (Int × List Itm)) (w : Lw), w.starts.length = N → (∀ p ∈ l, ∀ m, Itm.ref m ∈ p.2 → 0 ≤ m) → (l.foldl verseStep w).starts.getD n 0 = w.starts.getD n 0 + (l.map fun p => p.1 * cntR n p.2).sum
  | [], w, _, _ => by simp
  | p :: l, w, hl, hv => by
    have e : verseStep w p = p.2.foldl (itemStep p.1) w := rfl
    rw [List.foldl_cons, verses_st hn l _ (by rw [e, items_len]; exact hl) fun q hq => hv q (List.mem_cons_of_mem _ hq), e, verse_st hn p.2 w hl (hv p List.mem_cons_self), List.map_cons, List.sum_cons]
    omega
/-- starts that are still to come, and all starts -/
abbrev pn (B : Bk) (T l : List Int) (k n : Nat) : Int := (pendK B T l k).getD n 0
def zsum (us : List Int) (r : List (List Itm)) (f : List Itm → Int) : Int := ((us.zip r).map fun p => p.1 * f p.2).sum
theorem succ_mod {n t : Int} (t0 : 0 ≤ t) (t1 : t < n) : (t + 1) % n = if t + 1 = n then 0 else t + 1 := by
  split
  · rename_i e; rw [e, Int.emod_self]
  · exact Int.emod_eq_of_lt (by omega) (by omega)
end K03
set_option Elab.async false
set_option linter.all false
set_option maxRecDepth 100000
set_option maxHeartbeats 2000000
set_option exponentiation.threshold 5000
namespace K03
open PySem PySem.Spec D3 K20 K11
/-- a valid turn of each refrain -/
def TOk (B : Bk) (T : List Int) : Prop := T.length = B.length ∧ ∀ j r, B[j]? = some r → 0 ≤ T.getD j 0 ∧ T.getD j 0 < r.length
theorem TOk.of {B : Bk} {T : List Int} (h : turnsOk B T = true) : TOk B T := by
  have hl := turnsOk_len h
  refine ⟨hl, fun j r hr => ?_⟩
  have hj := at_lt hr
  have htk : T[j]? = some (T.getD j 0) := by rw [List.getD_eq_getElem?_getD, List.getElem?_eq_getElem (by omega)]; rfl
  exact turnsOk_at h hr htk
def nxt (B : Bk) (T : List Int) (r : Nat) : List Int := T.set r ((T.getD r 0 + 1) % ((B.getD r []).length : Int))
theorem nxt_ne {B : Bk} {T : List Int} {r j : Nat} (h : j ≠ r) : (nxt B T r).getD j 0 = T.getD j 0 := by
  unfold nxt
  rw [List.getD_eq_getElem?_getD, List.getElem?_set_ne (fun z => h z.symm), ← List.getD_eq_getElem?_getD]
theorem nxt_eq {B : Bk} {T : List Int} {r : Nat} (h : r < T.length) : (nxt B T r).getD r 0 = (T.getD r 0 + 1) % ((B.getD r []).length : Int) := by
  unfold nxt
  rw [List.getD_eq_getElem?_getD, List.getElem?_set_self h]; rfl
theorem nxt_ok {B : Bk} (hB : BkOk B) {T : List Int} (h : TOk B T) {r : Nat} (hr : r < B.length) : TOk B (nxt B T r) := by
  refine ⟨by unfold nxt; rw [List.length_set]; exact h.1, fun j x hx => ?_⟩
  by_cases e : j = r
  · subst e
    have hgd : B.getD j [] = x := by rw [List.getD_eq_getElem?_getD, hx]; rfl
    rw [nxt_eq (by rw [h.1]; exact hr), hgd]
    have := (hB.row hx).1
    exact ⟨Int.emod_nonneg _ (by omega), Int.emod_lt_of_pos _ (by omega)⟩
  · rw [nxt_ne e]; exact h.2 j x hx
/-- the turns after all starts, and the words -/
def fT (B : Bk) (T l : List Int) : List Int := (List.range B.length).map fun j => (T.getD j 0 + pn B T l j j) % ((B.getD j []).length : Int)
def wordsV (v : List Itm) : Int := ((v.filter (counts none)).length : Int)
def wA (B : Bk) (T l : List Int) : Int := ((List.range B.length).map fun j => zsum (usesL (B.getD j []).length (T.getD j 0) (pn B T l j j)) (B.getD j []) wordsV).sum
end K03
set_option Elab.async false
set_option linter.all false
set_option maxRecDepth 100000
set_option maxHeartbeats 2000000
set_option exponentiation.threshold 5000
namespace K03
open PySem PySem.Spec D3 K20 K11
abbrev En := Nat × Nat × Nat
abbrev Ps := List Int × List En
def vOf (B : Bk) (x : En) : List Itm := (B.getD x.1 []).getD x.2.1 []
def itAt (B : Bk) (x : En) : Itm := (vOf B x).getD x.2.2 (.wd "")
def mStart (B : Bk) (s : Ps) (r : Nat) : Ps := (nxt B s.1 r, (r, (s.1.getD r 0).toNat, 0) :: s.2)
def fin (B : Bk) : List En → List En
  | [] => []
  | x :: st => if x.2.2 + 1 = (vOf B x).length then fin B st else (x.1, x.2.1, x.2.2 + 1) :: st
def mDesc (B : Bk) : Nat → Ps → Ps
  | 0, s => s
  | f + 1, (T, []) => (T, [])
  | f + 1, (T, x :: st) => match itAt B x with
    | .ref n => mDesc B f (mStart B (T, x :: st) n.toNat)
    | .wd _ => (T, x :: st)
def mBeg (B : Bk) (s : Ps) : Ps := match s.2 with
  | [] => mStart B s 0
  | _ :: _ => s
def mTop (B : Bk) (s : Ps) : Ps := mDesc B 60 (mBeg B s)
def mNext (B : Bk) (s : Ps) : Ps := ((mTop B s).1, fin B (mTop B s).2)
def it (B : Bk) : Nat → Ps → Ps
  | 0, s => s
  | n + 1, s => it B n (mNext B s)
theorem it_add {B : Bk} : ∀ (a b : Nat) (s : Ps), it B (a + b) s = it B b (it B a s)
  | 0, b, s => by rw [Nat.zero_add]; rfl
  | a + 1, b, s => by
    have e : a + 1 + b = (a + b) + 1 := by omega
    rw [e]
    exact it_add a b (mNext B s)
/-- an entry within the book -/
structure EOk (B : Bk) (x : En) : Prop where
  r : x.1 < B.length
  v : x.2.1 < (B.getD x.1 []).length
  i : x.2.2 < (vOf B x).length
theorem EOk.mem {B : Bk} {x : En} (h : EOk B x) : B[x.1]? = some (B.getD x.1 []) ∧ vOf B x ∈ B.getD x.1 [] ∧ itAt B x ∈ vOf B x := by
  refine ⟨?_, ?_, ?_⟩
  · rw [List.getD_eq_getElem?_getD, List.getElem?_eq_getElem h.r]; rfl
  · unfold vOf
    rw [List.getD_eq_getElem?_getD (l := B.getD x.1 []), List.getElem?_eq_getElem h.v]
    exact List.getElem_mem _
  · unfold itAt
    rw [List.getD_eq_getElem?_getD, List.getElem?_eq_getElem h.i]
    exact List.getElem_mem _
theorem EOk.ref {B : Bk} (hB : BkOk B) {x : En} (h : EOk B x) {n : Int} (hn : itAt B x = .ref n) : x.1 < n.toNat ∧ n.toNat < B.length ∧ ((n.toNat : Nat) : Int) = n := by
  obtain ⟨a, b, c⟩ := h.mem
  rw [hn] at c
  have := hB.ref a b c
  omega
theorem start_ok {B : Bk} (hB : BkOk B) {T : List Int} (hT : TOk B T) {r : Nat} (hr : r < B.length) : EOk B (r, (T.getD r 0).toNat, 0) := by
  obtain ⟨x, hx⟩ : ∃ x, B[r]? = some x := ⟨_, List.getElem?_eq_getElem hr⟩
  have hgd : B.getD r [] = x := by rw [List.getD_eq_getElem?_getD, hx]; rfl
  obtain ⟨t0, t1⟩ := hT.2 r x hx
  have hv : (T.getD r 0).toNat < x.length := by omega
  refine ⟨hr, by show _ < (B.getD r []).length; rw [hgd]; exact hv, ?_⟩
  show 0 < ((B.getD r []).getD (T.getD r 0).toNat []).length
  rw [hgd]
  have hm : x.getD (T.getD r 0).toNat [] ∈ x := by rw [List.getD_eq_getElem?_getD, List.getElem?_eq_getElem hv]; exact List.getElem_mem _
  exact (hB.verse hx hm).1
theorem desc_more {B : Bk} (hB : BkOk B) : ∀ (f : Nat) (T : List Int) (x : En) (st : List En), TOk B T → EOk B x → B.length - x.1 ≤ f → mDesc B (f + 1) (T, x :: st) = mDesc B f (T, x :: st)
  | 0, T, x, st, hT, hx, h => by have := hx.r; omega
  | f + 1, T, x, st, hT, hx, h => by
    show (match itAt B x with
      | .ref n => mDesc B (f + 1) (mStart B (T, x :: st) n.toNat)
      | .wd _ => (T, x :: st)) = (match itAt B x with
      | .ref n => mDesc B f (mStart B (T, x :: st) n.toNat)
      | .wd _ => (T, x :: st))
    cases hi : itAt B x with
    | wd y => rfl
    | ref n =>
      obtain ⟨h1, h2, h3⟩ := hx.ref hB hi
      exact desc_more hB f _ _ _ (nxt_ok hB hT h2) (start_ok hB hT h2) (by show B.length - n.toNat ≤ f; omega)
theorem desc_ref {B : Bk} (hB : BkOk B) {T : List Int} {x : En} {st : List En} (hT : TOk B T) (hx : EOk B x) {n : Int} (hn : itAt B x = .ref n) : mDesc B 60 (T, x :: st) = mDesc B 60 (mStart B (T, x :: st) n.toNat) := by
  obtain ⟨h1, h2, h3⟩ := hx.ref hB hn
  have h60 := hB.le
  have e : mDesc B 60 (T, x :: st) = mDesc B 59 (mStart B (T, x :: st) n.toNat) := by
    show (match itAt B x with
      | .ref n => mDesc B 59 (mStart B (T, x :: st) n.toNat)
      | .wd _ => (T, x :: st)) = _
    rw [hn]
  rw [e]
  exact (desc_more hB 59 _ _ _ (nxt_ok hB hT h2) (start_ok hB hT h2) (by show B.length - n.toNat ≤ 59; omega)).symm
theorem desc_wd {B : Bk} {T : List Int} {x : En} {st : List En} {y : Str} (hn : itAt B x = .wd y) : mDesc B 60 (T, x :: st) = (T, x :: st) := by
  show (match itAt B x with
    | .ref n => mDesc B 59 (mStart B (T, x :: st) n.toNat)
    | .wd _ => (T, x :: st)) = _
  rw [hn]
theorem top_ref {B : Bk} (hB : BkOk B) {T : List Int} {x : En} {st : List En} (hT : TOk B T) (hx : EOk B x) {n : Int} (hn : itAt B x = .ref n) : mTop B (T, x :: st) = mTop B (mStart B (T, x :: st) n.toNat) := desc_ref hB hT hx hn
theorem top_wd {B : Bk} {T : List Int} {x : En} {st : List En} {y : Str} (hn : itAt B x = .wd y) : mTop B (T, x :: st) = (T, x :: st) := desc_wd hn
theorem top_nil {B : Bk} {T : List Int} : mTop B (T, []) = mTop B (mStart B (T, []) 0) := rfl
def Cal (B : Bk) (w : List Itm) (l l' : List Int) : Prop := l'.length = B.length ∧ ∀ n, n < B.length → l'.getD n 0 = l.getD n 0 + cntR n w
def Run (B : Bk) (T : List Int) (w : List Itm) (m : Nat) (T2 : List Int) : Prop := ∀ l l', l.length = B.length → Cal B w l l' → fT B T l' = fT B T2 l ∧ wA B T l' = wA B T2 l + m
def Call (B : Bk) (T : List Int) (r : Nat) (n : Nat) (T2 : List Int) : Prop := ∀ l l', l.length = B.length → l'.length = B.length → (∀ j, j < B.length → l'.getD j 0 = l.getD j 0 + if j = r then 1 else 0) → fT B T l' = fT B T2 l ∧ wA B T l' = wA B T2 l + n
theorem getD_ext {l l' : List Int} (h : l.length = l'.length) (g : ∀ n, n < l.length → l.getD n 0 = l'.getD n 0) : l = l' := by
  refine List.ext_getElem? fun i => ?_
  by_cases hi : i < l.length
  · have := g i hi
    rw [List.getD_eq_getElem?_getD, List.getD_eq_getElem?_getD, List.getElem?_eq_getElem hi, List.getElem?_eq_getElem (by omega)] at this
    rw [List.getElem?_eq_getElem hi, List.getElem?_eq_getElem (by omega)]
    simpa using this
  · rw [List.getElem?_eq_none (by omega), List.getElem?_eq_none (by omega)]
/-- one more call among the pending ones -/
theorem mk_list (N : Nat) (f : Nat → Int) : ∃ l : List Int, l.length = N ∧ ∀ n, n < N → l.getD n 0 = f n := by
  refine ⟨(List.range N).map f, by rw [List.length_map, List.length_range], fun n hn => ?_⟩
  rw [List.getD_eq_getElem?_getD, List.getElem?_map, List.getElem?_range hn]; rfl
theorem Run.nil {B : Bk} {T : List Int} : Run B T [] 0 T := fun l l' h1 ⟨h2, h3⟩ => by
  have : l' = l := getD_ext (by omega) fun n hn => by
    rw [h3 n (by omega)]
    show _ + 0 = _
    omega
  rw [this]
  exact ⟨rfl, by simp⟩
theorem Run.wd {B : Bk} {T T2 : List Int} {w : List Itm} {m : Nat} {y : Str} (h : Run B T w m T2) : Run B T (.wd y :: w) m T2 := fun l l' h1 ⟨h2, h3⟩ => h l l' h1 ⟨h2, fun n hn => by
  rw [h3 n hn, cntR_cons, if_neg (by intro z; cases z)]; omega⟩
theorem Run.ref {B : Bk} {T T1 T2 : List Int} {w : List Itm} {k m : Nat} {n : Int} (hn : ((n.toNat : Nat) : Int) = n) (h0 : Call B T n.toNat k T1) (h : Run B T1 w m T2) : Run B T (.ref n :: w) (k + m) T2 := fun l l' h1 ⟨h2, h3⟩ => by
  obtain ⟨q, hq, hq2⟩ := mk_list B.length fun j => l.getD j 0 + cntR j w
  obtain ⟨a, b⟩ := h0 q l' hq h2 fun j hj => by
    rw [h3 j hj, hq2 j hj, cntR_cons]
    by_cases c : j = n.toNat
    · rw [if_pos c, if_pos (by congr 1; omega)]; omega
    · rw [if_neg c, if_neg (fun z => by cases z; exact c (by omega))]; omega
  obtain ⟨c, d⟩ := h l q h1 ⟨hq, hq2⟩
  rw [a, b, c, d]
  exact ⟨rfl, by omega⟩
def pos (B : Bk) (r v i : Nat) (st : List En) : List En := if i = (vOf B (r, v, i)).length then fin B st else (r, v, i) :: st
end K03
set_option Elab.async false
set_option linter.all false
set_option maxRecDepth 100000
set_option maxHeartbeats 2000000
set_option exponentiation.threshold 5000
namespace K03
open PySem PySem.Spec D3 K20 K11
/-- the stack: the innermost entry first -/
def Chn (B : Bk) : List En → Prop
  | [] => True
  | [x] => x.1 = 0
  | x :: y :: st => itAt B y = .ref (x.1 : Int) ∧ Chn B (y :: st)
structure SOk (B : Bk) (s : Ps) : Prop where
  t : TOk B s.1
  e : ∀ x ∈ s.2, EOk B x
  c : Chn B s.2
  n : ∀ x ∈ s.2, s.1.getD x.1 0 = ((x.2.1 : Int) + 1) % ((B.getD x.1 []).length : Int)
theorem SOk.nil {B : Bk} {T : List Int} (h : TOk B T) : SOk B (T, []) := ⟨h, fun x hx => (by cases hx), trivial, fun x hx => (by cases hx)⟩
theorem SOk.depth {B : Bk} (hB : BkOk B) : ∀ {st : List En}, (∀ x ∈ st, EOk B x) → Chn B st → ∀ x ∈ st.head?, st.length ≤ x.1 + 1 ∧ ∀ y ∈ st.tail, y.1 < x.1
  | [], _, _, x, h => by cases h
  | [x], _, _, z, h => by
    cases h
    exact ⟨by simp, fun y hy => by cases hy⟩
  | x :: y :: st, he, ⟨h1, h2⟩, z, h => by
    cases h
    obtain ⟨a, b⟩ := SOk.depth hB (fun z hz => he z (List.mem_cons_of_mem _ hz)) h2 y rfl
    have := (he y (List.mem_cons_of_mem _ List.mem_cons_self)).ref hB h1
    have hxy : y.1 < x.1 := by omega
    refine ⟨by rw [List.length_cons]; omega, fun w hw => ?_⟩
    rcases List.mem_cons.mp hw with e | e
    · rw [e]; exact hxy
    · have := b w e; omega
theorem SOk.start {B : Bk} (hB : BkOk B) {T : List Int} {st : List En} (h : SOk B (T, st)) {r : Nat} (hr : (st = [] ∧ r = 0) ∨ ∃ x st', st = x :: st' ∧ itAt B x = .ref (r : Int)) : SOk B (mStart B (T, st) r) := by
  have hpos := hB.pos
  have hrl : r < B.length := by
    rcases hr with ⟨_, rfl⟩ | ⟨x, st', rfl, hx⟩
    · exact hpos
    · have := (h.e x List.mem_cons_self).ref hB hx
      simpa using this.2.1
  have hlt : ∀ y ∈ st, y.1 < r := by
    rcases hr with ⟨rfl, _⟩ | ⟨x, st', rfl, hx⟩
    · intro y hy; cases hy
    · have h1 := (h.e x List.mem_cons_self).ref hB hx
      have h2 := (SOk.depth hB h.e h.c x rfl).2
      intro y hy
      rcases List.mem_cons.mp hy with e | e
      · rw [e]; omega
      · have := h2 y e; omega
  obtain ⟨x, hx⟩ : ∃ x, B[r]? = some x := ⟨_, List.getElem?_eq_getElem hrl⟩
  have hgd : B.getD r [] = x := by rw [List.getD_eq_getElem?_getD, hx]; rfl
  obtain ⟨t0, t1⟩ := h.t.2 r x hx
  refine ⟨nxt_ok hB h.t hrl, fun y hy => ?_, ?_, fun y hy => ?_⟩
  · rcases List.mem_cons.mp hy with e | e
    · rw [e]; exact start_ok hB h.t hrl
    · exact h.e y e
  · rcases hr with ⟨rfl, rfl⟩ | ⟨x, st', rfl, hx⟩
    · exact rfl
    · exact ⟨hx, h.c⟩
  · show (nxt B T r).getD y.1 0 = _
    rcases List.mem_cons.mp hy with e | e
    · rw [e]
      show (nxt B T r).getD r 0 = (((T.getD r 0).toNat : Nat) + 1 : Int) % ((B.getD r []).length : Int)
      have : TOk B T := h.t
      rw [nxt_eq (by rw [this.1]; exact hrl), Int.toNat_of_nonneg t0]
    · have := hlt y e
      rw [nxt_ne (by omega)]
      exact h.n y e
theorem SOk.fin {B : Bk} {T : List Int} : ∀ {st : List En}, SOk B (T, st) → SOk B (T, fin B st)
  | [], h => h
  | x :: st, h => by
    have hc : Chn B st := by
      cases st with
      | nil => trivial
      | cons y st => exact h.c.2
    unfold K03.fin
    split
    · exact SOk.fin ⟨h.t, fun y hy => h.e y (List.mem_cons_of_mem _ hy), hc, fun y hy => h.n y (List.mem_cons_of_mem _ hy)⟩
    · rename_i hne
      have hx := h.e x List.mem_cons_self
      refine ⟨h.t, fun y hy => ?_, ?_, fun y hy => ?_⟩
      · rcases List.mem_cons.mp hy with e | e
        · rw [e]
          refine ⟨hx.r, hx.v, ?_⟩
          have h1 := hx.i
          show x.2.2 + 1 < (vOf B x).length
          omega
        · exact h.e y (List.mem_cons_of_mem _ e)
      · cases st with
        | nil => exact h.c
        | cons y st => exact ⟨h.c.1, h.c.2⟩
      · rcases List.mem_cons.mp hy with e | e
        · rw [e]; exact h.n x List.mem_cons_self
        · exact h.n y (List.mem_cons_of_mem _ e)
theorem SOk.desc {B : Bk} (hB : BkOk B) : ∀ (f : Nat) (T : List Int) (st : List En), SOk B (T, st) → SOk B (mDesc B f (T, st))
  | 0, T, st, h => h
  | f + 1, T, [], h => h
  | f + 1, T, x :: st, h => by
    show SOk B (match itAt B x with
      | .ref n => mDesc B f (mStart B (T, x :: st) n.toNat)
      | .wd _ => (T, x :: st))
    cases hi : itAt B x with
    | wd y => exact h
    | ref n =>
      have hn := (h.e x List.mem_cons_self).ref hB hi
      exact SOk.desc hB f _ _ (h.start hB (.inr ⟨x, st, rfl, by rw [hi, hn.2.2]⟩))
theorem SOk.beg {B : Bk} (hB : BkOk B) {s : Ps} (h : SOk B s) : SOk B (mBeg B s) := by
  obtain ⟨T, st⟩ := s
  cases st with
  | nil => exact h.start hB (.inl ⟨rfl, rfl⟩)
  | cons x st => exact h
theorem SOk.top {B : Bk} (hB : BkOk B) {s : Ps} (h : SOk B s) : SOk B (mTop B s) := by
  obtain ⟨T, st⟩ := s
  exact SOk.desc hB _ _ _ (h.beg hB)
theorem SOk.next {B : Bk} (hB : BkOk B) {s : Ps} (h : SOk B s) : SOk B (mNext B s) := (h.top hB).fin
theorem SOk.it {B : Bk} (hB : BkOk B) : ∀ (n : Nat) {s : Ps}, SOk B s → SOk B (K03.it B n s)
  | 0, _, h => h
  | n + 1, _, h => SOk.it hB n (h.next hB)
/-- the top of a state is at a word -/
theorem desc_word {B : Bk} (hB : BkOk B) : ∀ (f : Nat) (T : List Int) (x : En) (st : List En), SOk B (T, x :: st) → B.length - x.1 ≤ f → ∃ T' y st' w, mDesc B f (T, x :: st) = (T', y :: st') ∧ itAt B y = .wd w
  | 0, T, x, st, h, hf => by have := (h.e x List.mem_cons_self).r; omega
  | f + 1, T, x, st, h, hf => by
    have e : mDesc B (f + 1) (T, x :: st) = (match itAt B x with
      | .ref n => mDesc B f (mStart B (T, x :: st) n.toNat)
      | .wd _ => (T, x :: st)) := rfl
    rw [e]
    cases hi : itAt B x with
    | wd y => exact ⟨T, x, st, y, rfl, hi⟩
    | ref n =>
      have hn := (h.e x List.mem_cons_self).ref hB hi
      exact desc_word hB f _ _ _ (h.start hB (.inr ⟨x, st, rfl, by rw [hi, hn.2.2]⟩)) (by show B.length - n.toNat ≤ f; omega)
theorem top_word {B : Bk} (hB : BkOk B) {s : Ps} (h : SOk B s) : ∃ T' y st' w, mTop B s = (T', y :: st') ∧ itAt B y = .wd w := by
  have h60 := hB.le
  have hb := h.beg hB
  unfold mTop
  obtain ⟨T, st⟩ := s
  cases st with
  | nil => exact desc_word hB 60 _ _ _ hb (by show B.length - 0 ≤ 60; omega)
  | cons x st => exact desc_word hB 60 _ _ _ hb (by omega)
end K03
set_option Elab.async false
set_option linter.all false
set_option maxRecDepth 100000
set_option maxHeartbeats 2000000
set_option exponentiation.threshold 5000
namespace K03
open PySem PySem.Spec D3 K20 K11
structure Frm (F : List Nat) (S S' : Store) : Prop where
  len : S.length ≤ S'.length
  get : ∀ i, i < S.length → i ∉ F → S'[i]? = S[i]?
theorem Frm.refl (F : List Nat) (S : Store) : Frm F S S := ⟨Nat.le_refl _, fun _ _ _ => rfl⟩
theorem Frm.at {F : List Nat} {S S' : Store} (h : Frm F S S') {i : Nat} {m : Mo} (hi : S[i]? = some m) (hn : i ∉ F) : S'[i]? = some m := by rw [h.get i (at_lt hi) hn, hi]
theorem Frm.trans {F F1 : List Nat} {S S1 S2 : Store} (h : Frm F S S1) (h1 : Frm F1 S1 S2) (hs : ∀ i ∈ F1, i ∈ F ∨ S.length ≤ i) : Frm F S S2 := by
  refine ⟨Nat.le_trans h.len h1.len, fun i hi hn => ?_⟩
  rw [h1.get i (Nat.lt_of_lt_of_le hi h.len) (fun z => by rcases hs i z with w | w; exact hn w; omega), h.get i hi hn]
theorem Frm.mono {F F1 : List Nat} {S S1 : Store} (h : Frm F S S1) (hs : ∀ i ∈ F, i ∈ F1) : Frm F1 S S1 := ⟨h.len, fun i hi hn => h.get i hi fun z => hn (hs i z)⟩
theorem Frm.set {F : List Nat} {S : Store} {i : Nat} {m : Mo} (h : i ∈ F) : Frm F S (S.set i m) := ⟨by rw [List.length_set]; exact Nat.le_refl _, fun j hj hn => List.getElem?_set_ne (fun z => hn (by rw [← z]; exact h))⟩
theorem Frm.app {F : List Nat} {S T : Store} : Frm F S (S ++ T) := ⟨by rw [List.length_append]; omega, fun j hj _ => List.getElem?_append_left hj⟩
theorem Frm.then {F : List Nat} {S S1 S2 : Store} (h : Frm F S S1) (h1 : Frm F S1 S2) : Frm F S S2 := h.trans h1 fun _ z => .inl z
def enD (x : En) : List Dv := [.int x.1, .int x.2.1, .int x.2.2]
def Ent (S : Store) : List Nat → List En → Prop
  | [], [] => True
  | a :: as, x :: st => S[a]? = some (.lst (enD x)) ∧ Ent S as st
  | _, _ => False
theorem Ent.frm {F : List Nat} {S S' : Store} (h : Frm F S S') : ∀ {as : List Nat} {st : List En}, Ent S as st → (∀ a ∈ as, a ∉ F) → Ent S' as st
  | [], [], _, _ => trivial
  | a :: as, x :: st, ⟨h1, h2⟩, hn => ⟨h.at h1 (hn a List.mem_cons_self), Ent.frm h h2 fun b hb => hn b (List.mem_cons_of_mem _ hb)⟩
  | [], _ :: _, h, _ => h.elim
  | _ :: _, [], h, _ => h.elim
theorem Ent.len {S : Store} : ∀ {as : List Nat} {st : List En}, Ent S as st → as.length = st.length
  | [], [], _ => rfl
  | _ :: as, _ :: st, ⟨_, h⟩ => by rw [List.length_cons, List.length_cons, h.len]
  | [], _ :: _, h => h.elim
  | _ :: _, [], h => h.elim
theorem Ent.mem {S : Store} : ∀ {as : List Nat} {st : List En}, Ent S as st → ∀ a ∈ as, a < S.length
  | [], [], _, a, h => by cases h
  | a :: as, x :: st, ⟨h1, h2⟩, b, hb => by
    rcases List.mem_cons.mp hb with e | e
    · rw [e]; exact at_lt h1
    · exact h2.mem b e
  | [], _ :: _, h, _, _ => h.elim
  | _ :: _, [], h, _, _ => h.elim
def pfF (B : Bk) (t e : Nat) : List (Str × Dv) := [("book", bkD B), ("turns", .obj t), ("entries", .obj e)]
structure Pm (C : Addr) (S : Store) (p t e : Nat) (as : List Nat) (B : Bk) (s : Ps) : Prop where
  hi : S[p]? = some (.ins C (pfF B t e))
  ht : S[t]? = some (.lst (s.1.map Dv.int))
  he : S[e]? = some (.lst (as.reverse.map Dv.obj))
  ha : Ent S as s.2
  nd : (p :: t :: e :: as).Nodup
/-- the performance has gone on -/
structure Mv (C : Addr) (S : Store) (p t e : Nat) (as : List Nat) (B : Bk) (S' : Store) (as' : List Nat) (s' : Ps) : Prop where
  m : Pm C S' p t e as' B s'
  f : Frm (t :: e :: as) S S'
  s : ∀ a ∈ as', a ∈ as ∨ S.length ≤ a
theorem Mv.refl {C : Addr} {S : Store} {p t e : Nat} {as : List Nat} {B : Bk} {s : Ps} (h : Pm C S p t e as B s) : Mv C S p t e as B S as s := ⟨h, .refl _ _, fun _ h => .inl h⟩
theorem Mv.trans {C : Addr} {S S1 S2 : Store} {p t e : Nat} {as as1 as2 : List Nat} {B : Bk} {s1 s2 : Ps} (h : Mv C S p t e as B S1 as1 s1) (h' : Mv C S1 p t e as1 B S2 as2 s2) : Mv C S p t e as B S2 as2 s2 := by
  refine ⟨h'.m, h.f.trans h'.f fun i hi => ?_, fun a ha => ?_⟩
  · rcases List.mem_cons.mp hi with z | z
    · exact .inl (z ▸ List.mem_cons_self)
    · rcases List.mem_cons.mp z with z | z
      · exact .inl (z ▸ List.mem_cons_of_mem _ List.mem_cons_self)
      · rcases h.s i z with w | w
        · exact .inl (List.mem_cons_of_mem _ (List.mem_cons_of_mem _ w))
        · exact .inr w
  · have hl := h.f.len
    rcases h'.s a ha with z | z
    · exact h.s a z
    · exact .inr (by omega)
theorem Pm.ne {C : Addr} {S : Store} {p t e : Nat} {as : List Nat} {B : Bk} {s : Ps} (h : Pm C S p t e as B s) : p ≠ t ∧ p ≠ e ∧ p ∉ as ∧ t ≠ e ∧ t ∉ as ∧ e ∉ as ∧ as.Nodup := by
  have := h.nd
  simp only [List.nodup_cons, List.mem_cons, not_or] at this
  exact ⟨this.1.1, this.1.2.1, this.1.2.2, this.2.1.1, this.2.1.2, this.2.2.1, this.2.2.2⟩
theorem Pm.lt {C : Addr} {S : Store} {p t e : Nat} {as : List Nat} {B : Bk} {s : Ps} (h : Pm C S p t e as B s) : p < S.length ∧ t < S.length ∧ e < S.length ∧ ∀ a ∈ as, a < S.length := ⟨at_lt h.hi, at_lt h.ht, at_lt h.he, h.ha.mem⟩
/-- it lies beside what changes -/
theorem Pm.frm {C : Addr} {S S' : Store} {p t e : Nat} {as : List Nat} {B : Bk} {s : Ps} (h : Pm C S p t e as B s) {F : List Nat} (f : Frm F S S') (hn : ∀ i ∈ p :: t :: e :: as, i ∉ F) : Pm C S' p t e as B s :=
  ⟨f.at h.hi (hn p (by simp)), f.at h.ht (hn t (by simp)), f.at h.he (hn e (by simp)), h.ha.frm f fun a ha => hn a (by simp [ha]), h.nd⟩
theorem set_map {l : List Int} {r : Nat} {x : Int} : (l.map Dv.int).set r (.int x) = (l.set r x).map Dv.int := by rw [List.map_set]
end K03
set_option Elab.async false
set_option linter.all false
set_option maxRecDepth 100000
set_option maxHeartbeats 2000000
set_option exponentiation.threshold 5000
namespace K03
open PySem PySem.Spec D3 K20 K11
def enP (x : En) : PyData := .list [.int x.1, .int x.2.1, .int x.2.2]
theorem den_ents {S : Store} : ∀ {as : List Nat} {st : List En}, Ent S as st → denL (fO S 3) (as.map Dv.obj) = some (st.map enP)
  | [], [], _ => by simp [denL]
  | a :: as, x :: st, ⟨h1, h2⟩ => by
    have ih := den_ents h2
    have e : den (fO S 3) (.obj a) = some (enP x) := by
      show fO S 3 a = _
      rw [fO, getL_iff.mpr h1]
      rfl
    rw [List.map_cons, denL, ih, e]
    rfl
  | [], _ :: _, h => h.elim
  | _ :: _, [], h => h.elim
theorem Ent.app {S : Store} : ∀ {as bs : List Nat} {st su : List En}, Ent S as st → Ent S bs su → Ent S (as ++ bs) (st ++ su)
  | [], _, [], _, _, h => h
  | a :: as, bs, x :: st, su, ⟨h1, h2⟩, h => ⟨h1, Ent.app h2 h⟩
  | [], _, _ :: _, _, h, _ => h.elim
  | _ :: _, _, [], _, h, _ => h.elim
theorem Ent.rev {S : Store} : ∀ {as : List Nat} {st : List En}, Ent S as st → Ent S as.reverse st.reverse
  | [], [], _ => trivial
  | a :: as, x :: st, ⟨h1, h2⟩ => by
    rw [List.reverse_cons, List.reverse_cons]
    exact Ent.app (Ent.rev h2) ⟨h1, trivial⟩
  | [], _ :: _, h => h.elim
  | _ :: _, [], h => h.elim
theorem shaped_ents (st : List En) : SeqAt.shaped (.list (st.map enP)) = true := by
  have h1 : ∀ st : List En, PyData.canLayAll0 (st.map enP) = true := fun st => by
    induction st with
    | nil => simp [PyData.canLayAll0]
    | cons x st ih => simp [PyData.canLayAll0, PyData.canLay0, enP]; exact ih
  have h2 : ∀ st : List En, PyData.depthAll (st.map enP) ≤ 3 := fun st => by
    induction st with
    | nil => simp [PyData.depthAll]
    | cons x st ih => simp [PyData.depthAll, PyData.depth, enP]; omega
  have h3 := h2 st
  have h4 : PyData.depth (.list (st.map enP)) ≤ 64 := by simp [PyData.depth]; omega
  unfold SeqAt.shaped
  rw [decide_eq_true h4, Bool.and_true]
  show PyData.canLayAll0 _ = true
  exact h1 st
theorem eqv_ents (st : List En) : PyData.eqv (.list (st.map enP)) (.list []) = decide (st = []) := by
  cases st <;> simp [PyData.eqv, PyData.eqvAll]
theorem dEq_ents {S : Store} {b c : Nat} {as : List Nat} {st : List En} {Q : KD} (hb : getL S b = some (as.reverse.map Dv.obj)) (ha : Ent S as st) (hc : getL S c = some []) (h : Q (.bl (decide (st = []))) S) : dEq (.obj b) (.obj c) S Q := by
  have e : den (fO S 4) (.obj b) = some (.list (st.reverse.map enP)) := by
    show fO S 4 b = _
    rw [fO, hb]
    show (denL (fO S 3) _).map PyData.list = _
    rw [den_ents ha.rev]; rfl
  refine ⟨_, _, e, fO_ints (ns := []) hc, shaped_ents _, shaped_ints [], ?_⟩
  rw [List.map_nil, eqv_ents]
  have : decide (st.reverse = []) = decide (st = []) := by rw [Bool.eq_iff_iff]; simp
  rw [this]
  exact h
theorem dNe_ents {S : Store} {b c : Nat} {as : List Nat} {st : List En} {Q : KD} (hb : getL S b = some (as.reverse.map Dv.obj)) (ha : Ent S as st) (hc : getL S c = some []) (h : Q (.bl (!decide (st = []))) S) : dNe (.obj b) (.obj c) S Q := by
  have e : den (fO S 4) (.obj b) = some (.list (st.reverse.map enP)) := by
    show fO S 4 b = _
    rw [fO, hb]
    show (denL (fO S 3) _).map PyData.list = _
    rw [den_ents ha.rev]; rfl
  refine ⟨_, _, e, fO_ints (ns := []) hc, shaped_ents _, shaped_ints [], ?_⟩
  rw [List.map_nil, eqv_ents]
  have : decide (st.reverse = []) = decide (st = []) := by rw [Bool.eq_iff_iff]; simp
  rw [this]
  exact h
theorem EOk.ats {B : Bk} {x : En} (h : EOk B x) : (B.map rfD)[x.1]? = some (rfD (B.getD x.1 [])) ∧ ((B.getD x.1 []).map vsD)[x.2.1]? = some (vsD (vOf B x)) ∧ ((vOf B x).map Itm.d)[x.2.2]? = some (itAt B x).d := by
  refine ⟨?_, ?_, ?_⟩
  · rw [List.getElem?_map, h.mem.1]; rfl
  · rw [List.getElem?_map]
    unfold vOf
    rw [List.getD_eq_getElem?_getD (l := B.getD x.1 []), List.getElem?_eq_getElem h.v]; rfl
  · rw [List.getElem?_map]
    unfold itAt
    rw [List.getD_eq_getElem?_getD, List.getElem?_eq_getElem h.i]; rfl
theorem last_obj {as : List Nat} {a : Nat} : L2.atI ((a :: as).reverse.map Dv.obj) (-1) = some (.obj a) := by
  rw [List.reverse_cons, List.map_append]
  exact atI_neg1
def pathD (st : List En) : Dv := .tup (st.reverse.map fun x => .tup (enD x))
theorem ent_zip {S : Store} : ∀ {as : List Nat} {st : List En}, Ent S as st → ∀ p ∈ as.zip st, S[p.1]? = some (.lst (enD p.2))
  | [], [], _, p, h => by cases h
  | a :: as, x :: st, ⟨h1, h2⟩, p, h => by
    rw [List.zip_cons_cons] at h
    rcases List.mem_cons.mp h with e | e
    · rw [e]; exact h1
    · exact ent_zip h2 p e
  | [], _ :: _, h, _, _ => h.elim
  | _ :: _, [], h, _, _ => h.elim
def stD (s : Ps) : Dv := .tup [tsD s.1, pathD s.2]
end K03
set_option Elab.async false
set_option linter.all false
set_option maxRecDepth 100000
set_option maxHeartbeats 2000000
set_option exponentiation.threshold 5000
namespace K03
open PySem PySem.Spec D3 K20 K11
def up1 (x : En) : En := (x.1, x.2.1, x.2.2 + 1)
def bump : List En → List En
  | [] => []
  | x :: st => up1 x :: st
/-- an entry that may be finished -/
structure EW (B : Bk) (x : En) : Prop where
  r : x.1 < B.length
  v : x.2.1 < (B.getD x.1 []).length
theorem EOk.w {B : Bk} {x : En} (h : EOk B x) : EW B x := ⟨h.r, h.v⟩
theorem EW.up {B : Bk} {x : En} (h : EW B x) : EW B (up1 x) := ⟨h.r, h.v⟩
theorem mv_app {C : Addr} {S U : Store} {p t e : Nat} {as : List Nat} {B : Bk} {s : Ps} (h : Pm C S p t e as B s) : Mv C S p t e as B (S ++ U) as s := ⟨h.frm (F := []) Frm.app (fun _ _ z => by cases z), Frm.app, fun _ h => .inl h⟩
theorem as_cons {S : Store} {as : List Nat} {x : En} {st : List En} (h : Ent S as (x :: st)) : ∃ a r, as = a :: r := by
  cases as with
  | nil => exact h.elim
  | cons a r => exact ⟨a, r, rfl⟩
end K03
set_option Elab.async false
set_option linter.all false
set_option maxRecDepth 100000
set_option maxHeartbeats 2000000
set_option exponentiation.threshold 5000
namespace K03
open PySem PySem.Spec D3 K20 K11
theorem sIf_gen {t : TTd} {A : TSd} {D : EndsD} {σ : Sl} {S : Store} (P : Sl → Store → Prop) (h : ∀ K : Sl → Store → Prop, (∀ σ' S', P σ' S' → K σ' S') → sIf t A sNext { D with nx := K } σ S) (q : ∀ σ' S', P σ' S' → D.nx σ' S') : sIf t A sNext D σ S := h D.nx q
theorem SOk.short {B : Bk} (hB : BkOk B) {s : Ps} (h : SOk B s) : s.2.length ≤ 60 := by
  obtain ⟨T, st⟩ := s
  cases st with
  | nil => exact Nat.zero_le _
  | cons x st =>
    have h1 : (x :: st).length ≤ x.1 + 1 := (SOk.depth hB h.e h.c x rfl).1
    have h2 : x.1 < B.length := (h.e x List.mem_cons_self).r
    have h3 := hB.le
    show (x :: st).length ≤ 60
    omega
def outD (B : Bk) (s : Ps) : Dv := match (mTop B s).2 with
  | [] => .non
  | y :: st => .tup [(itAt B y).d, pathD (y :: st)]
theorem Ent.snoc {S : Store} {as : List Nat} {st : List En} {a : Nat} {x : En} (h : Ent S as st) (ha : S[a]? = some (.lst (enD x))) : Ent S (as ++ [a]) (st ++ [x]) := h.app ⟨ha, trivial⟩
end K03
set_option Elab.async false
set_option linter.all false
set_option maxRecDepth 100000
set_option maxHeartbeats 2000000
set_option exponentiation.threshold 5000
namespace K03
open PySem PySem.Spec D3 K20 K11
theorem TOk.ok {B : Bk} {T : List Int} (h : TOk B T) : turnsOk B T = true := by
  unfold turnsOk
  simp only [Bool.and_eq_true, decide_eq_true_eq]
  refine ⟨h.1, List.all_eq_true.mpr ?_⟩
  rintro ⟨t, r⟩ hp
  obtain ⟨k, hk⟩ := List.getElem?_of_mem hp
  obtain ⟨k1, k2⟩ := List.getElem?_zip_eq_some.mp hk
  have k1 : T[k]? = some t := k1
  have k2 : B[k]? = some r := k2
  have := h.2 k r k2
  rw [List.getD_eq_getElem?_getD, k1] at this
  have h0 : 0 ≤ t ∧ t < r.length := this
  show (decide (0 ≤ t) && decide (t < (r.length : Int))) = true
  rw [decide_eq_true h0.1, decide_eq_true h0.2]; rfl
def enT (x : En) : PyData := .tuple [.int x.1, .int x.2.1, .int x.2.2]
theorem den_path {S : Store} : ∀ st : List En, denL (fO S 4) (st.map fun x => Dv.tup (enD x)) = some (st.map enT)
  | [] => by simp [denL]
  | x :: st => by
    rw [List.map_cons, denL, den_path st]
    rfl
theorem shaped_path (st : List En) : SeqAt.shaped (.tuple (st.map enT)) = true := by
  have h1 : ∀ st : List En, PyData.canLayAll0 (st.map enT) = true := fun st => by
    induction st with
    | nil => simp [PyData.canLayAll0]
    | cons x st ih => simp [PyData.canLayAll0, PyData.canLay0, enT]; exact ih
  have h2 : ∀ st : List En, PyData.depthAll (st.map enT) ≤ 3 := fun st => by
    induction st with
    | nil => simp [PyData.depthAll]
    | cons x st ih => simp [PyData.depthAll, PyData.depth, enT]; omega
  have h3 := h2 st
  have h4 : PyData.depth (.tuple (st.map enT)) ≤ 64 := by simp [PyData.depth]; omega
  unfold SeqAt.shaped
  rw [decide_eq_true h4, Bool.and_true]
  show PyData.canLayAll0 _ = true
  exact h1 st
theorem eqv_path (st : List En) : PyData.eqv (.tuple (st.map enT)) (.tuple []) = decide (st = []) := by
  cases st <;> simp [PyData.eqv, PyData.eqvAll]
end K03
set_option Elab.async false
set_option linter.all false
set_option maxRecDepth 100000
set_option maxHeartbeats 2000000
set_option exponentiation.threshold 5000
namespace K03
open PySem PySem.Spec D3 K20 K11
def RowsF (S : Store) (n u : Nat) (rows : List (List Int)) : Prop := ∃ as : List Nat, getL S u = some (as.map Dv.obj) ∧ as.length = rows.length ∧ n ≤ u ∧ (∀ a ∈ as, n ≤ a) ∧ ∀ (k : Nat) row a, rows[k]? = some row → as[k]? = some a → getL S a = some (row.map Dv.int)
end K03
set_option Elab.async false
set_option linter.all false
set_option maxRecDepth 100000
set_option maxHeartbeats 2000000
set_option exponentiation.threshold 5000
namespace K11
open PySem PySem.Spec D3 K20
end K11
set_option Elab.async false
set_option linter.all false
set_option maxRecDepth 100000
set_option maxHeartbeats 2000000
set_option exponentiation.threshold 5000
namespace K03
open PySem PySem.Spec D3 K20 K11
/-- its lists lie where nothing is written -/
theorem RowsF.frm {S S' : Store} {n u : Nat} {rows : List (List Int)} {F : List Nat} (h : RowsF S n u rows) (f : Frm F S S') (hn : ∀ i ∈ F, i < n ∨ S.length ≤ i) : RowsAt S' u rows := by
  obtain ⟨as, h1, h2, h3, h4, h5⟩ := h
  have key : ∀ {i : Nat} {xs : List Dv}, getL S i = some xs → n ≤ i → getL S' i = some xs := fun {i xs} hi hni => by
    have h6 := getL_iff.mp hi
    exact getL_iff.mpr (f.at h6 fun z => by rcases hn i z with w | w; omega; have := at_lt h6; omega)
  refine ⟨as, key h1 h3, h2, fun k row a e1 e2 => key (h5 k row a e1 e2) (h4 a (List.mem_of_getElem? e2))⟩
theorem RowsF.at {S : Store} {n u : Nat} {rows : List (List Int)} (h : RowsF S n u rows) : RowsAt S u rows := h.frm (.refl [] S) fun _ z => by cases z
end K03
set_option Elab.async false
set_option linter.all false
set_option maxRecDepth 100000
set_option maxHeartbeats 2000000
set_option exponentiation.threshold 5000
namespace K03
open PySem PySem.Spec D3 K20 K11
def scF (p c l u : Nat) (n : Int) (w : Nat) : List (Str × Dv) := [("performance", .obj p), ("counter", .obj c), ("lengths", .obj l), ("usage", .obj u), ("passed", .int n), ("weights", .obj w), ("target", .non), ("word", .non)]
structure Imm (CC : Addr) (S : Store) (c l u w : Nat) (us : List Nat) (B : Bk) : Prop where
  hc : ∃ x, S[c]? = some (.ins CC (cntF B x)) ∧ CallsAt S x B
  hl : RowsAt S l (wtsOf B none)
  hw : RowsAt S w (wtsOf B none)
  hu : getL S u = some (us.map Dv.obj)
structure Sc (CS CP CC : Addr) (S : Store) (q p t e : Nat) (as : List Nat) (c l u w : Nat) (us : List Nat) (B : Bk) (s : Ps) : Prop where
  hq : ∃ n : Int, S[q]? = some (.ins CS (scF p c l u n w))
  pm : Pm CP S p t e as B s
  im : ∃ (S0 : Store) (M0 : List Nat), (∀ S', Frm M0 S0 S' → Imm CC S' c l u w us B) ∧ Frm M0 S0 S ∧ ∀ i ∈ q :: p :: t :: e :: (as ++ us), i ∈ M0 ∨ S0.length ≤ i
  ul : us.length = B.length
  ur : ∀ (k : Nat) a r, us[k]? = some a → B[k]? = some r → ∃ row : List Int, S[a]? = some (.lst (row.map Dv.int)) ∧ row.length = r.length
  nd : (q :: p :: t :: e :: (as ++ us)).Nodup
end K03
set_option Elab.async false
set_option linter.all false
set_option maxRecDepth 100000
set_option maxHeartbeats 2000000
set_option exponentiation.threshold 5000
namespace K03
open PySem PySem.Spec D3 K20 K11
structure SMv (CS CP CC : Addr) (S : Store) (q p t e : Nat) (as : List Nat) (c l u w : Nat) (us : List Nat) (B : Bk) (S' : Store) (t' : Nat) (as' : List Nat) (s' : Ps) : Prop where
  sc : Sc CS CP CC S' q p t' e as' c l u w us B s'
  f : Frm (q :: p :: t :: e :: (as ++ us)) S S'
  s : ∀ i ∈ t' :: as', i ∈ t :: as ∨ S.length ≤ i
section
variable {CS CP CC : Addr} {S S' : Store} {q p t e : Nat} {as : List Nat} {c l u w : Nat} {us : List Nat} {B : Bk} {s s' : Ps}
theorem Sc.lt (h : Sc CS CP CC S q p t e as c l u w us B s) : ∀ i ∈ q :: p :: t :: e :: (as ++ us), i < S.length := by
  obtain ⟨a1, a2, a3, a4⟩ := h.pm.lt
  obtain ⟨n, hq⟩ := h.hq
  intro i hi
  simp only [List.mem_cons, List.mem_append] at hi
  rcases hi with z | z | z | z | z | z
  · rw [z]; exact at_lt hq
  · rw [z]; exact a1
  · rw [z]; exact a2
  · rw [z]; exact a3
  · exact a4 i z
  · obtain ⟨k, hk⟩ := List.getElem?_of_mem z
    obtain ⟨r, hr⟩ : ∃ r, B[k]? = some r := ⟨_, List.getElem?_eq_getElem (by rw [← h.ul]; exact at_lt hk)⟩
    obtain ⟨row, h1, _⟩ := h.ur k i r hk hr
    exact at_lt h1
theorem SMv.refl (h : Sc CS CP CC S q p t e as c l u w us B s) : SMv CS CP CC S q p t e as c l u w us B S t as s := ⟨h, .refl _ _, fun _ z => .inl z⟩
theorem SMv.old {t' : Nat} {as' : List Nat} (h : SMv CS CP CC S q p t e as c l u w us B S' t' as' s') : ∀ i ∈ q :: p :: t' :: e :: (as' ++ us), i ∈ q :: p :: t :: e :: (as ++ us) ∨ S.length ≤ i := fun i hi => by
  have h1 := h.s i
  simp only [List.mem_cons, List.mem_append] at hi h1 ⊢
  rcases hi with z | z | z | z | z | z
  · exact .inl (.inl z)
  · exact .inl (.inr (.inl z))
  · rcases h1 (.inl z) with (y | y) | y
    · exact .inl (.inr (.inr (.inl y)))
    · exact .inl (.inr (.inr (.inr (.inr (.inl y)))))
    · exact .inr y
  · exact .inl (.inr (.inr (.inr (.inl z))))
  · rcases h1 (.inr z) with (y | y) | y
    · exact .inl (.inr (.inr (.inl y)))
    · exact .inl (.inr (.inr (.inr (.inr (.inl y)))))
    · exact .inr y
  · exact .inl (.inr (.inr (.inr (.inr (.inr z)))))
theorem SMv.trans {S2 : Store} {t1 t2 : Nat} {as1 as2 : List Nat} {s2 : Ps} (h : SMv CS CP CC S q p t e as c l u w us B S' t1 as1 s') (h' : SMv CS CP CC S' q p t1 e as1 c l u w us B S2 t2 as2 s2) : SMv CS CP CC S q p t e as c l u w us B S2 t2 as2 s2 := by
  refine ⟨h'.sc, h.f.trans h'.f h.old, fun i hi => ?_⟩
  have hl := h.f.len
  rcases h'.s i hi with z | z
  · exact h.s i z
  · exact .inr (by omega)
/-- new lists, the same scanner -/
theorem Sc.upd {t' : Nat} {as' : List Nat} (h : Sc CS CP CC S q p t e as c l u w us B s) (hq : ∃ n : Int, S'[q]? = some (.ins CS (scF p c l u n w))) (pm : Pm CP S' p t' e as' B s') (f : Frm (q :: p :: t :: e :: (as ++ us)) S S')
    (hs : ∀ i ∈ t' :: as', i ∈ t :: as ∨ S.length ≤ i) (ur : ∀ (k : Nat) a r, us[k]? = some a → B[k]? = some r → ∃ row : List Int, S'[a]? = some (.lst (row.map Dv.int)) ∧ row.length = r.length) : SMv CS CP CC S q p t e as c l u w us B S' t' as' s' := by
  have hlt := h.lt
  have nd := h.nd
  have hold : ∀ i ∈ p :: t' :: e :: as', i ∈ p :: t :: e :: as ∨ S.length ≤ i := fun i hi => by
    have h1 := hs i
    simp only [List.mem_cons] at hi h1 ⊢
    rcases hi with z | z | z | z
    · exact .inl (.inl z)
    · rcases h1 (.inl z) with (y | y) | y
      · exact .inl (.inr (.inl y))
      · exact .inl (.inr (.inr (.inr y)))
      · exact .inr y
    · exact .inl (.inr (.inr (.inl z)))
    · rcases h1 (.inr z) with (y | y) | y
      · exact .inl (.inr (.inl y))
      · exact .inl (.inr (.inr (.inr y)))
      · exact .inr y
  have e1 : ∀ t as, p :: t :: e :: (as ++ us) = (p :: t :: e :: as) ++ us := fun _ _ => rfl
  rw [e1, List.nodup_cons, List.mem_append, not_or, List.nodup_append] at nd
  obtain ⟨⟨m1, m2⟩, m3, m4, m5⟩ := nd
  refine ⟨⟨hq, pm, ?_, h.ul, ur, ?_⟩, f, hs⟩
  · obtain ⟨S0, M0, h1, h2, h3⟩ := h.im
    refine ⟨S0, M0, h1, h2.trans f h3, fun i hi => ?_⟩
    have hl := h2.len
    rw [e1] at hi
    have hi : i = q ∨ i ∈ p :: t' :: e :: as' ∨ i ∈ us := by
      rcases List.mem_cons.mp hi with z | z
      · exact .inl z
      · exact .inr (List.mem_append.mp z)
    have h4 : ∀ j ∈ p :: t :: e :: as, j ∈ M0 ∨ S0.length ≤ j := fun j hj => h3 j (List.mem_cons_of_mem _ (by rw [e1]; exact List.mem_append_left _ hj))
    rcases hi with z | z | z
    · exact h3 i (by rw [z]; exact List.mem_cons_self)
    · rcases hold i z with y | y
      · exact h4 i y
      · exact .inr (by omega)
    · exact h3 i (List.mem_cons_of_mem _ (by rw [e1]; exact List.mem_append_right _ z))
  · rw [e1, List.nodup_cons, List.mem_append, not_or, List.nodup_append]
    refine ⟨⟨fun z => ?_, m2⟩, pm.nd, m4, fun a ha b hb z => ?_⟩
    · rcases hold q z with y | y
      · exact m1 y
      · have := hlt q List.mem_cons_self; omega
    · rcases hold a ha with y | y
      · exact m5 a y b hb z
      · have := hlt b (List.mem_cons_of_mem _ (by rw [e1]; exact List.mem_append_right _ hb)); omega
theorem Sc.mv {as' : List Nat} (h : Sc CS CP CC S q p t e as c l u w us B s) (m : Mv CP S p t e as B S' as' s') : SMv CS CP CC S q p t e as c l u w us B S' t as' s' := by
  have nd := h.nd
  simp only [List.nodup_cons, List.mem_cons, List.mem_append, not_or, List.nodup_append] at nd
  obtain ⟨⟨a1, a2, a3, a4, a5⟩, ⟨b1, b2, b3, b4⟩, ⟨c1, c2, c3⟩, ⟨d1, d2⟩, e1, e2, e3⟩ := nd
  obtain ⟨n, hq⟩ := h.hq
  refine h.upd ⟨n, m.f.at hq ?_⟩ m.m (m.f.mono fun i hi => ?_) (fun i hi => ?_) fun k a r h1 h2 => ?_
  · simp only [List.mem_cons, not_or]; exact ⟨a2, a3, a4⟩
  · simp only [List.mem_cons, List.mem_append] at hi ⊢
    rcases hi with z | z | z
    · exact .inr (.inr (.inl z))
    · exact .inr (.inr (.inr (.inl z)))
    · exact .inr (.inr (.inr (.inr (.inl z))))
  · rcases List.mem_cons.mp hi with z | z
    · exact .inl (by rw [z]; exact List.mem_cons_self)
    · rcases m.s i z with y | y
      · exact .inl (List.mem_cons_of_mem _ y)
      · exact .inr y
  · obtain ⟨row, h3, h4⟩ := h.ur k a r h1 h2
    have ha := List.mem_of_getElem? h1
    refine ⟨row, m.f.at h3 ?_, h4⟩
    simp only [List.mem_cons, not_or]
    refine ⟨?_, ?_, ?_⟩
    · rintro rfl; exact c3 ha
    · rintro rfl; exact d2 ha
    · exact fun z => e3 a z a ha rfl
theorem Sc.app {T : Store} (h : Sc CS CP CC S q p t e as c l u w us B s) : SMv CS CP CC S q p t e as c l u w us B (S ++ T) t as s := h.mv (mv_app h.pm)
end
end K03
set_option Elab.async false
set_option linter.all false
set_option maxRecDepth 100000
set_option maxHeartbeats 2000000
set_option exponentiation.threshold 5000
namespace K03
open PySem PySem.Spec D3 K20 K11
end K03
set_option Elab.async false
set_option linter.all false
set_option maxRecDepth 100000
set_option maxHeartbeats 2000000
set_option exponentiation.threshold 5000
namespace K03
open PySem PySem.Spec D3 K20 K11
end K03
set_option Elab.async false
set_option linter.all false
set_option maxRecDepth 100000
set_option maxHeartbeats 2000000
set_option exponentiation.threshold 5000
namespace K03
open PySem PySem.Spec D3 K20 K11
end K03
set_option Elab.async false
set_option linter.all false
set_option maxRecDepth 100000
set_option maxHeartbeats 2000000
set_option exponentiation.threshold 5000
namespace K03
open PySem PySem.Spec D3 K20 K11
end K03
set_option Elab.async false
set_option linter.all false
set_option maxRecDepth 100000
set_option maxHeartbeats 2000000
set_option exponentiation.threshold 5000
namespace K03
open PySem PySem.Spec D3 K20 K11
def ldK (t e z : Nat) : List (L2.Key × Dv) := [(.inr "turns", .obj t), (.inr "path", .obj e), (.inr "starts", .obj z)]
structure Ld (S : Store) (d t e z : Nat) (as : List Nat) (s : Ps) (nz : Nat) : Prop where
  hd : S[d]? = some (.dk (ldK t e z))
  ht : S[t]? = some (.lst (s.1.map Dv.int))
  he : S[e]? = some (.lst (as.reverse.map Dv.obj))
  ha : Ent S as s.2
  hz : ∃ zs, S[z]? = some (.lst zs) ∧ zs.length ≤ nz
  nd : (d :: t :: e :: z :: as).Nodup
structure LMv (S : Store) (d t e z : Nat) (as : List Nat) (S' : Store) (as' : List Nat) (s' : Ps) (nz' : Nat) : Prop where
  m : Ld S' d t e z as' s' nz'
  f : Frm (t :: e :: z :: as) S S'
  s : ∀ a ∈ as', a ∈ as ∨ S.length ≤ a
section
variable {S S' : Store} {d t e z : Nat} {as as' : List Nat} {s s' : Ps} {nz nz' : Nat}
theorem Ld.ne (h : Ld S d t e z as s nz) : (d ≠ t ∧ d ≠ e ∧ d ≠ z ∧ d ∉ as) ∧ (t ≠ e ∧ t ≠ z ∧ t ∉ as) ∧ (e ≠ z ∧ e ∉ as) ∧ z ∉ as ∧ as.Nodup := by
  have := h.nd
  simp only [List.nodup_cons, List.mem_cons, not_or] at this
  exact this
theorem Ld.lt (h : Ld S d t e z as s nz) : d < S.length ∧ t < S.length ∧ e < S.length ∧ z < S.length ∧ ∀ a ∈ as, a < S.length := by
  obtain ⟨zs, hz, _⟩ := h.hz
  exact ⟨at_lt h.hd, at_lt h.ht, at_lt h.he, at_lt hz, h.ha.mem⟩
theorem Ld.frm (h : Ld S d t e z as s nz) {F : List Nat} (f : Frm F S S') (hn : ∀ i ∈ d :: t :: e :: z :: as, i ∉ F) : Ld S' d t e z as s nz := by
  obtain ⟨zs, hz, hl⟩ := h.hz
  exact ⟨f.at h.hd (hn d (by simp)), f.at h.ht (hn t (by simp)), f.at h.he (hn e (by simp)), h.ha.frm f fun a ha => hn a (by simp [ha]), ⟨zs, f.at hz (hn z (by simp)), hl⟩, h.nd⟩
theorem Ld.app {T : Store} (h : Ld S d t e z as s nz) : Ld (S ++ T) d t e z as s nz := h.frm (F := []) .app fun _ _ z => by cases z
theorem LMv.refl (h : Ld S d t e z as s nz) : LMv S d t e z as S as s nz := ⟨h, .refl _ _, fun _ h => .inl h⟩
theorem LMv.app {T : Store} (h : Ld S d t e z as s nz) : LMv S d t e z as (S ++ T) as s nz := ⟨h.app, .app, fun _ h => .inl h⟩
theorem LMv.trans {S2 : Store} {as2 : List Nat} {s2 : Ps} {n2 : Nat} (h : LMv S d t e z as S' as' s' nz') (h' : LMv S' d t e z as' S2 as2 s2 n2) : LMv S d t e z as S2 as2 s2 n2 := by
  refine ⟨h'.m, h.f.trans h'.f fun i hi => ?_, fun a ha => ?_⟩
  · simp only [List.mem_cons] at hi ⊢
    rcases hi with w | w | w | w
    · exact .inl (.inl w)
    · exact .inl (.inr (.inl w))
    · exact .inl (.inr (.inr (.inl w)))
    · rcases h.s i w with y | y
      · exact .inl (.inr (.inr (.inr y)))
      · exact .inr y
  · have hl := h.f.len
    rcases h'.s a ha with w | w
    · exact h.s a w
    · exact .inr (by omega)
/-- the turns are written -/
theorem Ld.setT (h : Ld S d t e z as s nz) (T : List Int) : LMv S d t e z as (S.set t (.lst (T.map Dv.int))) as (T, s.2) nz := by
  obtain ⟨⟨a1, a2, a3, a4⟩, ⟨b1, b2, b3⟩, ⟨c1, c2⟩, d1, d2⟩ := h.ne
  have f : Frm [t] S (S.set t (.lst (T.map Dv.int))) := .set List.mem_cons_self
  have h1 : ∀ {j}, j ≠ t → j ∉ [t] := fun h z => h (List.mem_singleton.mp z)
  obtain ⟨zs, hz, hl⟩ := h.hz
  exact ⟨⟨f.at h.hd (h1 a1), List.getElem?_set_self (at_lt h.ht), f.at h.he (h1 b1.symm), h.ha.frm f fun a ha => h1 fun z => b3 (by rw [← z]; exact ha), ⟨zs, f.at hz (h1 b2.symm), hl⟩, h.nd⟩, f.mono fun i hi => by rw [List.mem_singleton.mp hi]; simp, fun _ h => .inl h⟩
/-- an entry is put on the stack -/
theorem Ld.push (h : Ld S d t e z as s nz) (x : En) : LMv S d t e z as ((S ++ [Mo.lst (enD x)]).set e (.lst ((S.length :: as).reverse.map Dv.obj))) (S.length :: as) (s.1, x :: s.2) nz := by
  obtain ⟨⟨a1, a2, a3, a4⟩, ⟨b1, b2, b3⟩, ⟨c1, c2⟩, d1, d2⟩ := h.ne
  obtain ⟨l1, l2, l3, l4, l5⟩ := h.lt
  have f : Frm [e] S ((S ++ [Mo.lst (enD x)]).set e (.lst ((S.length :: as).reverse.map Dv.obj))) := Frm.app.then (.set List.mem_cons_self)
  have h1 : ∀ {j}, j ≠ e → j ∉ [e] := fun h z => h (List.mem_singleton.mp z)
  obtain ⟨zs, hz, hl⟩ := h.hz
  refine ⟨⟨f.at h.hd (h1 a2), f.at h.ht (h1 b1), List.getElem?_set_self (by rw [List.length_append]; omega), ⟨by rw [List.getElem?_set_ne (by omega)]; exact get_at, h.ha.frm f fun a ha => h1 fun z => c2 (by rw [← z]; exact ha)⟩, ⟨zs, f.at hz (h1 c1.symm), hl⟩, ?_⟩, f.mono fun i hi => by rw [List.mem_singleton.mp hi]; simp, fun a ha => ?_⟩
  · simp only [List.nodup_cons, List.mem_cons, not_or]
    exact ⟨⟨a1, a2, a3, by omega, a4⟩, ⟨b1, b2, by omega, b3⟩, ⟨c1, by omega, c2⟩, ⟨by omega, d1⟩, fun z => by have := l5 _ z; omega, d2⟩
  · rcases List.mem_cons.mp ha with w | w
    · exact .inr (by omega)
    · exact .inl w
/-- one more start is noted -/
theorem Ld.note (h : Ld S d t e z as s nz) {zs : List Dv} (hz : S[z]? = some (.lst zs)) (hl : zs.length ≤ nz) (y : Dv) : LMv S d t e z as (S.set z (.lst (zs ++ [y]))) as s (nz + 1) := by
  obtain ⟨⟨a1, a2, a3, a4⟩, ⟨b1, b2, b3⟩, ⟨c1, c2⟩, d1, d2⟩ := h.ne
  have f : Frm [z] S (S.set z (.lst (zs ++ [y]))) := .set List.mem_cons_self
  have h1 : ∀ {j}, j ≠ z → j ∉ [z] := fun h w => h (List.mem_singleton.mp w)
  exact ⟨⟨f.at h.hd (h1 a3), f.at h.ht (h1 b2), f.at h.he (h1 c1), h.ha.frm f fun a ha => h1 fun w => d1 (by rw [← w]; exact ha), ⟨_, List.getElem?_set_self (at_lt hz), by rw [List.length_append]; simp; omega⟩, h.nd⟩, f.mono fun i hi => by rw [List.mem_singleton.mp hi]; simp, fun _ h => .inl h⟩
theorem Ld.pop {a : Nat} {T : List Int} {x : En} {st : List En} (h : Ld S d t e z (a :: as) (T, x :: st) nz) : LMv S d t e z (a :: as) (S.set e (.lst (as.reverse.map Dv.obj))) as (T, st) nz := by
  obtain ⟨⟨a1, a2, a3, a4⟩, ⟨b1, b2, b3⟩, ⟨c1, c2⟩, d1, d2⟩ := h.ne
  have f : Frm [e] S (S.set e (.lst (as.reverse.map Dv.obj))) := .set List.mem_cons_self
  have h1 : ∀ {j}, j ≠ e → j ∉ [e] := fun h w => h (List.mem_singleton.mp w)
  obtain ⟨zs, hz, hl⟩ := h.hz
  simp only [List.mem_cons, not_or] at a4 b3 c2 d1
  refine ⟨⟨f.at h.hd (h1 a2), f.at h.ht (h1 b1), List.getElem?_set_self (at_lt h.he), h.ha.2.frm f fun b hb => h1 fun w => c2.2 (by rw [← w]; exact hb), ⟨zs, f.at hz (h1 c1.symm), hl⟩, ?_⟩, f.mono fun i hi => by rw [List.mem_singleton.mp hi]; simp, fun b hb => .inl (List.mem_cons_of_mem _ hb)⟩
  simp only [List.nodup_cons, List.mem_cons, not_or]
  exact ⟨⟨a1, a2, a3, a4.2⟩, ⟨b1, b2, b3.2⟩, ⟨c1, c2.2⟩, d1.2, (List.nodup_cons.mp d2).2⟩
end
theorem ld_t {t e z : Nat} : valD (ldK t e z) (.inr "turns") = some (.obj t) := rfl
theorem ld_p {t e z : Nat} : valD (ldK t e z) (.inr "path") = some (.obj e) := rfl
theorem ld_s {t e z : Nat} : valD (ldK t e z) (.inr "starts") = some (.obj z) := rfl
theorem getK_dk {S : Store} {i : Nat} {kvs : List (L2.Key × Dv)} (h : S[i]? = some (.dk kvs)) : getK S i = some kvs := by unfold getK; rw [h]
def spLStart : Spd := fun ds S Q E => ∃ (d t e z : Nat) (as : List Nat) (B : Bk) (s : Ps) (nz r : Nat), ds = [bkD B, .obj d, .int r] ∧ Ld S d t e z as s nz ∧ BkOk B ∧ TOk B s.1 ∧ s.2.length < 99999 ∧ nz < 9999999 ∧ r < B.length ∧
  ∀ S' as', LMv S d t e z as S' as' (mStart B s r) (nz + 1) → Q .non S'
theorem big_line {n : Nat} (h : n < 16000000) : n < sizeLine := Nat.lt_of_lt_of_le h (by decide)
theorem r_lstart : ∀ ds S Qd Ed, spLStart ds S Qd Ed → StClo S → t_Lstart (WEx S.length Ed) { nx := fun _ S' => Gc S.length Qd .non S', rt := Gc S.length Qd } (startD 4 ds) S := by
  rintro _ S Qd Ed ⟨d, t, e, z, as, B, s, nz, r, rfl, hL, hB, hT, hsl, hnz, hr, h⟩ hc
  obtain ⟨x, hx⟩ : ∃ x, B[r]? = some x := ⟨_, List.getElem?_eq_getElem hr⟩
  have hgd : B.getD r [] = x := by rw [List.getD_eq_getElem?_getD, hx]; rfl
  obtain ⟨t0, t1⟩ := hT.2 r x hx
  have hTl := hT.1
  have hdk := getK_dk hL.hd
  have htt := getL_iff.mpr hL.ht
  have hat : (s.1.map Dv.int)[r]? = some (.int (s.1.getD r 0)) := by rw [List.getElem?_map, List.getD_eq_getElem?_getD, List.getElem?_eq_getElem (by omega)]; rfl
  have hbr : (B.map rfD)[r]? = some (rfD x) := by rw [List.getElem?_map, hx]; rfl
  have hix : L2.ixN s.1.length (r : Int) = some r := ixN_nat (by omega)
  have hsm := succ_mod t0 t1
  have hal := hL.ha.len
  unfold t_Lstart
  refine seqI ?_
  simp! only [dKey, hdk, ld_t, htt, atI_nat hat]
  refine seqI ?_
  refine eIf_to (decide (s.1.getD r 0 + 1 = x.length)) (.int ((s.1.getD r 0 + 1) % (x.length : Int))) (fun R hR => ?_) (fun c R hR => ?_) (fun c R hR => ?_) ?_
  · dsimp! only [bkD, atI_nat hbr, rfD, List.length_map, dEq_int]
    exact hR
  · dsimp! only []
    rw [hsm, if_pos (of_decide_eq_true c)] at hR
    exact hR
  · dsimp! only []
    rw [hsm, if_neg (of_decide_eq_false c)] at hR
    exact hR
  simp! only [dKey, hdk, ld_t, htt, List.length_map, hix, set_map]
  have hnx : s.1.set r ((s.1.getD r 0 + 1) % (x.length : Int)) = nxt B s.1 r := by unfold nxt; rw [hgd]
  rw [hnx]
  have hM1 := hL.setT (nxt B s.1 r)
  generalize S.set t (.lst ((nxt B s.1 r).map Dv.int)) = S1 at *
  have hd1 := getK_dk hM1.m.hd
  have hM1p := hM1.m.push (r, (s.1.getD r 0).toNat, 0)
  have een : enD (r, (s.1.getD r 0).toNat, 0) = [.int r, .int (s.1.getD r 0), .int 0] := by
    unfold enD
    show [Dv.int r, .int ((s.1.getD r 0).toNat : Int), .int ((0 : Nat) : Int)] = _
    rw [Int.toNat_of_nonneg t0]; rfl
  rw [een] at hM1p
  have hee : getL (S1 ++ [Mo.lst [.int r, .int (s.1.getD r 0), .int 0]]) e = some (as.reverse.map Dv.obj) := getL_old (getL_iff.mpr hM1.m.he)
  have hrev : as.reverse.map Dv.obj ++ [Dv.obj S1.length] = (S1.length :: as).reverse.map Dv.obj := by rw [List.reverse_cons, List.map_append]; rfl
  refine seqI ?_
  simp! only [dKey, hd1, ld_p, hee, hrev]
  refine ⟨.inl ⟨_, hM1.m.he⟩, by rw [List.length_map, List.length_reverse]; exact small_line (by omega), ?_⟩
  have hM2 := hM1.trans hM1p
  generalize (S1 ++ [Mo.lst [.int r, .int (s.1.getD r 0), .int 0]]).set e (Mo.lst ((S1.length :: as).reverse.map Dv.obj)) = S2 at *
  obtain ⟨zs, hz, hzl⟩ := hM2.m.hz
  have hd2 := getK_dk hM2.m.hd
  have hzz := getL_iff.mpr hz
  simp! only [dKey, hd2, ld_s, hzz]
  refine ⟨.inl ⟨_, hz⟩, big_line (by omega), .inl ?_⟩
  exact h _ _ (hM2.trans (hM2.m.note hz hzl _))
end K03
set_option Elab.async false
set_option linter.all false
set_option maxRecDepth 100000
set_option maxHeartbeats 2000000
set_option exponentiation.threshold 5000
namespace K03
open PySem PySem.Spec D3 K20 K11
theorem LMv.weak {S S' : Store} {d t e z : Nat} {as as' : List Nat} {s' : Ps} {n n' : Nat} (h : LMv S d t e z as S' as' s' n) (hn : n ≤ n') : LMv S d t e z as S' as' s' n' := by
  obtain ⟨zs, h1, h2⟩ := h.m.hz
  exact ⟨⟨h.m.hd, h.m.ht, h.m.he, h.m.ha, ⟨zs, h1, by omega⟩, h.m.nd⟩, h.f, h.s⟩
theorem eLc_same {α : Type} {wi : TId} {t : Tg} {tt : TTd} {te : TEd} {vs : List Nat} {σ : Sl} {S S1 : Store} {Q : KD} (J : Itd) (l : List α) (F g : α → Dv) (hw : ∀ R : Itd → Store → Prop, R J S1 → wi σ S R) (hJ : J.items = l.map F) (hok : J.ok S1) (hl : l.length < 100000)
    (step : ∀ a ∈ l, ∀ (K1 : KD) (K0 : Store → Prop), K1 (g a) S1 → t.rd (F a) (wipeD σ vs) S1 fun σ2 S2 => tt σ2 S2 fun b S3 => if b = true then te σ2 S3 K1 else K0 S3)
    (fin : Q (.obj S1.length) (S1 ++ [.lst (l.map g)])) : eLc wi t tt te vs σ S Q := by
  refine eLc_inv (S1 := S1) J (fun i acc S' => acc = (l.take i).map g ∧ S' = S1) hw ⟨by rw [List.take_zero]; rfl, rfl⟩ (fun i acc S' hi ⟨h1, h2⟩ => ⟨by rw [h2]; exact hok, by rw [h1, List.length_map, List.length_take]; exact small_line (by omega)⟩) ?_ ?_
  · rintro i d acc S' hd ⟨rfl, rfl⟩ K1 K0 hK1 _
    rw [hJ, List.getElem?_map] at hd
    obtain ⟨a, ha, rfl⟩ := Option.map_eq_some_iff.mp hd
    refine step a (List.mem_of_getElem? ha) K1 K0 (hK1 _ _ (.inl ⟨?_, rfl⟩))
    rw [take_succ ha, List.map_append]; rfl
  · rintro acc S' ⟨rfl, rfl⟩
    rw [hJ, List.length_map, List.take_length]
    exact fin
/-- the path, read from the entries' lists -/
theorem path_lc {t : Nat} {wi : TId} {σ : Sl} {S S1 : Store} {Q : KD} {e : Nat} {as : List Nat} {st : List En} (hw : ∀ R : Itd → Store → Prop, R (jSeq (.obj e) (as.reverse.map Dv.obj)) S1 → wi σ S R) (hee : getL S1 e = some (as.reverse.map Dv.obj)) (ha : Ent S1 as st) (hl : st.length < 99999) (ht : t < σ.length)
    (fin : Q (pathD st) (S1 ++ [.lst (st.reverse.map fun x => .tup (enD x))])) : eArgs dTuple (aCons (eLc wi (Tg.one t) cYes (eArgs dTuple (aCons (eVar t) aNil)) [t]) aNil) σ S Q := by
  have hr := ha.rev
  have hl2 := hr.len
  have hz := ent_zip hr
  have e1 : as.reverse.map Dv.obj = (as.reverse.zip st.reverse).map fun p => Dv.obj p.1 := by
    conv => lhs; rw [← List.map_fst_zip (l₁ := as.reverse) (l₂ := st.reverse) (by omega)]
    rw [List.map_map]; rfl
  have e2 : (st.reverse.map fun x => Dv.tup (enD x)) = (as.reverse.zip st.reverse).map fun p => Dv.tup (enD p.2) := by
    conv => lhs; rw [← List.map_snd_zip (l₁ := as.reverse) (l₂ := st.reverse) (by omega)]
    rw [List.map_map]; rfl
  show eLc wi _ _ _ _ σ S (fun x S' => dTuple [x] S' Q)
  refine eLc_same (S1 := S1) (jSeq (.obj e) (as.reverse.map Dv.obj)) (as.reverse.zip st.reverse) (fun p => .obj p.1) (fun p => .tup (enD p.2)) hw (by show as.reverse.map Dv.obj = _; exact e1) hee (by rw [List.length_zip, List.length_reverse, List.length_reverse]; omega) ?_ ?_
  · rintro ⟨a, x⟩ hax K1 K0 h1
    have hax := getL_iff.mpr (hz _ hax)
    refine (yesT (σ := (wipeD σ [t]).set t (some (.obj a))) (A := fun S3 => eArgs dTuple (aCons (eVar t) aNil) ((wipeD σ [t]).set t (some (.obj a))) S3 K1) (B := K0) ?_)
    have hset : ((wipeD σ [t]).set t (some (.obj a)))[t]? = some (some (.obj a)) := List.getElem?_set_self (by
      have : (wipeD σ [t]).length = σ.length := by show (σ.set t none).length = _; exact List.length_set
      rw [this]; exact ht)
    exact ⟨.obj a, hset, _, hax, h1⟩
  · refine ⟨_, getL_at, ?_⟩
    rw [← e2]
    exact fin
theorem eTup2_to {a b : TEd} {σ : Sl} {S S2 : Store} {Q : KD} (x y : Dv) (ha : ∀ R : KD, R x S → a σ S R) (hb : ∀ R : KD, R y S2 → b σ S R) (q : Q (.tup [x, y]) S2) : eTup (aCons a (aCons b aNil)) σ S Q := ha _ (hb _ ⟨by show 2 ≤ sizeLine; decide, q⟩)
theorem cAnd_F {u : TTd} {σ : Sl} {S : Store} {R : Bool → Store → Prop} {i : Nat} (h1 : σ[i]? = some (some (.bl false))) (h : R false S) : cAnd (cVal (eVar i)) u σ S R := ⟨.bl false, h1, false, rfl, by
  show (if false = true then u σ S R else R false S)
  rw [if_neg Bool.false_ne_true]; exact h⟩
theorem cAnd_T {u : TTd} {σ : Sl} {S : Store} {R : Bool → Store → Prop} {i : Nat} (h1 : σ[i]? = some (some (.bl true))) (h : u σ S R) : cAnd (cVal (eVar i)) u σ S R := ⟨.bl true, h1, true, rfl, by
  show (if true = true then u σ S R else R true S)
  rw [if_pos rfl]; exact h⟩
theorem itF {A B : Store → Prop} {S : Store} (h : B S) : (fun (b : Bool) (S : Store) => if b = true then A S else B S) false S := by
  show (if false = true then A S else B S)
  rw [if_neg Bool.false_ne_true]; exact h
theorem itT {A B : Store → Prop} {S : Store} (h : A S) : (fun (b : Bool) (S : Store) => if b = true then A S else B S) true S := by
  show (if true = true then A S else B S)
  rw [if_pos rfl]; exact h
theorem cNe_path {σ : Sl} {S : Store} {d t e z : Nat} {as : List Nat} {s : Ps} {nz : Nat} {R : Bool → Store → Prop} (hL : Ld S d t e z as s nz) (h1 : σ[1]? = some (some (.obj d))) (h : R (!decide (s.2 = [])) (S ++ [Mo.lst []])) : cVal (eOp dNe (eOp dKGet (eVar 1) (eC (.str "path"))) (eLst aNil)) σ S R :=
  ⟨.obj d, h1, _, _, _, getK_dk hL.hd, rfl, ld_p, Nat.zero_le _, dNe_ents (getL_old (getL_iff.mpr hL.he)) (LMv.app hL).m.ha getL_at ⟨_, rfl, h⟩⟩
def spLSing : Spd := fun ds S Q E => ∃ (d t e z : Nat) (as : List Nat) (B : Bk) (s : Ps) (nz : Nat), ds = [bkD B, .obj d] ∧ Ld S d t e z as s nz ∧ BkOk B ∧ SOk B s ∧ nz < 9000000 ∧
  ∀ S' as', LMv S d t e z as S' as' (mNext B s) (nz + 60) → Q (outD B s) S'
theorem r_lsing : ∀ ds S Qd Ed, spLSing ds S Qd Ed → StClo S → t_Lsing spLStart (WEx S.length Ed) { nx := fun _ S' => Gc S.length Qd .non S', rt := Gc S.length Qd } (startD 8 ds) S := by
  rintro _ S Qd Ed ⟨d, t, e, z, as, B, s, nz, rfl, hL, hB, hok, hnz, h⟩ hc
  have hpos := hB.pos
  have h60 := hB.le
  have hdk := getK_dk hL.hd
  have hM1 := LMv.app (T := [.lst []]) hL
  have hee1 := getL_iff.mpr hM1.m.he
  have hnil : getL (S ++ [Mo.lst []]) S.length = some [] := getL_at
  unfold t_Lsing
  refine seqI ?_
  refine sIf_gen (fun σ' S' => σ' = [some (bkD B), some (.obj d), none, none, none, none, none, none] ∧ ∃ as' T x st nz', LMv S d t e z as S' as' (T, x :: st) nz' ∧ SOk B (T, x :: st) ∧ mTop B (T, x :: st) = mTop B s ∧ nz' ≤ nz + x.1 + 1) (fun K hK => ?_) ?_
  · refine ifI ?_
    simp! only [dKey, hdk, ld_p]
    refine dEq_ents hee1 hM1.m.ha hnil ?_
    obtain ⟨T, st⟩ := s
    cases st with
    | nil =>
      simp! only [decide_true]
      refine ⟨d, t, e, z, as, B, (T, []), nz, 0, rfl, hM1.m, hB, hok.t, by show 0 < 99999; decide, by omega, hpos, fun S' as' hM => ?_⟩
      exact hK _ _ ⟨rfl, as', _, _, _, _, hM1.trans hM, hok.start hB (.inl ⟨rfl, rfl⟩), rfl, by show nz + 1 ≤ nz + 0 + 1; omega⟩
    | cons x st =>
      have hd : decide (x :: st = ([] : List En)) = false := rfl
      simp! only [hd]
      exact hK _ _ ⟨rfl, as, T, x, st, nz, hM1, hok, rfl, by omega⟩
  rintro _ S1 ⟨rfl, as1, T1, x1, st1, nz1, hM, hS1, htop, hnz1⟩
  dsimp only
  obtain ⟨a1, as1, rfl⟩ := as_cons hM.m.ha
  have hd1 := getK_dk hM.m.hd
  have hee := getL_iff.mpr hM.m.he
  have haa := getL_iff.mpr hM.m.ha.1
  refine seqI ?_
  simp! only [dKey, hd1, ld_p, hee, last_obj, haa, enD]
  refine seqI ?_
  refine sWhile_inv rfl (fun m σ S' => ∃ as' T x st nz', m = B.length - x.1 ∧ LMv S d t e z as S' as' (T, x :: st) nz' ∧ SOk B (T, x :: st) ∧ mTop B (T, x :: st) = mTop B s ∧ nz' ≤ nz + x.1 + 1 ∧ σ = [some (bkD B), some (.obj d), some (.int x.1), some (.int x.2.1), some (.int x.2.2), none, none, none]) ⟨_, a1 :: as1, T1, x1, st1, nz1, rfl, hM, hS1, htop, hnz1, rfl⟩ ?_
  clear hM hS1 htop hnz1 hd1 hee haa
  rintro m σ S1 ⟨as1, T, x, st, nz1, rfl, hM, hS1, htop, hnz1, rfl⟩ K hK
  obtain ⟨a1, as1, rfl⟩ := as_cons hM.m.ha
  have hx := hS1.e x List.mem_cons_self
  have hxr := hx.r
  have hsh := hS1.short hB
  have hsh : st.length + 1 ≤ 60 := hsh
  obtain ⟨x1, x2, x3⟩ := hx.ats
  have hd1 := getK_dk hM.m.hd
  simp! only [bkD, atI_nat x1, rfD, atI_nat x2, vsD, atI_nat x3]
  cases hi : itAt B x with
  | ref n =>
    obtain ⟨n1, n2, n3⟩ := hx.ref hB hi
    have en : (Itm.ref n).d = .int ((n.toNat : Nat) : Int) := by rw [n3]; rfl
    rw [en]
    simp! only []
    refine seqI ?_
    simp! only [atI_nat x1, rfD, atI_nat x2, vsD, atI_nat x3, hi, en]
    refine ⟨d, t, e, z, a1 :: as1, B, (T, x :: st), nz1, n.toNat, rfl, hM.m, hB, hS1.t, by show st.length + 1 < 99999; omega, by omega, n2, fun S2 as2 hM2 => ?_⟩
    obtain ⟨a2, as2, rfl⟩ := as_cons hM2.m.ha
    have hd2 := getK_dk hM2.m.hd
    have hee2 := getL_iff.mpr hM2.m.he
    have haa2 := getL_iff.mpr hM2.m.ha.1
    simp! only [dKey, hd2, ld_p, hee2, last_obj, haa2, enD]
    exact hK _ _ (.inl ⟨B.length - n.toNat, by omega, a2 :: as2, _, _, _, nz1 + 1, rfl, hM.trans hM2, hS1.start hB (.inr ⟨x, st, rfl, by rw [hi, n3]⟩), by rw [← htop]; exact (top_ref hB hS1.t hx hi).symm, by show nz1 + 1 ≤ nz + n.toNat + 1; omega, rfl⟩)
  | wd y =>
    have hT : mTop B s = (T, x :: st) := by rw [← htop]; exact top_wd hi
    have ho : outD B s = .tup [(itAt B x).d, pathD (x :: st)] := by unfold outD; rw [hT]
    have hnx : mNext B s = (T, fin B (x :: st)) := by unfold mNext; rw [hT]
    rw [hnx, ho] at h
    have ew : (Itm.wd y).d = .str y := rfl
    rw [ew]
    have hee := getL_iff.mpr hM.m.he
    simp! only []
    refine seqI ?_
    refine eTup2_to (S2 := S1 ++ [.lst ((x :: st).reverse.map fun x => .tup (enD x))]) (.str y) (pathD (x :: st)) (fun R hR => ?_) (fun R hR => ?_) ?_
    · dsimp! only [atI_nat x1, rfD, atI_nat x2, vsD, atI_nat x3, hi, ew]
      exact hR
    · refine path_lc (fun R2 hR2 => ?_) hee hM.m.ha (by show st.length + 1 < 99999; omega) (by show 7 < 8; decide) hR
      exact hw_seq (x := .obj e) (fun R3 hR3 => by dsimp! only [dKey, hd1, ld_p]; exact hR3) hee R2 hR2
    simp! only []
    refine seqI ?_
    simp! only []
    refine seqI ?_
    have hMa := hM.trans (LMv.app (T := [.lst ((x :: st).reverse.map fun x => .tup (enD x))]) hM.m)
    refine sWhile_inv rfl (fun m σ S' => ∃ (f : Bool) (as' : List Nat) (w : List En) (o2 o3 o4 o7 : Option Dv), LMv S d t e z as S' as' (T, w) nz1 ∧ (∀ y ∈ w, EW B y) ∧ (f = true → fin B w = fin B (x :: st)) ∧ (f = false → w = fin B (x :: st)) ∧ m = w.length + (if f = true then 1 else 0) ∧ w.length ≤ 60 ∧ σ = [some (bkD B), some (.obj d), o2, o3, o4, some (.tup [.str y, pathD (x :: st)]), some (.bl f), o7]) ⟨_, true, a1 :: as1, x :: st, _, _, _, _, hMa, fun q hq => (hS1.e q hq).w, fun _ => rfl, fun z => (by cases z), rfl, hsh, rfl⟩ ?_
    clear hMa hM hd1 hee
    rintro m σ S2 ⟨f, as2, w, o2, o3, o4, o7, hM, hW, hf1, hf2, rfl, hw6, rfl⟩ K2 hK2
    cases f with
    | false =>
      refine cAnd_F rfl (itF ?_)
      have hq := h S2 as2 (by rw [← hf2 rfl]; exact hM.weak (by omega))
      rw [hi] at hq
      exact ⟨_, rfl, .inl hq⟩
    | true =>
      have hMb := hM.trans (LMv.app (T := [.lst []]) hM.m)
      have heb := getL_iff.mpr hMb.m.he
      refine cAnd_T rfl (cNe_path hM.m rfl ?_)
      generalize S2 ++ [Mo.lst []] = S3 at *
      have hd3 := getK_dk hMb.m.hd
      cases w with
      | nil =>
        refine itF ?_
        have hq := h S3 as2 (by rw [← hf1 rfl]; exact hMb.weak (by omega))
        rw [hi] at hq
        exact ⟨_, rfl, .inl hq⟩
      | cons y2 w =>
        obtain ⟨b, bs, rfl⟩ := as_cons hMb.m.ha
        have hdd : decide (y2 :: w = ([] : List En)) = false := rfl
        have hy := hW y2 List.mem_cons_self
        have hbb := getL_iff.mpr hMb.m.ha.1
        have hPp := Ld.pop hMb.m
        have hMc := hMb.trans hPp
        obtain ⟨⟨q1, q2, q3, q4⟩, ⟨q5, q6, q7⟩, ⟨q8, q9⟩, q10, q11⟩ := hMb.m.ne
        have hbe : e ≠ b := fun w => q9 (by rw [w]; exact List.mem_cons_self)
        have hb4 : getL (S3.set e (.lst (bs.reverse.map Dv.obj))) b = some (enD y2) := getL_iff.mpr (by rw [List.getElem?_set_ne hbe]; exact hMb.m.ha.1)
        have hdl : ((b :: bs).reverse.map Dv.obj).dropLast = bs.reverse.map Dv.obj := by
          rw [List.reverse_cons, List.map_append]
          exact List.dropLast_concat
        have y1 : (B.map rfD)[y2.1]? = some (rfD (B.getD y2.1 [])) := by rw [List.getElem?_map, List.getD_eq_getElem?_getD, List.getElem?_eq_getElem hy.r]; rfl
        have y3 : ((B.getD y2.1 []).map vsD)[y2.2.1]? = some (vsD (vOf B y2)) := by
          rw [List.getElem?_map]
          unfold vOf
          rw [List.getD_eq_getElem?_getD (l := B.getD y2.1 []), List.getElem?_eq_getElem hy.v]; rfl
        refine itT ?_
        refine seqI ?_
        simp! only [dKey, hd3, ld_p, heb]
        refine ⟨.inl ⟨_, hMb.m.he⟩, .obj b, ?_, ?_⟩
        · rw [List.reverse_cons, List.map_append, List.length_append, List.map_cons, List.map_nil, List.length_singleton, Nat.add_sub_cancel, List.getElem?_append_right (Nat.le_refl _), Nat.sub_self]; rfl
        rw [hdl]
        refine ⟨enD y2, hb4, rfl, _, _, rfl, _, _, rfl, _, _, rfl, rfl, ?_⟩
        generalize S3.set e (.lst (bs.reverse.map Dv.obj)) = S4 at *
        have hd4 := getK_dk hMc.m.hd
        have hWt : ∀ q ∈ w, EW B q := fun q hq => hW q (List.mem_cons_of_mem _ hq)
        have hf := hf1 rfl
        have hw6 : w.length + 1 ≤ 60 := hw6
        have hfd : fin B (y2 :: w) = if y2.2.2 + 1 = (vOf B y2).length then fin B w else up1 y2 :: w := rfl
        refine seqI ?_
        simp! only [bkD, atI_nat y1, rfD, atI_nat y3, vsD, List.length_map]
        by_cases c : y2.2.2 + 1 = (vOf B y2).length
        · have c' : (y2.2.2 : Int) + 1 = ((vOf B y2).length : Int) := by omega
          rw [if_pos c] at hfd
          refine ifI ?_
          simp! only [c', decide_true]
          exact hK2 _ _ (.inl ⟨w.length + 1, by simp, true, bs, w, _, _, _, _, hMc, hWt, fun _ => by rw [← hf, hfd], fun z => (by cases z), rfl, by omega, rfl⟩)
        · have c' : ¬ (y2.2.2 : Int) + 1 = ((vOf B y2).length : Int) := by omega
          rw [if_neg c] at hfd
          have hMp := hMc.trans (Ld.push hMc.m (up1 y2))
          have een : enD (up1 y2) = [.int y2.1, .int y2.2.1, .int ((y2.2.2 : Int) + 1)] := by unfold enD up1; simp
          rw [een] at hMp
          have he5 : getL (S4 ++ [Mo.lst [.int y2.1, .int y2.2.1, .int ((y2.2.2 : Int) + 1)]]) e = some (bs.reverse.map Dv.obj) := getL_old (getL_iff.mpr hMc.m.he)
          have hrev : bs.reverse.map Dv.obj ++ [Dv.obj S4.length] = (S4.length :: bs).reverse.map Dv.obj := by rw [List.reverse_cons, List.map_append]; rfl
          have hbl := hMc.m.ha.len
          refine ifI ?_
          simp! only [c', decide_false, dKey, hd4, ld_p, he5, hrev]
          refine ⟨.inl ⟨_, hMc.m.he⟩, by rw [List.length_map, List.length_reverse]; exact small_line (by show bs.length < 100000; have : bs.length = w.length := hbl; omega), ?_⟩
          refine hK2 _ _ (.inl ⟨(up1 y2 :: w).length, by simp, false, S4.length :: bs, up1 y2 :: w, _, _, _, _, hMp, fun q hq => ?_, fun z => (by cases z), fun _ => by rw [← hf, hfd], rfl, hw6, rfl⟩)
          rcases List.mem_cons.mp hq with w | w
          · rw [w]; exact hy.up
          · exact hWt q w
end K03
set_option Elab.async false
set_option linter.all false
set_option maxRecDepth 100000
set_option maxHeartbeats 2000000
set_option exponentiation.threshold 5000
namespace K03
open PySem PySem.Spec D3 K20 K11
def spLFrom : Spd := fun ds S Q E => ∃ s : Ps, ds = [stD s] ∧ s.2.length < 99999 ∧ ∀ (S' : Store) (d t e z : Nat) (as : List Nat), Ld S' d t e z as s 0 → Frm [] S S' → (∀ i ∈ d :: t :: e :: z :: as, S.length ≤ i) → Q (.obj d) S'
theorem r_lfrom : ∀ ds S Qd Ed, spLFrom ds S Qd Ed → StClo S → t_Lfrom (WEx S.length Ed) { nx := fun _ S' => Gc S.length Qd .non S', rt := Gc S.length Qd } (startD 2 ds) S := by
  rintro _ S Qd Ed ⟨s, rfl, hsl, h⟩ hc
  have q0 : ∀ {x y : Dv}, L2.atI [x, y] (0 : Int) = some x := rfl
  have q1 : ∀ {x y : Dv}, L2.atI [x, y] (1 : Int) = some y := rfl
  unfold t_Lfrom
  simp! only [stD, q0, tsD]
  obtain ⟨S2, hS2⟩ : ∃ S2, S2 = S ++ [Mo.dk [], Mo.lst (s.1.map Dv.int)] := ⟨_, rfl⟩
  have l2 : S2.length = S.length + 2 := by rw [hS2, List.length_append]; rfl
  have hd2 : S2[S.length]? = some (.dk []) := by rw [hS2]; exact get_at
  have ht2 : S2[S.length + 1]? = some (.lst (s.1.map Dv.int)) := by rw [hS2, st_getk]; rfl
  have f2 : Frm [] S S2 := by rw [hS2]; exact .app
  rw [← hS2]
  clear hS2
  refine eLc_inv (S1 := S2) (jSeq (pathD s.2) (s.2.reverse.map fun x => .tup (enD x))) (fun i acc S' => ∃ as : List Nat, acc = as.map Dv.obj ∧ Ent S' as (s.2.reverse.take i) ∧ Frm [] S2 S' ∧ (∀ a ∈ as, S2.length ≤ a) ∧ as.Nodup) (hw_seq (fun R hR => ?_) rfl) ⟨[], rfl, by rw [List.take_zero]; trivial, .refl _ _, fun a ha => (by cases ha), List.nodup_nil⟩ (fun i acc S' hi ⟨as, h1, h2, _⟩ => ⟨rfl, ?_⟩) ?_ ?_
  · dsimp! only [q1]
    exact hR
  · have h3 := h2.len
    rw [List.length_take, List.length_reverse] at h3
    rw [h1, List.length_map]
    exact small_line (by omega)
  · rintro i d acc S' hd ⟨as, rfl, h2, h3, h4, h5⟩ K1 K0 hK1 _
    obtain ⟨x, hx, rfl⟩ := jSeq_get hd
    have h3l := h3.len
    dsimp! only []
    refine hK1 _ _ (.inl ⟨as ++ [S'.length], by rw [List.map_append]; rfl, ?_, h3.then .app, fun a ha => ?_, ?_⟩)
    · rw [take_succ hx]
      exact Ent.snoc (h2.frm (F := []) .app fun _ _ z => by cases z) get_at
    · rcases List.mem_append.mp ha with z | z
      · exact h4 a z
      · rw [List.mem_singleton.mp z]; exact h3l
    · rw [List.nodup_append]
      refine ⟨h5, by simp, fun a ha b hb z => ?_⟩
      rw [List.mem_singleton.mp hb] at z
      have := h2.mem a ha
      omega
  · rintro acc S' ⟨as, rfl, h2, h3, h4, h5⟩
    have e : (jSeq (pathD s.2) (s.2.reverse.map fun x => Dv.tup (enD x))).items.length = s.2.reverse.length := by simp [jSeq]
    rw [e, List.take_length] at h2
    have h3l := h3.len
    have hm := h2.mem
    have hd3 : (S' ++ [Mo.lst (as.map Dv.obj), Mo.lst []])[S.length]? = some (.dk []) := get_old (h3.at hd2 (by simp))
    simp! only []
    have l3 : (S' ++ [Mo.lst (as.map Dv.obj), Mo.lst []]).length = S'.length + 2 := by rw [List.length_append]; rfl
    have f4 : Frm [S.length] S' ((S' ++ [Mo.lst (as.map Dv.obj), Mo.lst []]).set S.length (.dk (ldK (S.length + 1) S'.length (S'.length + 1)))) := Frm.app.then (.set List.mem_cons_self)
    have hne : ∀ {j}, j ≠ S.length → j ∉ [S.length] := fun h z => h (List.mem_singleton.mp z)
    have fin : Gc S.length Qd (.obj S.length) ((S' ++ [Mo.lst (as.map Dv.obj), Mo.lst []]).set S.length (.dk (ldK (S.length + 1) S'.length (S'.length + 1)))) := by
      refine .inl (h _ S.length (S.length + 1) S'.length (S'.length + 1) as.reverse ⟨List.getElem?_set_self (by omega), f4.at (h3.at ht2 (by simp)) (hne (by omega)), ?_, ?_, ⟨[], ?_, Nat.le_refl _⟩, ?_⟩ ?_ ?_)
      · rw [List.getElem?_set_ne (by omega), List.reverse_reverse]
        exact st_get0
      · have := h2.rev
        rw [List.reverse_reverse] at this
        exact this.frm f4 fun a ha => hne (by have := h4 a (List.mem_reverse.mp ha); omega)
      · rw [List.getElem?_set_ne (by omega), st_getk]; rfl
      · simp only [List.nodup_cons, List.mem_cons, List.mem_reverse, not_or]
        refine ⟨⟨by omega, by omega, by omega, fun z => by have := h4 _ z; omega⟩, ⟨by omega, by omega, fun z => by have := h4 _ z; omega⟩, ⟨by omega, fun z => by have := hm _ z; omega⟩, fun z => by have := hm _ z; omega, ?_⟩
        exact (List.reverse_perm as).nodup_iff.mpr h5
      · exact (f2.then h3).trans f4 fun i hi => .inr (by have := List.mem_singleton.mp hi; omega)
      · intro i hi
        simp only [List.mem_cons, List.mem_reverse] at hi
        rcases hi with z | z | z | z | z
        · omega
        · omega
        · omega
        · omega
        · have := h4 i z; omega
    exact ⟨ldK (S.length + 1) S'.length (S'.length + 1), rfl, hd3, by show 3 ≤ 15; decide, fin⟩
theorem bup_frm {a b : Nat} {S S' : Store} (h : Bup a b S S') : Frm [a, b] S S' := ⟨by rw [h.len]; exact Nat.le_refl _, fun i hi hn => h.oth i (fun z => hn (by simp [z])) (fun z => hn (by simp [z]))⟩
theorem bx_frm {a b : Nat} {S S' : Store} {F : List Nat} (h : Bx a b S) (f : Frm F S S') (hn : a ∉ F ∧ b ∉ F) : Bx a b S' := by
  obtain ⟨z, ns, h1, h2⟩ := h
  exact ⟨z, ns, f.at h1 hn.1, f.at h2 hn.2⟩
end K03
set_option Elab.async false
set_option linter.all false
set_option maxRecDepth 100000
set_option maxHeartbeats 2000000
set_option exponentiation.threshold 5000
namespace K03
open PySem PySem.Spec D3 K20 K11
def SameD (S : Store) : Nat → Dv → Dv → Prop
  | _, .int i, .int j => i = j
  | _, .str a, .str b => a = b
  | n + 1, .tup xs, .tup ys => xs.length < 100000 ∧ xs.length = ys.length ∧ ∀ (k : Nat) x y, xs[k]? = some x → ys[k]? = some y → SameD S n x y
  | n + 1, .obj i, .obj j => ∃ xs ys, getL S i = some xs ∧ getL S j = some ys ∧ xs.length < 100000 ∧ xs.length = ys.length ∧ ∀ (k : Nat) x y, xs[k]? = some x → ys[k]? = some y → SameD S n x y
  | _, _, _ => False
def spAl (n : Nat) : Spd := fun ds S Q E => ∃ x y, ds = [x, y] ∧ SameD S n x y ∧ Q (.bl true) S
theorem dEq_str {a b : Str} {S : Store} {Q : KD} : dEq (.str a) (.str b) S Q = Q (.bl (decide (a = b))) S := rfl
def alS : Nat → Dv → Bool
  | _, .int _ => true
  | _, .str _ => true
  | n + 1, .tup ds => decide (ds.length < 100000) && ds.all (alS n)
  | _, _ => false
theorem same_refl {S : Store} : ∀ (n : Nat) (d : Dv), alS n d = true → SameD S n d d
  | n, .int _, _ => by cases n <;> rfl
  | n, .str _, _ => by cases n <;> rfl
  | n + 1, .tup ds, h => by
    have h' : (decide (ds.length < 100000) && ds.all (alS n)) = true := h
    rw [Bool.and_eq_true, decide_eq_true_eq] at h'
    refine ⟨h'.1, rfl, fun k x y hx hy => ?_⟩
    rw [hx] at hy
    cases hy
    exact same_refl n x (List.all_eq_true.mp h'.2 _ (List.mem_of_getElem? hx))
  | 0, .tup ds, h => by cases h
  | n, .non, h => by cases n <;> cases h
  | n, .bl _, h => by cases n <;> cases h
  | n, .byt _, h => by cases n <;> cases h
  | n, .fls _, h => by cases n <;> cases h
  | n, .obj _, h => by cases n <;> cases h
  | n, .ty _, h => by cases n <;> cases h
  | n, .adr _, h => by cases n <;> cases h
end K03
set_option Elab.async false
set_option linter.all false
set_option maxRecDepth 100000
set_option maxHeartbeats 2000000
set_option exponentiation.threshold 5000
namespace K03
open PySem PySem.Spec D3 K20 K11
def outs (B : Bk) (s : Ps) (m : Nat) : List Dv := (List.range m).map fun k => outD B (it B k s)
structure Wl (S : Store) (a b X Y d t e z : Nat) (as : List Nat) (B : Bk) (s : Ps) (m : Nat) (ns : List Int) : Prop where
  bx : Bx a b S
  ld : Ld S d t e z as (it B m s) (60 * m)
  x : S[X]? = some (.lst (outs B s m))
  y : S[Y]? = some (.lst (ns.map Dv.int))
  nd : (a :: b :: X :: Y :: d :: t :: e :: z :: as).Nodup
theorem Wl.keep {S S' : Store} {a b X Y d t e z : Nat} {as : List Nat} {B : Bk} {s : Ps} {m : Nat} {ns : List Int} (h : Wl S a b X Y d t e z as B s m ns) (f : Frm [] S S') : Wl S' a b X Y d t e z as B s m ns :=
  ⟨bx_frm h.bx f ⟨by simp, by simp⟩, h.ld.frm f (fun _ _ z => by cases z), f.at h.x (by simp), f.at h.y (by simp), h.nd⟩
variable (CS CP CC : Addr)
end K03
set_option Elab.async false
set_option linter.all false
set_option maxRecDepth 100000
set_option maxHeartbeats 4000000
namespace PySem
end PySem
set_option Elab.async false
set_option linter.all false
set_option maxRecDepth 100000
set_option maxHeartbeats 4000000
namespace D3
open PySem PySem.Spec PyProof.Rows L2
end D3
set_option Elab.async false
set_option linter.all false
set_option maxRecDepth 100000
set_option maxHeartbeats 4000000
namespace D3
open PySem PySem.Spec PyProof.Rows L2
end D3
set_option Elab.async false
set_option linter.all false
set_option maxRecDepth 100000
set_option maxHeartbeats 4000000
namespace D3
open PySem PySem.Spec PyProof.Rows L2
end D3
set_option Elab.async false
set_option linter.all false
set_option maxRecDepth 100000
set_option maxHeartbeats 4000000
namespace D3
open PySem PySem.Spec PyProof.Rows L2
end D3
set_option Elab.async false
set_option linter.all false
set_option maxRecDepth 100000
set_option maxHeartbeats 4000000
namespace D3
open PySem PySem.Spec PyProof.Rows L2
end D3
set_option Elab.async false
set_option linter.all false
set_option maxRecDepth 100000
set_option maxHeartbeats 4000000
namespace D3
open PySem PySem.Spec PyProof.Rows L2
end D3
set_option Elab.async false
set_option linter.all false
set_option maxRecDepth 100000
set_option maxHeartbeats 2000000
namespace D3
open PySem PySem.Spec PyProof.Rows L2
end D3
set_option Elab.async false
set_option linter.all false
set_option maxRecDepth 100000
set_option maxHeartbeats 2000000
namespace D3
open PySem PySem.Spec PyProof.Rows L2
end D3
set_option Elab.async false
set_option linter.all false
set_option maxRecDepth 100000
set_option maxHeartbeats 2000000
namespace LamP
open PySem PySem.Spec PySem.Calls PyProof.Rows L2 LamX NdefX
/-- the object at a, for good -/
def ObjO (a : Addr) (o : Obj) : HO := .ext fun h => h.get? a = some o
abbrev Pt := Addr → Option Obj
def put (p : Pt) (H : Hp) : Hp := fun b => match p b with
  | some o => some (ObjO b o)
  | none => H b
section
variable {p : Pt} {H H' : Hp} {b : Addr} {o : Obj}
/-- known at all its places -/
def Kn (p : Pt) (H : Hp) : Prop := ∀ b o, p b = some o → H b = some (ObjO b o)
/-- free at all its places -/
def Fr0 (p : Pt) (H : Hp) (h : Heap) : Prop := ∀ b o, p b = some o → H b = none ∧ h.get? b = some o
theorem Kn.at {P : Program} {w : World} {h : Heap} (k : Kn p H) (hok : HOk P w H h) (e : p b = some o) : h.get? b = some o := by
  obtain ⟨z, _, _⟩ := hok b _ (k b o e)
  exact z
theorem Kn.out (k : Kn p H) {u : HO} (e : H b = some u) (hu : ∀ o, u ≠ ObjO b o) : p b = none := by
  cases q : p b with
  | none => rfl
  | some o => rw [k b o q] at e; exact absurd (Option.some.inj e).symm (hu o)
theorem Fr0.out {h : Heap} (k : Fr0 p H h) {u : HO} (e : H b = some u) : p b = none := by
  cases q : p b with
  | none => rfl
  | some o => rw [(k b o q).1] at e; cases e
variable {P : Program} {w : World} {K : PySem.W.Frag} {mg : Str → Option Value} {base : Heap}
end
end LamP
set_option Elab.async false
set_option linter.all false
set_option maxRecDepth 100000
set_option maxHeartbeats 2000000
namespace D3
open PySem PySem.Spec PyProof.Rows L2 LamP
end D3
set_option Elab.async false
set_option linter.all false
set_option maxRecDepth 100000
set_option maxHeartbeats 2000000
namespace UpdX
open PySem PySem.Spec PySem.Calls PyProof.Rows L2
def mergeV (kvs more : List (Key × V)) : List (Key × V) := more.foldl (fun acc p => putK acc p.1 p.2) kvs
theorem kv_merge : ∀ {more : List (Key × V)} {ws : List (Key × Value)} {kvs : List (Key × V)} {vs : List (Key × Value)}, KV kvs vs → KV more ws → KV (mergeV kvs more) (merged vs ws)
  | _, _, _, _, h, .nil => h
  | _, _, _, _, h, .cons (a := p) (b := q) ⟨e, r⟩ t => by
    unfold mergeV merged
    rw [List.foldl_cons, List.foldl_cons, ← e]
    exact kv_merge (h.put p.1 r) t
theorem mergeV_le : ∀ (more kvs : List (Key × V)), (mergeV kvs more).length ≤ kvs.length + more.length
  | [], _ => Nat.le_refl _
  | p :: more, kvs => by
    have h1 := mergeV_le more (putK kvs p.1 p.2)
    have h2 := length_putK kvs p.1 p.2
    unfold mergeV at h1 ⊢
    rw [List.foldl_cons, List.length_cons]
    omega
def rUpdD : V → List V → Hp → VK → Prop := fun x vs H Q => ∃ d o kvs more, x = .ref d ∧ vs = [.ref o] ∧ d ≠ o ∧ H d = some (.dK kvs) ∧ Rd H o (.dK more) ∧ kvs.length + more.length ≤ sizeLine ∧ Q .non (upd H d (.dK (mergeV kvs more)))
def PsV (K : PySem.W.Frag) (H : Hp) : List (Key × V) → List V → Prop := Paired fun p t => ∃ a, t = V.ref a ∧ SqT K H a [kV p.1, p.2]
def rUpdP (K : PySem.W.Frag) : V → List V → Hp → VK → Prop := fun x vs H Q => ∃ d o kvs more ts, x = .ref d ∧ vs = [.ref o] ∧ H d = some (.dK kvs) ∧ Rd H o (.lst ts) ∧ PsV K H more ts ∧ kvs.length + more.length ≤ sizeLine ∧ Q .non (upd H d (.dK (mergeV kvs more)))
section
variable {X : Cx} {pins : List (Addr × Obj)} {σ : L2.St} {H : Hp} {s : Shared}
theorem mt_updD : MtM X "dict.update" rUpdD := by
  intro pins s σ H x vs v us Q I rx rv h
  obtain ⟨d, o, kvs, more, rfl, rfl, hne, hd, ho, hl, q⟩ := h
  cases rx
  obtain ⟨u, rfl, ru⟩ := rv.one
  cases ru
  obtain ⟨z1, sd, vs1, r1, D1⟩ := dk_of I.hok hd
  obtain ⟨z2, so, vs2, r2, D2⟩ := dk_rd I.hok ho
  refine call_meetsIn PySem.F.slot_dict_update D1.typeIs PySem.F.entry_dict_update (PySem.F.args_dict_update_2 _ _) (meets_dict_update (mixKind X.prog X.w) d o hne so) ⟨vs1, vs2, D1, D2, by rw [← r1.length, ← r2.length]; exact hl, fun h' D1' D2' same => ?_⟩
  have he : ∃ q, h'.get? d = some q := let ⟨q, _, _, hq, _⟩ := D1'; ⟨q, hq⟩
  have hl2 := mergeV_le more kvs
  exact ⟨.non, _, d_write I (by rw [hd]; exact True.intro) same he (dk_new (by omega) sd (kv_merge r1 r2) D1'), rfl, q⟩
theorem pairs_mk {d : Addr} {kvs : List (Key × V)} (I : Inv X pins σ H s) (hd : H d = some (.dK kvs)) : ∀ {more : List (Key × V)} {ts : List V} {its : List Value}, PsV X.K H more ts → Vals ts its → ∃ (as : List Addr) (ps : List (Value × Value)) (ws : List (Key × Value)), its = as.map Value.ref ∧ as.length = ps.length ∧ ws.length = ps.length ∧ KV more ws ∧
    ∀ (j : Nat) (k v : Value), ps[j]? = some (k, v) → ∃ (a : Addr) (key : Key), as[j]? = some a ∧ PairAt s.heap a k v ∧ ws[j]? = some (key, v) ∧ (mixKind X.prog X.w).is key k = true ∧ a ≠ d
  | _, _, _, .nil, .nil => ⟨[], [], [], rfl, rfl, rfl, .nil, fun j k v e => by simp at e⟩
  | _, _, _, .cons (a := p) h t, .cons r rv => by
    obtain ⟨a, rfl, hs⟩ := h
    cases r
    obtain ⟨as, ps, ws, e1, e2, e3, e4, e5⟩ := pairs_mk I hd t rv
    obtain ⟨its2, r2, tp, _⟩ := I.tuple hs
    cases r2 with
    | cons rk r3 =>
      rename_i uk us3
      cases r3 with
      | cons rw_ r4 =>
        rename_i uv us4
        cases r4
        refine ⟨a :: as, (uk, uv) :: ps, (p.1, uv) :: ws, by rw [e1]; rfl, by rw [List.length_cons, List.length_cons, e2], by rw [List.length_cons, List.length_cons, e3], .cons ⟨rfl, rw_⟩ e4, fun j k v e => ?_⟩
        cases j with
        | zero =>
          cases e
          refine ⟨a, p.1, rfl, .inl tp, rfl, kV_is rk, fun z => ?_⟩
          subst z
          rcases hs with hs | ⟨o, its, n, hk, _⟩
          · rcases hs with hs | ⟨o, hs⟩
            · rw [hd] at hs; cases hs
            · rw [hd] at hs; cases hs
          · have := (I.bs a o (I.ok.mod.kin a o hk)).2
            rw [hd] at this; cases this
        | succ j => exact e5 j k v e
theorem mt_updP (hc : X.calm = true) : MtM X "dict.update" (rUpdP X.K) := by
  intro pins s σ H x vs v us Q I rx rv h
  obtain ⟨d, o, kvs, more, ts, rfl, rfl, hd, ho, hp, hl, q⟩ := h
  cases rx
  obtain ⟨u, rfl, ru⟩ := rv.one
  cases ru
  obtain ⟨z1, sd, vs1, r1, D1⟩ := dk_of I.hok hd
  obtain ⟨its, rits, pl, _⟩ := I.list (.inl ho)
  obtain ⟨as, ps, ws, e1, e2, e3, e4, e5⟩ := pairs_mk I hd hp rits
  have hod : d ≠ o := fun z => by
    subst z
    rcases ho with ho | ⟨ob, ho⟩
    · rw [hd] at ho; cases ho
    · rw [hd] at ho; cases ho
  have hTs : ∀ j, j < ps.length → as[j]? = some (as.getD j 0) := fun j hj => by
    rw [List.getD_eq_getElem?_getD, List.getElem?_eq_getElem (by omega)]; rfl
  have hpi : PairItems s.heap its.toArray (fun j => as.getD j 0) ps := by
    refine ⟨by rw [List.size_toArray, e1, List.length_map, e2], fun j k v hj => ?_⟩
    obtain ⟨a, key, h1, h2, _⟩ := e5 j k v hj
    have := hTs j (List.getElem?_eq_some_iff.mp hj).1
    rw [h1] at this
    cases this
    refine ⟨?_, h2⟩
    rw [e1, List.getElem?_toArray, List.getElem?_map, h1]; rfl
  have hlen := Paired.length e4
  have hl2 := mergeV_le more kvs
  refine call_update_pairs (knd := mixKind X.prog X.w) (acc := vs1) (kvs := ws) (PairArg.list o its.toArray (fun j => as.getD j 0) ps) (I.ok.hd hc) ⟨pl, hpi⟩ ?_ ⟨e3, fun i key v hr => ?_⟩ D1 (by rw [← r1.length, ← e3, ← hlen]; exact hl) fun h' tk D1' keep => ?_
  · intro hm
    rcases List.mem_cons.mp hm with e | hm
    · exact hod e
    · obtain ⟨j, hj, e⟩ := List.mem_map.mp hm
      have hj := List.mem_range.mp hj
      obtain ⟨⟨k, v⟩, hkv⟩ : ∃ p, ps[j]? = some p := ⟨_, List.getElem?_eq_getElem hj⟩
      obtain ⟨a, key, h1, _, _, _, h5⟩ := e5 j k v hkv
      have := hTs j hj
      rw [h1] at this
      cases this
      exact h5 e
  · obtain ⟨a, k, _, _, h3, h4, _⟩ := e5 i key v hr
    exact ⟨k, h3, h4⟩
  · have he : ∃ q, h'.get? d = some q := let ⟨q, _, _, hq, _⟩ := D1'; ⟨q, hq⟩
    refine ⟨.non, _, I.write (x := d) (e := d) (by rw [hd]; exact True.intro) (.inl rfl) (fun b q hb z => keep b q hb (by simp) z) he (dk_new (by omega) sd (kv_merge r1 e4) D1'), rfl, q⟩
end
end UpdX
namespace D3
open PySem PySem.Spec PyProof.Rows L2 UpdX
def prKD (p : Key × Dv) : Dv := .tup [keyD p.1, p.2]
def dUpdate : Dv → RDs := fun x xs S Q => match x, xs with
  | .obj i, [.obj j] => ∃ kvs more, S[i]? = some (.dk kvs) ∧ kvs.length + more.length ≤ sizeLine ∧ ((i ≠ j ∧ getK S j = some more) ∨ getL S j = some (more.map prKD)) ∧ Q .non (S.set i (.dk (mergeD kvs more)))
  | _, _ => False
section
variable {X : Cx} {B : Bs}
theorem repK_merge {G : Cf} {π : List Addr} {H : Hp} : ∀ {more : List (Key × Dv)} {ws : List (Key × V)} {kvs : List (Key × Dv)} {vs : List (Key × V)}, RepK G π H kvs vs → RepK G π H more ws → RepK G π H (mergeD kvs more) (mergeV vs ws)
  | _, _, _, _, h, .nil => h
  | _, _, _, _, h, .cons (a := p) (b := q) r t => by
    unfold mergeD mergeV
    rw [List.foldl_cons, List.foldl_cons]
    obtain ⟨e, r⟩ := r
    rw [← e]
    exact repK_merge (repK_put h p.1 r) t
theorem getK_repU {G : Cf} {π : List Addr} {H : Hp} {S : Store} (R : RepS G π H S) {j : Nat} {more : List (Key × Dv)} (h : getK S j = some more) {v : V} (r : Rep G π H (.obj j) v) : ∃ o ws, v = .ref o ∧ π[j]? = some o ∧ Rd H o (.dK ws) ∧ RepK G π H more ws := by
  unfold getK at h
  split at h
  · rename_i kvs e
    cases h
    obtain ⟨o, rfl, e1, ws, e2, e3⟩ := R.here e r
    exact ⟨o, ws, rfl, e1, .inl e2, e3⟩
  · rename_i kvs e
    cases h
    obtain ⟨o, rfl, e1, ws, e2, e3⟩ := R.here e r
    exact ⟨o, ws, rfl, e1, .inr e2, e3⟩
  · cases h
theorem pairs_repU {G : Cf} {π : List Addr} {H : Hp} : ∀ {more : List (Key × Dv)} {ts : List V}, RepL G π H (more.map prKD) ts → ∃ ws, RepK G π H more ws ∧ PsV G.K H ws ts
  | [], _, .nil => ⟨[], .nil, .nil⟩
  | p :: more, _, .cons h t => by
    obtain ⟨ws, r1, r2⟩ := pairs_repU t
    cases h with
    | tup hp l =>
      rename_i a xs
      cases l with
      | cons rk l2 =>
        cases l2 with
        | cons rv l3 =>
          cases l3
          rename_i vk vv
          have ek := keyD_rep rk
          subst ek
          exact ⟨(p.1, vv) :: ws, .cons ⟨rfl, rv⟩ r1, .cons ⟨a, rfl, hp.sq⟩ r2⟩
theorem mUpdate (hK : B.G.K = X.K := by rfl) (hc : X.calm = true := by rfl) : MtR X "dict.update" (LM B dUpdate) := by
  refine MtR_imp (MtR.or mt_updD (mt_updP hc)) ?_
  rintro v vs H Q ⟨π, S, d, ds, Qd, R, r, rs, q, k⟩
  unfold dUpdate at q
  split at q
  · rename_i i j
    obtain ⟨kvs, more, hi, hl, ho, q⟩ := q
    obtain ⟨a, rfl, i1, vs1, h1, l1⟩ := R.here hi r
    obtain ⟨u, rfl, ru⟩ := rs.one_inv
    have wr : ∀ ws, RepK B.G π H more ws → Q .non (upd H a (.dK (mergeV vs1 ws))) := fun ws rw_ => by
      have x := ext_write R (.dK (mergeV vs1 ws)) i1 (fun od u e => by rw [h1] at e; cases e)
      exact k _ _ _ .non .non x (step_write (m := .dk (mergeD kvs more)) R i1 ⟨_, upd_same, RepK.mono x (repK_merge l1 rw_)⟩) .non q
    rcases ho with ⟨hij, hg⟩ | hg
    · obtain ⟨o, ws, rfl, j1, g1, g2⟩ := getK_repU R hg ru
      refine .inl ⟨a, o, vs1, ws, rfl, rfl, fun z => hij ?_, h1, g1, by rw [← Paired.length l1, ← Paired.length g2]; exact hl, wr ws g2⟩
      subst z
      have hli : i < π.length := (List.getElem?_eq_some_iff.mp i1).1
      have hlj : j < π.length := (List.getElem?_eq_some_iff.mp j1).1
      exact (List.getElem_inj (h₀ := hli) (h₁ := hlj) R.nd).mp ((List.getElem?_eq_some_iff.mp i1).2.trans (List.getElem?_eq_some_iff.mp j1).2.symm)
    · obtain ⟨o, rfl, j1, zs, g1, g2⟩ := R.here (getL_iff.mp hg) ru
      obtain ⟨ws, w1, w2⟩ := pairs_repU g2
      rw [hK] at w2
      exact .inr ⟨a, o, vs1, ws, zs, rfl, rfl, h1, .inl g1, w2, by rw [← Paired.length l1, ← Paired.length w1]; exact hl, wr ws w1⟩
  · exact q.elim
/-- list(range(e)) -/
def eLRg (t : TEd) : TEd := fun σ S Q => t σ S fun x S1 => ∃ n : Nat, x = .int n ∧ n < 100000 ∧ Q (.obj S1.length) (S1 ++ [.lst ((List.range n).map fun k : Nat => Dv.int k)])
theorem pLRg {e : Expr} {t : TEd} {p p2 pos pos2 : Pos} (hc : X.calm = true) (hg : Gl X "list") (hm : X.mg "list" = none) (hg2 : Gl X "range") (hm2 : X.mg "range" = none) (he : PE X e (LE B t)) (na : starEach [e] X.env = (false, eval e X.env) :: starEach [] X.env := by rfl)
    (na2 : starEach [.Call (.Name "range" p2) [e] [] pos2] X.env = (false, eval (.Call (.Name "range" p2) [e] [] pos2) X.env) :: starEach [] X.env := by rfl) :
    PE X (.Call (.Name "list" p) [.Call (.Name "range" p2) [e] [] pos2] [] pos) (LE B (eLRg t)) := PE_imp (pe_listRg hc hg hm (prg_1 hg2 hm2 he na) na2) (by
  rintro σ H Q ⟨π, S, σd, Qd, R, h, k⟩
  refine ⟨π, S, σd, _, R, h, fun π1 H1 S1 x v e1 R1 rx q => ?_⟩
  obtain ⟨n, rfl, hn, q⟩ := q
  obtain rfl := rx.int_inv
  refine ⟨n, rfl, RgOk.of_le (by omega) (by omega) (by omega) (by omega), fun a ha => ?_⟩
  have hrep : ∀ π H, RepL B.G π H ((List.range n).map fun k : Nat => Dv.int k) (rgV 0 n) := fun π H => by
    unfold rgV
    rw [show ((n : Int) - 0).toNat = n by omega]
    generalize List.range n = l
    induction l with
    | nil => exact .nil
    | cons k l ih =>
      rw [List.map_cons, List.map_cons, Int.zero_add]
      exact .cons (.int _) ih
  obtain ⟨R2, x2⟩ := step_new R1 (o := .lst (rgV 0 n)) (m := .lst ((List.range n).map fun k : Nat => Dv.int k)) ha ⟨_, upd_same, hrep _ _⟩
  refine k _ _ _ _ _ (e1.trans x2) R2 (.obj ?_) q
  rw [← R1.len, List.getElem?_append_right (Nat.le_refl _), Nat.sub_self]; rfl)
end
end D3
set_option Elab.async false
set_option linter.all false
set_option maxRecDepth 100000
set_option maxHeartbeats 2000000
namespace D3
open PySem PySem.Spec PyProof.Rows L2
def nilX (x y : Dv) (S : Store) (xs : List Dv) : Prop := ∃ i j, x = .obj i ∧ y = .obj j ∧ getL S i = some xs ∧ getL S j = some []
def dEqE : RD2 := fun x y S Q => (∃ xs, nilX x y S xs ∧ Q (.bl xs.isEmpty) S) ∨ dEq x y S Q
def dNeE : RD2 := fun x y S Q => (∃ xs, nilX x y S xs ∧ Q (.bl (!xs.isEmpty)) S) ∨ dNe x y S Q
section
variable {X : Cx} {B : Bs}
theorem nil_lists {pins : List (Addr × Obj)} {σ : L2.St} {H : Hp} {s : Shared} {π : List Addr} {S : Store} (I : Inv X pins σ H s) (R : RepS B.G π H S) {x y : Dv} {v u : V} {a b : Value} {xs : List Dv} (h : nilX x y S xs) (r1 : Rep B.G π H x v) (r2 : Rep B.G π H y u) (rx : RelV v a) (ry : RelV u b) :
    ∃ (c e : Addr) (its : List Value), a = .ref c ∧ b = .ref e ∧ its.length = xs.length ∧ s.heap.IsList c its.toArray ∧ s.heap.IsList e #[] := by
  obtain ⟨i, j, rfl, rfl, g1, g2⟩ := h
  obtain ⟨c, rfl, _, zs, h1, l1⟩ := R.here (getL_iff.mp g1) r1
  obtain ⟨e, rfl, _, ws, h2, l2⟩ := R.here (getL_iff.mp g2) r2
  cases rx
  cases ry
  obtain ⟨its1, v1, ⟨o1, n1, e1, c1, _, d1⟩, _⟩ := I.list (.inl (.inl h1))
  obtain ⟨its2, v2, ⟨o2, n2, e2, c2, _, d2⟩, _⟩ := I.list (.inl (.inl h2))
  have hz : its2 = [] := by
    have q1 := v2.length
    have q2 := l2.length
    exact List.length_eq_zero_iff.mp (by rw [← q1, ← q2]; rfl)
  subst hz
  exact ⟨c, e, its1, rfl, rfl, by rw [← v1.length, ← l1.length], ⟨o1, e1, c1, n1, d1⟩, ⟨o2, e2, c2, n2, d2⟩⟩
theorem oEqE (hK : B.G.K = X.K := by rfl) (hu : X.A.units + 64 < cLine) : OpR X (compareOp .Eq) (L2' B dEqE) := by
  intro pins s σ H x y v u Q I rx ry h
  obtain ⟨π, S, d, e, Qd, R, r1, r2, q, k⟩ := h
  rcases q with ⟨xs, hn, q⟩ | q
  · obtain ⟨c, e0, its, rfl, rfl, hl, i1, i2⟩ := nil_lists I R hn r1 r2 rx ry
    have fin : EP X pins σ Q (Value.bool xs.isEmpty) s := ⟨.bl xs.isEmpty, H, I, rfl, k.here R (.bl _) q⟩
    cases xs with
    | nil =>
      have hz : its = [] := List.length_eq_zero_iff.mp hl
      subst hz
      exact SeqAt.RcAt.lists (e := fun _ => true) i1 i2 rfl (by omega) (fun j h1 _ => absurd h1 (Nat.not_lt_zero _)) _ _ _ _ fin
    | cons z zs => exact SeqAt.RcAt.lists_lengths i1 i2 (by rw [List.size_toArray, hl]; rfl) (by omega) _ _ _ _ fin
  · exact oEq hK hu pins s σ H x y v u Q I rx ry ⟨π, S, d, e, Qd, R, r1, r2, q, k⟩
theorem oNeE (hK : B.G.K = X.K := by rfl) (hu : X.A.units + 64 < cLine) : OpR X (compareOp .NotEq) (L2' B dNeE) := by
  intro pins s σ H x y v u Q I rx ry h
  obtain ⟨π, S, d, e, Qd, R, r1, r2, q, k⟩ := h
  rcases q with ⟨xs, hn, q⟩ | q
  · obtain ⟨c, e0, its, rfl, rfl, hl, i1, i2⟩ := nil_lists I R hn r1 r2 rx ry
    have fin : EP X pins σ Q (Value.bool (!xs.isEmpty)) s := ⟨.bl (!xs.isEmpty), H, I, rfl, k.here R (.bl _) q⟩
    cases xs with
    | nil =>
      have hz : its = [] := List.length_eq_zero_iff.mp hl
      subst hz
      exact SeqAt.RcNeAt.lists (e := fun _ => true) i1 i2 rfl (by omega) (fun j h1 _ => absurd h1 (Nat.not_lt_zero _)) _ _ _ _ fin
    | cons z zs => exact SeqAt.RcNeAt.lists_lengths i1 i2 (by rw [List.size_toArray, hl]; rfl) (by omega) _ _ _ _ fin
  · exact oNe hK hu pins s σ H x y v u Q I rx ry ⟨π, S, d, e, Qd, R, r1, r2, q, k⟩
end
end D3
set_option Elab.async false
set_option linter.all false
set_option maxRecDepth 100000
set_option maxHeartbeats 2000000
namespace D3
open PySem PySem.Spec PyProof.Rows L2
end D3
set_option Elab.async false
set_option linter.all false
set_option maxRecDepth 100000
set_option maxHeartbeats 4000000
namespace D3
open PySem PySem.Spec PyProof.Rows L2
end D3
set_option Elab.async false
set_option linter.all false
set_option maxRecDepth 100000
set_option maxHeartbeats 2000000
namespace K14
open PySem PySem.Spec PyProof.Rows L2 D3
abbrev c_LETTERS : Dv := .str "abcdefghijklmnopqrstuvwxyz"
abbrev c_MAX_CANDIDATES : Dv := .int 500
abbrev c_MAX_HEARD : Dv := .int 60
abbrev c_MAX_ITEMS : Dv := .int 6
abbrev c_MAX_LETTERS : Dv := .int 8
abbrev c_MAX_REFRAINS : Dv := .int 60
abbrev c_MAX_VERSES : Dv := .int 4
def t_Lalike (sp_Lalike_rec : Spd) (Wd : WXd) : TSd :=
    (sSeq (sIf (cVal (eOp dIs (eVar 1) (eC .non))) (sRet (eOp dIs (eVar 0) (eC .non))) sNext)
    (sSeq (sIf (cVal (eArgs dIsi (aCons (eVar 1) (aCons (eC (.ty "bool")) aNil)))) (sRet (eAnd (eArgs dIsi (aCons (eVar 0) (aCons (eC (.ty "bool")) aNil))) (eOp dEq (eVar 0) (eVar 1)))) sNext)
    (sSeq (sIf (cVal (eArgs dIsi (aCons (eVar 1) (aCons (eC (.ty "int")) aNil)))) (sRet (eAnd (eArgs dIsi (aCons (eVar 0) (aCons (eC (.ty "int")) aNil))) (eAnd (eNot (eArgs dIsi (aCons (eVar 0) (aCons (eC (.ty "bool")) aNil)))) (eOp dEq (eVar 0) (eVar 1))))) sNext)
    (sSeq (sIf (cVal (eArgs dIsi (aCons (eVar 1) (aCons (eC (.ty "str")) aNil)))) (sRet (eAnd (eArgs dIsi (aCons (eVar 0) (aCons (eC (.ty "str")) aNil))) (eOp dEq (eVar 0) (eVar 1)))) sNext)
    (sSeq (sIf (cOr (cVal (eOp dNe (eArgs dIsi (aCons (eVar 1) (aCons (eC (.ty "tuple")) aNil))) (eArgs dIsi (aCons (eVar 0) (aCons (eC (.ty "tuple")) aNil))))) (cVal (eOp dNe (eArgs dIsi (aCons (eVar 1) (aCons (eC (.ty "list")) aNil))) (eArgs dIsi (aCons (eVar 0) (aCons (eC (.ty "list")) aNil)))))) (sRet (eC (.bl false))) sNext)
    (sSeq (sIf (cVal (eOp dNe (eArgs dLen (aCons (eVar 0) aNil)) (eArgs dLen (aCons (eVar 1) aNil)))) (sRet (eC (.bl false))) sNext)
    (sSeq (sFor (iRg1 (aCons (eArgs dLen (aCons (eVar 1) aNil)) aNil)) (gNm 2) (sIf (cNot (cVal (eCall sp_Lalike_rec Wd (aCons (eOp dIx (eVar 0) (eVar 2)) (aCons (eOp dIx (eVar 1) (eVar 2)) aNil))))) (sRet (eC (.bl false))) sNext))
    (sRet (eC (.bl true))))))))))
def t_Candidate_init (C_Candidate : Addr) (Wd : WXd) : TSd :=
    (sSeq (sFld C_Candidate (eVar 0) (eVar 1) "book")
    (sSeq (sFld C_Candidate (eVar 0) (eVar 2) "first_turns")
    (sSeq (sFld C_Candidate (eVar 0) (eVar 3) "current_turns")
    (sFld C_Candidate (eVar 0) (eVar 4) "entries"))))
def t_Candidate_possible_turns (C_Candidate : Addr) (Wd : WXd) : TSd :=
    (sSeq (sIf (cVal (eOp dIsNot (eOp dIx (eFld C_Candidate (eVar 0) "first_turns") (eVar 1)) (eC .non))) (sRet (eLst (aCons (eOp dIx (eFld C_Candidate (eVar 0) "current_turns") (eVar 1)) aNil))) sNext)
    (sRet (eLRg (eArgs dLen (aCons (eOp dIx (eFld C_Candidate (eVar 0) "book") (eVar 1)) aNil)))))
def t_Candidate_opening_words (C_Candidate : Addr) (sp_Candidate_possible_turns : Spd) (sp_is_word : Spd) (Wd : WXd) : TSd :=
    (sSeq (sAsg (eOp dMul (eLst (aCons eKNew aNil)) (eArgs dLen (aCons (eFld C_Candidate (eVar 0) "book") aNil))) (gNm 1))
    (sSeq (sFor (iRg3 (aCons (eOp dSub (eArgs dLen (aCons (eFld C_Candidate (eVar 0) "book") aNil)) (eC (.int 1))) (aCons (eUn dNeg (eC (.int 1))) (aCons (eUn dNeg (eC (.int 1))) aNil)))) (gNm 2) (sSeq (sAsg eKNew (gNm 3))
    (sSeq (sFor (iSeq (eMeth C_Candidate "possible_turns" sp_Candidate_possible_turns Wd (eVar 0) (aCons (eVar 2) aNil))) (gNm 4) (sSeq (sAsg (eOp dIx (eOp dIx (eOp dIx (eFld C_Candidate (eVar 0) "book") (eVar 2)) (eVar 4)) (eC (.int 0))) (gNm 5))
    (sDrop (eBM "dict" dUpdate (eVar 3) (aCons (eIf (cVal (eCall sp_is_word Wd (aCons (eVar 5) aNil))) (eDisp (((eVar 5), (eC (.bl true))) :: [])) (eOp dIx (eVar 1) (eVar 5))) aNil)))))
    (sAsg (eVar 3) (gSb (eVar 1) (eVar 2) dSetL)))))
    (sRet (eVar 1))))
def t_Candidate_current_item (C_Candidate : Addr) (Wd : WXd) : TSd :=
    (sSeq (sIf (cVal (eOp dEq (eFld C_Candidate (eVar 0) "entries") (eTup aNil))) (sRet (eC (.int 0))) sNext)
    (sSeq (sAsg (eOp dIx (eFld C_Candidate (eVar 0) "entries") (eUn dNeg (eC (.int 1)))) (gUnp 3 (gsCons (gNm 1) (gsCons (gNm 2) (gsCons (gNm 3) gsNil)))))
    (sRet (eOp dIx (eOp dIx (eOp dIx (eFld C_Candidate (eVar 0) "book") (eVar 1)) (eVar 2)) (eVar 3)))))
def t_Candidate_after_word (C_Candidate : Addr) (sp_Candidate_init : Spd) (Wd : WXd) : TSd :=
    (sSeq (sPar 1 2 (aCons (eArgs dList (aCons (eFld C_Candidate (eVar 0) "entries") aNil)) (aCons (eC (.bl true)) aNil)))
    (sSeq (sWhile (cAnd (cVal (eVar 2)) (cVal (eOp dNeE (eVar 1) (eLst aNil)))) (sSeq (sAsg (eBM "list" dPop (eVar 1) aNil) (gUnp 3 (gsCons (gNm 3) (gsCons (gNm 4) (gsCons (gNm 5) gsNil)))))
    (sSeq (sAsg (eOp dEq (eOp dAdd (eVar 5) (eC (.int 1))) (eArgs dLen (aCons (eOp dIx (eOp dIx (eFld C_Candidate (eVar 0) "book") (eVar 3)) (eVar 4)) aNil))) (gNm 2))
    (sIf (cNot (cVal (eVar 2))) (sDrop (eBM "list" dAppend (eVar 1) (aCons (eTup (aCons (eVar 3) (aCons (eVar 4) (aCons (eOp dAdd (eVar 5) (eC (.int 1))) aNil)))) aNil))) sNext))))
    (sRet (eMake C_Candidate sp_Candidate_init (aCons (eFld C_Candidate (eVar 0) "book") (aCons (eFld C_Candidate (eVar 0) "first_turns") (aCons (eFld C_Candidate (eVar 0) "current_turns") (aCons (eArgs dTuple (aCons (eVar 1) aNil)) aNil))))))))
def t_Candidate_started_at (C_Candidate : Addr) (sp_Candidate_init : Spd) (Wd : WXd) : TSd :=
    (sSeq (sAsg (eFld C_Candidate (eVar 0) "first_turns") (gNm 3))
    (sSeq (sIf (cVal (eOp dIs (eOp dIx (eVar 3) (eVar 1)) (eC .non))) (sAsg (eOp dAdd (eOp dAdd (eSl dSlice (eVar 3) oNo (oSome (eVar 1))) (eTup (aCons (eVar 2) aNil))) (eSl dSlice (eVar 3) (oSome (eOp dAdd (eVar 1) (eC (.int 1)))) oNo)) (gNm 3)) sNext)
    (sSeq (sAsg (eArgs dLen (aCons (eOp dIx (eFld C_Candidate (eVar 0) "book") (eVar 1)) aNil)) (gNm 4))
    (sSeq (sAsg (eOp dAdd (eOp dAdd (eSl dSlice (eFld C_Candidate (eVar 0) "current_turns") oNo (oSome (eVar 1))) (eTup (aCons (eOp dMod (eOp dAdd (eVar 2) (eC (.int 1))) (eVar 4)) aNil))) (eSl dSlice (eFld C_Candidate (eVar 0) "current_turns") (oSome (eOp dAdd (eVar 1) (eC (.int 1)))) oNo)) (gNm 5))
    (sRet (eMake C_Candidate sp_Candidate_init (aCons (eFld C_Candidate (eVar 0) "book") (aCons (eVar 3) (aCons (eVar 5) (aCons (eOp dAdd (eFld C_Candidate (eVar 0) "entries") (eTup (aCons (eTup (aCons (eVar 1) (aCons (eVar 2) (aCons (eC (.int 0)) aNil)))) aNil))) aNil))))))))))
def t_Candidate_after_hearing (C_Candidate : Addr) (sp_Candidate_opening_words : Spd) (sp_Candidate_current_item : Spd) (sp_is_word : Spd) (sp_Candidate_after_word : Spd) (sp_Candidate_possible_turns : Spd) (sp_Candidate_started_at : Spd) (Wd : WXd) : TSd :=
    (sSeq (sPar3 2 3 4 (aCons (eLst aNil) (aCons (eLst (aCons (eVar 0) aNil)) (aCons (eMeth C_Candidate "opening_words" sp_Candidate_opening_words Wd (eVar 0) aNil) aNil))))
    (sSeq (sWhile (cAnd (cVal (eOp dNeE (eVar 3) (eLst aNil))) (cVal (eOp dLe (eArgs dLen (aCons (eVar 2) aNil)) (eC c_MAX_CANDIDATES)))) (sSeq (sAsg (eBM "list" dPop (eVar 3) aNil) (gNm 5))
    (sSeq (sAsg (eMeth C_Candidate "current_item" sp_Candidate_current_item Wd (eVar 5) aNil) (gNm 6))
    (sIf (cVal (eCall sp_is_word Wd (aCons (eVar 6) aNil))) (sIf (cVal (eOp dEq (eVar 6) (eVar 1))) (sDrop (eBM "list" dAppend (eVar 2) (aCons (eMeth C_Candidate "after_word" sp_Candidate_after_word Wd (eVar 5) aNil) aNil))) sNext) (sIf (cVal (eOp (dKIn false) (eVar 1) (eOp dIx (eVar 4) (eVar 6)))) (sDrop (eBM "list" dExtend (eVar 3) (aCons (eLc (iSeq (eMeth C_Candidate "possible_turns" sp_Candidate_possible_turns Wd (eVar 5) (aCons (eVar 6) aNil))) (Tg.one 7) cYes (eMeth C_Candidate "started_at" sp_Candidate_started_at WNo (eVar 5) (aCons (eVar 6) (aCons (eVar 7) aNil))) [7]) aNil))) sNext)))))
    (sRet (eVar 2))))
def t_filter_candidates (C_Candidate : Addr) (C_TooManyCandidates : Addr) (sp_Candidate_after_hearing : Spd) (Wd : WXd) : TSd :=
    (sSeq (sAsg (eLst aNil) (gNm 2))
    (sSeq (sFor (iSeq (eVar 0)) (gNm 3) (sSeq (sDrop (eBM "list" dExtend (eVar 2) (aCons (eMeth C_Candidate "after_hearing" sp_Candidate_after_hearing Wd (eVar 3) (aCons (eVar 1) aNil)) aNil)))
    (sIf (cVal (eOp dGt (eArgs dLen (aCons (eVar 2) aNil)) (eC c_MAX_CANDIDATES))) (sRaise C_TooManyCandidates Wd) sNext)))
    (sRet (eVar 2))))
def t_Candidate_following_words (C_Candidate : Addr) (sp_Candidate_current_item : Spd) (sp_is_word : Spd) (sp_Candidate_opening_words : Spd) (Wd : WXd) : TSd :=
    (sSeq (sAsg (eMeth C_Candidate "current_item" sp_Candidate_current_item Wd (eVar 0) aNil) (gNm 1))
    (sRet (eIf (cVal (eCall sp_is_word Wd (aCons (eVar 1) aNil))) (eLst (aCons (eVar 1) aNil)) (eArgs dSortedK (aCons (eOp dIx (eMeth C_Candidate "opening_words" sp_Candidate_opening_words Wd (eVar 0) aNil) (eVar 1)) aNil)))))
def t_Candidate_size (C_Candidate : Addr) (Wd : WXd) : TSd :=
    (sSeq (sAsg (eC (.int 1)) (gNm 1))
    (sSeq (sFor (iZipD (aCons (eFld C_Candidate (eVar 0) "first_turns") (aCons (eFld C_Candidate (eVar 0) "book") aNil))) (gUnp 2 (gsCons (gNm 2) (gsCons (gNm 3) gsNil))) (sIf (cVal (eOp dIs (eVar 2) (eC .non))) (sAug 1 (eArgs dLen (aCons (eVar 3) aNil)) dMulA) sNext))
    (sRet (eVar 1))))
def t_Candidate_known_turn (C_Candidate : Addr) (Wd : WXd) : TSd :=
    (sRet (eIf (cVal (eOp dEq (eArgs dLen (aCons (eOp dIx (eFld C_Candidate (eVar 0) "book") (eVar 1)) aNil)) (eC (.int 1)))) (eC (.int 0)) (eOp dIx (eFld C_Candidate (eVar 0) "first_turns") (eVar 1))))
def t_certain_turns (C_Candidate : Addr) (sp_Candidate_known_turn : Spd) (Wd : WXd) : TSd :=
    (sSeq (sAsg (eLst aNil) (gNm 2))
    (sSeq (sFor (iRg1 (aCons (eArgs dLen (aCons (eVar 0) aNil)) aNil)) (gNm 3) (sSeq (sAsg (eLc (iSeq (eVar 1)) (Tg.one 5) cYes (eMeth C_Candidate "known_turn" sp_Candidate_known_turn WNo (eVar 5) (aCons (eVar 3) aNil)) [5]) (gNm 4))
    (sDrop (eBM "list" dAppend (eVar 2) (aCons (eIf (cVal (eArgs dAll (aCons (eLc (iSeq (eVar 4)) (Tg.one 6) cYes (eOp dEq (eVar 6) (eOp dIx (eVar 4) (eC (.int 0)))) [6]) aNil))) (eOp dIx (eVar 4) (eC (.int 0))) (eC .non)) aNil)))))
    (sRet (eArgs dTuple (aCons (eVar 2) aNil)))))
def t_infer_turns (C_Candidate : Addr) (C_TooManyWords : Addr) (sp_validate_book : Spd) (sp_Candidate_init : Spd) (sp_filter_candidates : Spd) (sp_Candidate_following_words : Spd) (sp_Candidate_size : Spd) (sp_certain_turns : Spd) (Wd : WXd) : TSd :=
    (sSeq (sDrop (eCall sp_validate_book Wd (aCons (eVar 0) aNil)))
    (sSeq (sIf (cVal (eOp dGt (eArgs dLen (aCons (eVar 1) aNil)) (eC c_MAX_HEARD))) (sRaise C_TooManyWords Wd) sNext)
    (sSeq (sAsg (eOp dMulT (eTup (aCons (eC .non) aNil)) (eArgs dLen (aCons (eVar 0) aNil))) (gNm 2))
    (sSeq (sAsg (eLst (aCons (eMake C_Candidate sp_Candidate_init (aCons (eVar 0) (aCons (eVar 2) (aCons (eVar 2) (aCons (eTup aNil) aNil))))) aNil)) (gNm 3))
    (sSeq (sFor (iSeq (eVar 1)) (gNm 4) (sAsg (eCall sp_filter_candidates Wd (aCons (eVar 3) (aCons (eVar 4) aNil))) (gNm 3)))
    (sSeq (sIf (cVal (eOp dEqE (eVar 3) (eLst aNil))) (sRet (eTup (aCons (eC (.int 0)) (aCons (eC .non) (aCons (eLst aNil) aNil))))) sNext)
    (sSeq (sAsg eKNew (gNm 5))
    (sSeq (sFor (iSeq (eVar 3)) (gNm 6) (sDrop (eBM "dict" dUpdate (eVar 5) (aCons (eLc (iSeq (eMeth C_Candidate "following_words" sp_Candidate_following_words Wd (eVar 6) aNil)) (Tg.one 4) cYes (eTup (aCons (eVar 4) (aCons (eC (.bl true)) aNil))) [4]) aNil))))
    (sRet (eTup (aCons (eArgs dSum (aCons (eLc (iSeq (eVar 3)) (Tg.one 6) cYes (eMeth C_Candidate "size" sp_Candidate_size WNo (eVar 6) aNil) [6]) aNil)) (aCons (eCall sp_certain_turns Wd (aCons (eVar 0) (aCons (eVar 3) aNil))) (aCons (eArgs dSortedK (aCons (eVar 5) aNil)) aNil)))))))))))))
end K14
set_option Elab.async false
set_option linter.all false
set_option maxRecDepth 100000
set_option maxHeartbeats 2000000
namespace K14
open PySem PySem.Spec D3 K20 K11 K03
structure Cd where
  f : List (Option Int)
  c : List (Option Int)
  e : List En
def sz (B : Bk) (r : Nat) : Nat := (B.getD r []).length
def curIt (B : Bk) (x : Cd) : Itm := match x.e with
  | [] => .ref 0
  | y :: _ => itAt B y
def poss (B : Bk) (x : Cd) (r : Nat) : List Int := match x.f.getD r none with
  | some _ => [(x.c.getD r none).getD 0]
  | none => (List.range (sz B r)).map fun k : Nat => (k : Int)
def startC (B : Bk) (x : Cd) (r : Nat) (t : Int) : Cd := ⟨if x.f.getD r none = none then x.f.set r (some t) else x.f, x.c.set r (some ((t + 1) % (sz B r : Int))), (r, t.toNat, 0) :: x.e⟩
def aftW (B : Bk) (x : Cd) : Cd := ⟨x.f, x.c, fin B x.e⟩
def st0 (B : Bk) (r : Nat) (t : Int) : Itm := itAt B (r, t.toNat, 0)
def addK (acc : List Str) (y : Str) : List Str := if y ∈ acc then acc else acc ++ [y]
def opn (B : Bk) (x : Cd) (r : Nat) : List Str := (poss B x r).foldl (fun acc t => match st0 B r t with
  | .wd y => addK acc y
  | .ref n => if h : r < n.toNat ∧ n.toNat < B.length then (opn B x n.toNat).foldl addK acc else acc) []
termination_by B.length - r
decreasing_by omega
def ow (B : Bk) (τ : Nat → Int) (r : Nat) : Str := match st0 B r (τ r) with
  | .wd y => y
  | .ref n => if h : r < n.toNat ∧ n.toNat < B.length then ow B τ n.toNat else ""
termination_by B.length - r
decreasing_by omega
theorem mem_addK {acc : List Str} {y w : Str} : w ∈ addK acc y ↔ w ∈ acc ∨ w = y := by
  unfold addK
  split
  · constructor
    · exact .inl
    · rintro (h | rfl) <;> assumption
  · simp
theorem nod_addK {acc : List Str} {y : Str} (h : acc.Nodup) : (addK acc y).Nodup := by
  unfold addK
  split
  · exact h
  · rename_i c
    rw [List.nodup_append]
    refine ⟨h, by simp, fun a ha b hb => ?_⟩
    rw [List.mem_singleton.mp hb]
    rintro rfl
    exact c ha
theorem mem_foldK : ∀ {l acc : List Str} {w : Str}, w ∈ l.foldl addK acc ↔ w ∈ acc ∨ w ∈ l
  | [], acc, w => by simp
  | y :: l, acc, w => by
    rw [List.foldl_cons, mem_foldK, mem_addK, List.mem_cons, or_assoc]
theorem nod_foldK : ∀ {l acc : List Str}, acc.Nodup → (l.foldl addK acc).Nodup
  | [], acc, h => h
  | y :: l, acc, h => by
    rw [List.foldl_cons]; exact nod_foldK (nod_addK h)
def opI (B : Bk) (x : Cd) (r : Nat) (acc : List Str) (t : Int) : List Str := match st0 B r t with
  | .wd y => addK acc y
  | .ref n => if r < n.toNat ∧ n.toNat < B.length then (opn B x n.toNat).foldl addK acc else acc
theorem opn_eq (B : Bk) (x : Cd) (r : Nat) : opn B x r = (poss B x r).foldl (opI B x r) [] := by
  rw [opn]
  congr 1
def InI (B : Bk) (x : Cd) (r : Nat) (t : Int) (w : Str) : Prop := match st0 B r t with
  | .wd y => w = y
  | .ref n => (r < n.toNat ∧ n.toNat < B.length) ∧ w ∈ opn B x n.toNat
theorem mem_opI {B : Bk} {x : Cd} {r : Nat} {acc : List Str} {t : Int} {w : Str} : w ∈ opI B x r acc t ↔ w ∈ acc ∨ InI B x r t w := by
  unfold opI InI
  split
  · exact mem_addK
  · split
    · rename_i h
      rw [mem_foldK]
      constructor
      · rintro (q | q)
        · exact .inl q
        · exact .inr ⟨h, q⟩
      · rintro (q | q)
        · exact .inl q
        · exact .inr q.2
    · rename_i h
      constructor
      · exact .inl
      · rintro (q | q)
        · exact q
        · exact absurd q.1 h
theorem mem_opF {B : Bk} {x : Cd} {r : Nat} {w : Str} : ∀ {l : List Int} {acc : List Str}, w ∈ l.foldl (opI B x r) acc ↔ w ∈ acc ∨ ∃ t ∈ l, InI B x r t w
  | [], acc => by simp
  | t :: l, acc => by
    rw [List.foldl_cons, mem_opF, mem_opI]
    constructor
    · rintro ((h | h) | ⟨t', h1, h2⟩)
      · exact .inl h
      · exact .inr ⟨t, List.mem_cons_self, h⟩
      · exact .inr ⟨t', List.mem_cons_of_mem _ h1, h2⟩
    · rintro (h | ⟨t', h1, h2⟩)
      · exact .inl (.inl h)
      · rcases List.mem_cons.mp h1 with rfl | h1
        · exact .inl (.inr h2)
        · exact .inr ⟨t', h1, h2⟩
theorem mem_opn {B : Bk} {x : Cd} {r : Nat} {w : Str} : w ∈ opn B x r ↔ ∃ t ∈ poss B x r, InI B x r t w := by
  rw [opn_eq, mem_opF]; simp
theorem nod_opI {B : Bk} {x : Cd} {r : Nat} {acc : List Str} {t : Int} (h : acc.Nodup) : (opI B x r acc t).Nodup := by
  unfold opI
  split
  · exact nod_addK h
  · split
    · exact nod_foldK h
    · exact h
theorem nod_opF {B : Bk} {x : Cd} {r : Nat} : ∀ {l : List Int} {acc : List Str}, acc.Nodup → (l.foldl (opI B x r) acc).Nodup
  | [], acc, h => h
  | t :: l, acc, h => by rw [List.foldl_cons]; exact nod_opF (nod_opI h)
theorem nod_opn {B : Bk} {x : Cd} {r : Nat} : (opn B x r).Nodup := by
  rw [opn_eq]; exact nod_opF List.nodup_nil
/-- the opening words depend on the later refrains only -/
theorem opn_congr {B : Bk} {x y : Cd} : ∀ (d r : Nat), B.length - r ≤ d → (∀ j, r ≤ j → poss B x j = poss B y j) → opn B x r = opn B y r := by
  intro d
  induction d with
  | zero =>
    intro r hd h
    rw [opn_eq, opn_eq, h r (Nat.le_refl _)]
    congr 1
    funext acc t
    unfold opI
    split
    · rfl
    · rw [if_neg (by omega), if_neg (by omega)]
  | succ d ih =>
    intro r hd h
    rw [opn_eq, opn_eq, h r (Nat.le_refl _)]
    congr 1
    funext acc t
    unfold opI
    split
    · rfl
    · split
      · rename_i c
        rw [ih _ (by omega) fun j hj => h j (by omega)]
      · rfl
theorem ow_congr {B : Bk} {σ τ : Nat → Int} : ∀ (d r : Nat), B.length - r ≤ d → (∀ j, r ≤ j → σ j = τ j) → ow B σ r = ow B τ r := by
  intro d
  induction d with
  | zero =>
    intro r hd h
    rw [ow, ow, h r (Nat.le_refl _)]
    split
    · rfl
    · rw [dif_neg (by omega), dif_neg (by omega)]
  | succ d ih =>
    intro r hd h
    rw [ow, ow, h r (Nat.le_refl _)]
    split
    · rfl
    · split
      · rw [ih _ (by omega) fun j hj => h j (by omega)]
      · rfl
/-- the items of the book lead on -/
def Lead (B : Bk) (r : Nat) (t : Int) : Prop := ∀ n, st0 B r t = .ref n → r < n.toNat ∧ n.toNat < B.length
theorem opn_iff {B : Bk} {x : Cd} (hl : ∀ r, r < B.length → ∀ t ∈ poss B x r, Lead B r t) : ∀ (d r : Nat), B.length - r ≤ d → r < B.length → ∀ (τ0 : Nat → Int), (∀ j, j < B.length → τ0 j ∈ poss B x j) → ∀ w, (w ∈ opn B x r ↔ ∃ τ : Nat → Int, (∀ j, j < B.length → τ j ∈ poss B x j) ∧ ow B τ r = w) := by
  intro d
  induction d with
  | zero => intro r h1 h2; omega
  | succ d ih =>
    intro r hd hr τ0 h0 w
    rw [mem_opn]
    constructor
    · rintro ⟨t, ht, hi⟩
      unfold InI at hi
      cases e : st0 B r t with
      | wd y =>
        rw [e] at hi
        refine ⟨fun j => if j = r then t else τ0 j, fun j hj => ?_, ?_⟩
        · dsimp only
          split
          · rename_i q; rw [q]; exact ht
          · exact h0 j hj
        · rw [ow]
          simp only [if_pos, e, hi]
      | ref n =>
        rw [e] at hi
        obtain ⟨⟨h1, h2⟩, h3⟩ := hi
        obtain ⟨τ, g1, g2⟩ := (ih n.toNat (by omega) h2 τ0 h0 w).mp h3
        refine ⟨fun j => if j = r then t else τ j, fun j hj => ?_, ?_⟩
        · dsimp only
          split
          · rename_i q; rw [q]; exact ht
          · exact g1 j hj
        · rw [ow]
          simp only [if_pos, e]
          rw [dif_pos ⟨h1, h2⟩, ← g2]
          exact ow_congr _ _ (Nat.le_refl _) fun j hj => if_neg (by omega)
    · rintro ⟨τ, g1, g2⟩
      refine ⟨τ r, g1 r hr, ?_⟩
      unfold InI
      rw [ow] at g2
      cases e : st0 B r (τ r) with
      | wd y =>
        rw [e] at g2
        exact g2.symm
      | ref n =>
        rw [e] at g2
        obtain ⟨h1, h2⟩ := hl r hr _ (g1 r hr) n e
        dsimp only at g2
        rw [dif_pos ⟨h1, h2⟩] at g2
        exact ⟨⟨h1, h2⟩, (ih n.toNat (by omega) h2 τ0 h0 w).mpr ⟨τ, g1, g2⟩⟩
end K14
set_option Elab.async false
set_option linter.all false
set_option maxRecDepth 100000
set_option maxHeartbeats 2000000
namespace K14
open PySem PySem.Spec D3 K20 K11 K03
def mixT (c : List (Option Int)) (T : List Int) : List Int := List.zipWith (fun o t => o.getD t) c T
theorem mix_set : ∀ {c : List (Option Int)} {T : List Int} {r : Nat} {v : Int}, mixT (c.set r (some v)) T = (mixT c T).set r v
  | [], T, r, v => by cases T <;> rfl
  | o :: c, [], r, v => by cases r <;> rfl
  | o :: c, t :: T, 0, v => rfl
  | o :: c, t :: T, r + 1, v => by
    show o.getD t :: mixT (c.set r (some v)) T = o.getD t :: (mixT c T).set r v
    rw [mix_set]
theorem mix_len {c : List (Option Int)} {T : List Int} (h : c.length = T.length) : (mixT c T).length = T.length := by
  unfold mixT; rw [List.length_zipWith, h, Nat.min_self]
theorem mix_get : ∀ {c : List (Option Int)} {T : List Int} {r : Nat}, c.length = T.length → r < T.length → (mixT c T).getD r 0 = (c.getD r none).getD (T.getD r 0)
  | [], T, r, h, hr => by rw [← h] at hr; cases hr
  | o :: c, [], r, h, hr => by cases hr
  | o :: c, t :: T, 0, h, hr => rfl
  | o :: c, t :: T, r + 1, h, hr => mix_get (c := c) (T := T) (r := r) (Nat.succ.inj h) (Nat.lt_of_succ_lt_succ hr)
def stOf (x : Cd) (T : List Int) : Ps := (mixT x.c T, x.e)
def Fits (x : Cd) (T : List Int) : Prop := ∀ r, x.f.getD r none = none ∨ x.f.getD r none = some (T.getD r 0)
def fitL : List (Option Int) → List Int → Bool
  | o :: f, t :: T => (decide (o = none) || decide (o = some t)) && fitL f T
  | _, _ => true
theorem fit_iff : ∀ {f : List (Option Int)} {T : List Int}, f.length = T.length → (fitL f T = true ↔ ∀ r, f.getD r none = none ∨ f.getD r none = some (T.getD r 0))
  | [], [], h => ⟨fun _ r => .inl rfl, fun _ => rfl⟩
  | [], t :: T, h => by cases h
  | o :: f, [], h => by cases h
  | o :: f, t :: T, h => by
    have ih := fit_iff (f := f) (T := T) (Nat.succ.inj h)
    show ((decide (o = none) || decide (o = some t)) && fitL f T) = true ↔ _
    rw [Bool.and_eq_true, ih, Bool.or_eq_true, decide_eq_true_eq, decide_eq_true_eq]
    constructor
    · rintro ⟨h1, h2⟩ r
      cases r with
      | zero => exact h1
      | succ r => exact h2 r
    · intro h
      exact ⟨h 0, fun r => h (r + 1)⟩
structure COk (B : Bk) (x : Cd) : Prop where
  lf : x.f.length = B.length
  lc : x.c.length = B.length
  nn : ∀ r, x.f.getD r none = none ↔ x.c.getD r none = none
  fr : ∀ r t, x.f.getD r none = some t → 0 ≤ t ∧ t < sz B r
  cr : ∀ r t, x.c.getD r none = some t → 0 ≤ t ∧ t < sz B r
  e : ∀ y ∈ x.e, EOk B y
  ch : Chn B x.e
  n : ∀ y ∈ x.e, x.c.getD y.1 none = some (((y.2.1 : Int) + 1) % (sz B y.1 : Int))
theorem gd {B : Bk} {r : Nat} {x : List (List Itm)} (h : B[r]? = some x) : B.getD r [] = x := by rw [List.getD_eq_getElem?_getD, h]; rfl
theorem sz_of {B : Bk} {r : Nat} {x : List (List Itm)} (h : B[r]? = some x) : sz B r = x.length := by unfold sz; rw [gd h]
section
variable {B : Bk} {x : Cd} {T : List Int}
theorem COk.mix (h : COk B x) (hT : TOk B T) : TOk B (mixT x.c T) := by
  have hl : x.c.length = T.length := by rw [h.lc, hT.1]
  refine ⟨by rw [mix_len hl, hT.1], fun j r hj => ?_⟩
  have hjl := at_lt hj
  rw [mix_get hl (by rw [hT.1]; exact hjl)]
  cases e : x.c.getD j none with
  | none => exact hT.2 j r hj
  | some t =>
    have := h.cr j t e
    rw [sz_of hj] at this
    exact this
theorem COk.get (h : COk B x) (hT : TOk B T) {r : Nat} (hr : r < B.length) : (mixT x.c T).getD r 0 = (x.c.getD r none).getD (T.getD r 0) := mix_get (by rw [h.lc, hT.1]) (by rw [hT.1]; exact hr)
theorem COk.lvl (hB : BkOk B) (h : COk B x) : x.e.length ≤ B.length := by
  cases e : x.e with
  | nil => exact Nat.zero_le _
  | cons y st =>
    have h1 := (SOk.depth hB h.e h.ch y (by rw [e]; rfl)).1
    have h2 := (h.e y (by rw [e]; exact List.mem_cons_self)).r
    rw [e] at h1
    omega
/-- the refrain that starts next -/
theorem COk.ref (hB : BkOk B) (h : COk B x) {n : Int} (hn : curIt B x = .ref n) : n.toNat < B.length ∧ ((n.toNat : Nat) : Int) = n ∧ x.e.length ≤ n.toNat ∧ (∀ y ∈ x.e, y.1 < n.toNat) ∧ ((x.e = [] ∧ n = 0) ∨ ∃ y st, x.e = y :: st ∧ itAt B y = .ref n) := by
  unfold curIt at hn
  cases e : x.e with
  | nil =>
    rw [e] at hn
    cases hn
    exact ⟨hB.pos, rfl, Nat.le_refl _, fun y hy => (by cases hy), .inl ⟨rfl, rfl⟩⟩
  | cons y st =>
    rw [e] at hn
    have hn : itAt B y = .ref n := hn
    have hy := h.e y (by rw [e]; exact List.mem_cons_self)
    have h1 := hy.ref hB hn
    have h2 := SOk.depth hB h.e h.ch y (by rw [e]; rfl)
    rw [e] at h2
    refine ⟨h1.2.1, h1.2.2, by omega, fun z hz => ?_, .inr ⟨y, st, rfl, hn⟩⟩
    rcases List.mem_cons.mp hz with rfl | hz
    · exact h1.1
    · have := h2.2 z hz
      omega
theorem poss_some {r : Nat} {t : Int} (h : x.f.getD r none = some t) : poss B x r = [(x.c.getD r none).getD 0] := by unfold poss; rw [h]
theorem poss_none {r : Nat} (h : x.f.getD r none = none) : poss B x r = (List.range (sz B r)).map fun k : Nat => (k : Int) := by unfold poss; rw [h]
theorem COk.poss (h : COk B x) {r : Nat} {t : Int} (ht : t ∈ poss B x r) : 0 ≤ t ∧ t < sz B r := by
  cases e : x.f.getD r none with
  | none =>
    rw [poss_none e] at ht
    obtain ⟨k, hk, rfl⟩ := List.mem_map.mp ht
    have := List.mem_range.mp hk
    omega
  | some u =>
    rw [poss_some e, List.mem_singleton] at ht
    cases e2 : x.c.getD r none with
    | none => rw [(h.nn r).mpr e2] at e; cases e
    | some v =>
      rw [e2] at ht
      have ht : t = v := ht
      rw [ht]
      exact h.cr r v e2
theorem COk.poss_at (h : COk B x) (hT : TOk B T) {r : Nat} (hr : r < B.length) : (mixT x.c T).getD r 0 ∈ K14.poss B x r := by
  rw [h.get hT hr]
  obtain ⟨y, hy⟩ : ∃ y, B[r]? = some y := ⟨_, List.getElem?_eq_getElem hr⟩
  cases e : x.f.getD r none with
  | none =>
    rw [poss_none e, (h.nn r).mp e]
    have := hT.2 r y hy
    refine List.mem_map.mpr ⟨(T.getD r 0).toNat, List.mem_range.mpr ?_, ?_⟩
    · rw [sz_of hy]; omega
    · show (((T.getD r 0).toNat : Nat) : Int) = T.getD r 0
      omega
  | some u =>
    rw [poss_some e, List.mem_singleton]
    cases e2 : x.c.getD r none with
    | none => rw [(h.nn r).mpr e2] at e; cases e
    | some v => rfl
theorem getD_setO {l : List (Option Int)} {r j : Nat} {o : Option Int} (hr : r < l.length) : (l.set r o).getD j none = if j = r then o else l.getD j none := by
  rw [List.getD_eq_getElem?_getD]
  by_cases c : j = r
  · subst c
    rw [if_pos rfl, List.getElem?_set_self hr]; rfl
  · rw [if_neg c, List.getElem?_set_ne (fun z => c z.symm), ← List.getD_eq_getElem?_getD]
theorem start_f (h : COk B x) {r : Nat} (hr : r < B.length) {t : Int} {j : Nat} : (startC B x r t).f.getD j none = if x.f.getD r none = none ∧ j = r then some t else x.f.getD j none := by
  unfold startC
  by_cases c : x.f.getD r none = none
  · simp only [c, if_true, true_and]
    exact getD_setO (by rw [h.lf]; exact hr)
  · simp only [c, if_false, false_and]
theorem start_c (h : COk B x) {r : Nat} (hr : r < B.length) {t : Int} {j : Nat} : (startC B x r t).c.getD j none = if j = r then some ((t + 1) % (sz B r : Int)) else x.c.getD j none := getD_setO (by rw [h.lc]; exact hr)
theorem COk.start (hB : BkOk B) (h : COk B x) {n : Int} (hn : curIt B x = .ref n) {t : Int} (ht : t ∈ K14.poss B x n.toNat) : COk B (startC B x n.toNat t) := by
  obtain ⟨hr, hrn, hle, hlt, hcur⟩ := h.ref hB hn
  have ht2 := h.poss ht
  generalize hg : n.toNat = r at *
  obtain ⟨y, hy⟩ : ∃ y, B[r]? = some y := ⟨_, List.getElem?_eq_getElem hr⟩
  have hsz := sz_of hy
  have hm : 0 ≤ (t + 1) % (sz B r : Int) ∧ (t + 1) % (sz B r : Int) < sz B r := ⟨Int.emod_nonneg _ (by omega), Int.emod_lt_of_pos _ (by omega)⟩
  have hen : EOk B (r, t.toNat, 0) := by
    refine ⟨hr, ?_, ?_⟩
    · show t.toNat < (B.getD r []).length
      have : sz B r = (B.getD r []).length := rfl
      omega
    · have hv : vOf B (r, t.toNat, 0) ∈ y := by
        show (B.getD r []).getD t.toNat [] ∈ y
        rw [gd hy, List.getD_eq_getElem?_getD, List.getElem?_eq_getElem (by omega)]
        exact List.getElem_mem _
      exact (hB.verse hy hv).1
  refine ⟨?_, ?_, fun j => ?_, fun j u => ?_, fun j u => ?_, fun z hz => ?_, ?_, fun z hz => ?_⟩
  · show (if x.f.getD r none = none then x.f.set r (some t) else x.f).length = _
    split
    · rw [List.length_set, h.lf]
    · exact h.lf
  · show (x.c.set _ _).length = _
    rw [List.length_set, h.lc]
  · rw [start_f h hr, start_c h hr]
    by_cases c : j = r
    · subst c
      by_cases c2 : x.f.getD j none = none
      · rw [if_pos ⟨c2, rfl⟩, if_pos rfl]
        exact ⟨fun z => (by cases z), fun z => (by cases z)⟩
      · simp only [c2, false_and, if_false, if_true, false_iff]
        exact fun z => by cases z
    · simp only [c, and_false, if_false]
      exact h.nn j
  · rw [start_f h hr]
    split
    · rename_i c
      rintro ⟨⟩
      rw [c.2]
      exact ht2
    · exact h.fr j u
  · rw [start_c h hr]
    split
    · rename_i c
      rintro ⟨⟩
      rw [c]
      exact hm
    · exact h.cr j u
  · rcases List.mem_cons.mp hz with rfl | hz
    · exact hen
    · exact h.e z hz
  · show Chn B ((r, t.toNat, 0) :: x.e)
    rcases hcur with ⟨e, rfl⟩ | ⟨z, st, e, hz⟩
    · rw [e]
      show r = 0
      exact hg.symm
    · have hch := h.ch
      rw [e] at hch ⊢
      exact ⟨by rw [hz, hrn], hch⟩
  · rw [start_c h hr]
    rcases List.mem_cons.mp hz with rfl | hz
    · rw [if_pos rfl]
      congr 2
      show t + 1 = ((t.toNat : Nat) : Int) + 1
      omega
    · rw [if_neg (by have := hlt z hz; omega)]
      exact h.n z hz
theorem COk.aftW (h : COk B x) : COk B (K14.aftW B x) := by
  have hfin : ∀ {st : List En}, (∀ y ∈ st, EOk B y) → Chn B st → (∀ y ∈ fin B st, EOk B y ∧ ∃ z ∈ st, y.1 = z.1 ∧ y.2.1 = z.2.1) ∧ Chn B (fin B st) := by
    intro st
    induction st with
    | nil => exact fun _ _ => ⟨fun y hy => (by cases hy), trivial⟩
    | cons z st ih =>
      intro he hch
      unfold fin
      split
      · have h2 := ih (fun y hy => he y (List.mem_cons_of_mem _ hy)) (by cases st with | nil => trivial | cons _ _ => exact hch.2)
        refine ⟨fun y hy => ?_, h2.2⟩
        obtain ⟨h3, w, hw, h4⟩ := h2.1 y hy
        exact ⟨h3, w, List.mem_cons_of_mem _ hw, h4⟩
      · rename_i c
        have hz := he z List.mem_cons_self
        refine ⟨fun y hy => ?_, ?_⟩
        · rcases List.mem_cons.mp hy with rfl | hy
          · refine ⟨⟨hz.r, hz.v, ?_⟩, z, List.mem_cons_self, rfl, rfl⟩
            have h1 := hz.i
            show z.2.2 + 1 < (vOf B z).length
            omega
          · exact ⟨he y (List.mem_cons_of_mem _ hy), y, List.mem_cons_of_mem _ hy, rfl, rfl⟩
        · cases st with
          | nil => exact hch
          | cons w st => exact hch
  obtain ⟨h1, h2⟩ := hfin h.e h.ch
  refine ⟨h.lf, h.lc, h.nn, h.fr, h.cr, fun y hy => (h1 y hy).1, h2, fun y hy => ?_⟩
  obtain ⟨_, z, hz, e1, e2⟩ := h1 y hy
  have := h.n z hz
  show x.c.getD y.1 none = _
  rw [e1, e2]
  exact this
end
end K14
set_option Elab.async false
set_option linter.all false
set_option maxRecDepth 100000
set_option maxHeartbeats 2000000
namespace K14
open PySem PySem.Spec D3 K20 K11 K03
def tw (B : Bk) (s : Ps) : Str := match (mTop B s).2 with
  | [] => ""
  | y :: _ => match itAt B y with
    | .wd w => w
    | .ref _ => ""
theorem tw_start {B : Bk} (hB : BkOk B) : ∀ (d r : Nat), B.length - r ≤ d → r < B.length → ∀ T st, TOk B T → tw B (mStart B (T, st) r) = ow B (fun j => T.getD j 0) r := by
  intro d
  induction d with
  | zero => intro r h1 h2; omega
  | succ d ih =>
    intro r hd hr T st hT
    have he := start_ok hB hT hr
    rw [ow]
    have e0 : st0 B r (T.getD r 0) = itAt B (r, (T.getD r 0).toNat, 0) := rfl
    rw [e0]
    cases e : itAt B (r, (T.getD r 0).toNat, 0) with
    | wd y =>
      dsimp only
      unfold tw mStart
      rw [top_wd e]
      dsimp only
      rw [e]
    | ref n =>
      dsimp only
      have h1 := he.ref hB e
      rw [dif_pos ⟨h1.1, h1.2.1⟩]
      have hT2 := nxt_ok hB hT hr
      have h2 := ih n.toNat (by have := h1.1; dsimp only at this; omega) h1.2.1 (nxt B T r) ((r, (T.getD r 0).toNat, 0) :: st) hT2
      have h3 : tw B (mStart B (T, st) r) = tw B (mStart B (nxt B T r, (r, (T.getD r 0).toNat, 0) :: st) n.toNat) := by
        unfold tw
        rw [show mStart B (T, st) r = (nxt B T r, (r, (T.getD r 0).toNat, 0) :: st) from rfl, top_ref hB hT2 he e]
      rw [h3, h2]
      exact ow_congr _ _ (Nat.le_refl _) fun j hj => nxt_ne (by have := h1.1; dsimp only at this; omega)
def aftL (B : Bk) (w : Str) : Nat → Cd → List Cd
  | 0, _ => []
  | f + 1, x => match curIt B x with
    | .wd y => if y = w then [aftW B x] else []
    | .ref n => if w ∈ opn B x n.toNat then (poss B x n.toNat).reverse.flatMap fun t => aftL B w f (startC B x n.toNat t) else []
def aft (B : Bk) (w : Str) (x : Cd) : List Cd := aftL B w (61 - x.e.length) x
theorem aft_wd {B : Bk} {w y : Str} {x : Cd} (hl : x.e.length ≤ 60) (h : curIt B x = .wd y) : aft B w x = if y = w then [aftW B x] else [] := by
  unfold aft
  rw [show 61 - x.e.length = (60 - x.e.length) + 1 by omega, aftL, h]
theorem aft_ref {B : Bk} {w : Str} {n : Int} {x : Cd} (hl : x.e.length ≤ 60) (h : curIt B x = .ref n) : aft B w x = if w ∈ opn B x n.toNat then (poss B x n.toNat).reverse.flatMap fun t => aft B w (startC B x n.toNat t) else [] := by
  unfold aft
  rw [show 61 - x.e.length = (60 - x.e.length) + 1 by omega, aftL, h]
  dsimp only
  split
  · congr 1
    funext t
    show _ = aftL B w (61 - (x.e.length + 1)) _
    rw [show 61 - (x.e.length + 1) = 60 - x.e.length by omega]
  · rfl
section
variable {B : Bk} {x : Cd} {T : List Int}
theorem cur_wd {w : Str} (h : curIt B x = .wd w) : tw B (stOf x T) = w ∧ mNext B (stOf x T) = stOf (aftW B x) T := by
  unfold curIt at h
  cases e : x.e with
  | nil => rw [e] at h; cases h
  | cons y st =>
    rw [e] at h
    have h : itAt B y = .wd w := h
    have e1 : stOf x T = (mixT x.c T, y :: st) := by unfold stOf; rw [e]
    constructor
    · unfold tw
      rw [e1, top_wd h]
      dsimp only
      rw [h]
    · unfold mNext
      rw [e1, top_wd h]
      show _ = (mixT x.c T, fin B x.e)
      rw [e]
theorem top_cur (hB : BkOk B) (h : COk B x) (hT : TOk B T) {n : Int} (hn : curIt B x = .ref n) : mTop B (stOf x T) = mTop B (mStart B (stOf x T) n.toNat) := by
  obtain ⟨hr, hrn, hle, hlt, hcur⟩ := h.ref hB hn
  rcases hcur with ⟨e, rfl⟩ | ⟨y, st, e, hy⟩
  · unfold stOf
    rw [e]
    exact top_nil
  · unfold stOf
    rw [e]
    exact top_ref hB (h.mix hT) (h.e y (by rw [e]; exact List.mem_cons_self)) hy
theorem st_start (hB : BkOk B) (h : COk B x) (hT : TOk B T) {r : Nat} (hr : r < B.length) {t : Int} (e : (mixT x.c T).getD r 0 = t) : stOf (startC B x r t) T = mStart B (stOf x T) r := by
  show (mixT (x.c.set r (some _)) T, _) = (nxt B (mixT x.c T) r, (r, ((mixT x.c T).getD r 0).toNat, 0) :: x.e)
  rw [mix_set, ← e]
  rfl
/-- a start with a turn fits exactly the turns that start so -/
theorem fits_start (h : COk B x) (hT : TOk B T) {r : Nat} (hr : r < B.length) {t : Int} (ht : t ∈ poss B x r) : Fits (startC B x r t) T ↔ Fits x T ∧ (mixT x.c T).getD r 0 = t := by
  rw [h.get hT hr]
  cases e : x.f.getD r none with
  | none =>
    rw [(h.nn r).mp e]
    constructor
    · intro hf
      have h1 := hf r
      rw [start_f h hr, if_pos ⟨e, rfl⟩] at h1
      have h2 : T.getD r 0 = t := by
        rcases h1 with h1 | h1
        · cases h1
        · exact (Option.some.inj h1).symm
      refine ⟨fun j => ?_, h2⟩
      by_cases c : j = r
      · rw [c, e]; exact .inl rfl
      · have h3 := hf j
        rw [start_f h hr, if_neg (by rintro ⟨_, q⟩; exact c q)] at h3
        exact h3
    · rintro ⟨hf, h2⟩ j
      rw [start_f h hr]
      by_cases c : j = r
      · rw [if_pos ⟨e, c⟩, c]
        have h2 : T.getD r 0 = t := h2
        rw [h2]; exact .inr rfl
      · rw [if_neg (by rintro ⟨_, q⟩; exact c q)]
        exact hf j
  | some u =>
    rw [poss_some e, List.mem_singleton] at ht
    have h0 : ∀ j, (startC B x r t).f.getD j none = x.f.getD j none := fun j => by
      rw [start_f h hr, if_neg (by rintro ⟨q, _⟩; rw [e] at q; cases q)]
    have h1 : (x.c.getD r none).getD (T.getD r 0) = t := by
      cases e2 : x.c.getD r none with
      | none => rw [(h.nn r).mpr e2] at e; cases e
      | some v => rw [e2] at ht; exact ht.symm
    constructor
    · intro hf
      exact ⟨fun j => by rw [← h0 j]; exact hf j, h1⟩
    · rintro ⟨hf, _⟩ j
      rw [h0 j]; exact hf j
theorem tw_cur (hB : BkOk B) (h : COk B x) (hT : TOk B T) {n : Int} (hn : curIt B x = .ref n) : tw B (stOf x T) = ow B (fun j => (mixT x.c T).getD j 0) n.toNat := by
  obtain ⟨hr, _⟩ := h.ref hB hn
  rw [← tw_start hB _ _ (Nat.le_refl _) hr (mixT x.c T) x.e (h.mix hT)]
  unfold tw
  rw [top_cur hB h hT hn]
  rfl
theorem lead (hB : BkOk B) (h : COk B x) : ∀ r, r < B.length → ∀ t ∈ poss B x r, Lead B r t := by
  intro r hr t ht n hn
  have ht2 := h.poss ht
  obtain ⟨y, hy⟩ : ∃ y, B[r]? = some y := ⟨_, List.getElem?_eq_getElem hr⟩
  have hsz := sz_of hy
  have hv : vOf B (r, t.toNat, 0) ∈ y := by
    show (B.getD r []).getD t.toNat [] ∈ y
    rw [gd hy, List.getD_eq_getElem?_getD, List.getElem?_eq_getElem (by omega)]
    exact List.getElem_mem _
  have hen : EOk B (r, t.toNat, 0) := by
    refine ⟨hr, ?_, (hB.verse hy hv).1⟩
    show t.toNat < (B.getD r []).length
    have : sz B r = (B.getD r []).length := rfl
    omega
  have := hen.ref hB hn
  exact ⟨this.1, this.2.1⟩
theorem in_opn (hB : BkOk B) (h : COk B x) (hT : TOk B T) {n : Int} (hn : curIt B x = .ref n) : tw B (stOf x T) ∈ opn B x n.toNat := by
  obtain ⟨hr, _⟩ := h.ref hB hn
  rw [tw_cur hB h hT hn]
  have hp : ∀ j, j < B.length → (fun j => (mixT x.c T).getD j 0) j ∈ poss B x j := fun j hj => h.poss_at hT hj
  exact (opn_iff (lead hB h) _ _ (Nat.le_refl _) hr _ hp _).mpr ⟨_, hp, rfl⟩
theorem poss_nodup {r : Nat} : (poss B x r).Nodup := by
  unfold poss
  split
  · simp
  · exact List.pairwise_map.mpr (List.Pairwise.imp (fun h z => h (by omega)) List.nodup_range)
theorem aft_in (hB : BkOk B) {w : Str} : ∀ (d : Nat) (x : Cd), COk B x → 61 - x.e.length ≤ d → ∀ x' ∈ aft B w x, COk B x' ∧ ∀ T, TOk B T → Fits x' T → Fits x T ∧ tw B (stOf x T) = w ∧ stOf x' T = mNext B (stOf x T) := by
  intro d
  induction d with
  | zero =>
    intro x h hd
    have := h.lvl hB
    have := hB.le
    omega
  | succ d ih =>
    intro x h hd x' hx'
    have hl : x.e.length ≤ 60 := Nat.le_trans (h.lvl hB) hB.le
    cases e : curIt B x with
    | wd y =>
      rw [aft_wd hl e] at hx'
      split at hx'
      · rename_i c
        subst c
        rw [List.mem_singleton.mp hx']
        refine ⟨h.aftW, fun T hT hf => ?_⟩
        obtain ⟨h1, h2⟩ := cur_wd (T := T) e
        exact ⟨hf, h1, h2.symm⟩
      · cases hx'
    | ref n =>
      rw [aft_ref hl e] at hx'
      split at hx'
      · obtain ⟨t, ht, hx'⟩ := List.mem_flatMap.mp hx'
        have ht := List.mem_reverse.mp ht
        obtain ⟨hr, hrn, hle, hlt, _⟩ := h.ref hB e
        have hs := h.start hB e ht
        have hb := hB.le
        obtain ⟨h1, h2⟩ := ih _ hs (by show 61 - (x.e.length + 1) ≤ d; omega) x' hx'
        refine ⟨h1, fun T hT hf => ?_⟩
        obtain ⟨h3, h4, h5⟩ := h2 T hT hf
        obtain ⟨h6, h7⟩ := (fits_start h hT hr ht).mp h3
        have h8 := st_start hB h hT hr h7
        have h9 := top_cur hB h hT e
        rw [h8] at h4 h5
        refine ⟨h6, ?_, ?_⟩
        · rw [← h4]
          unfold tw
          rw [h9]
        · rw [h5]
          unfold mNext
          rw [h9]
      · cases hx'
def fitC (T : List Int) (x : Cd) : Bool := fitL x.f T
theorem fitC_iff (h : COk B x) (hT : TOk B T) : fitC T x = true ↔ Fits x T := fit_iff (by rw [h.lf, hT.1])
theorem sum_pick {l : List Int} {g : Int → Nat} {t0 : Int} : l.Nodup → t0 ∈ l → (∀ t ∈ l, t ≠ t0 → g t = 0) → (l.map g).sum = g t0 := by
  induction l with
  | nil => intro _ h; cases h
  | cons a l ih =>
    intro hn hm h0
    obtain ⟨h1, h2⟩ := List.nodup_cons.mp hn
    rw [List.map_cons, List.sum_cons]
    have hz : ∀ {l : List Int}, (∀ t ∈ l, g t = 0) → (l.map g).sum = 0 := by
      intro l
      induction l with
      | nil => intro _; rfl
      | cons b l ih2 =>
        intro h
        rw [List.map_cons, List.sum_cons, h b List.mem_cons_self, ih2 fun t ht => h t (List.mem_cons_of_mem _ ht)]
    rcases List.mem_cons.mp hm with rfl | hm
    · rw [hz fun t ht => h0 t (List.mem_cons_of_mem _ ht) fun z => h1 (z ▸ ht), Nat.add_zero]
    · rw [h0 a List.mem_cons_self fun z => h1 (z ▸ hm), Nat.zero_add, ih h2 hm fun t ht => h0 t (List.mem_cons_of_mem _ ht)]
theorem aft_one (hB : BkOk B) {w : Str} : ∀ (d : Nat) (x : Cd), COk B x → 61 - x.e.length ≤ d → ∀ T, TOk B T → Fits x T → tw B (stOf x T) = w → (aft B w x).countP (fitC T) = 1 := by
  intro d
  induction d with
  | zero =>
    intro x h hd
    have := h.lvl hB
    have := hB.le
    omega
  | succ d ih =>
    intro x h hd T hT hf hw
    have hl : x.e.length ≤ 60 := Nat.le_trans (h.lvl hB) hB.le
    cases e : curIt B x with
    | wd y =>
      obtain ⟨h1, h2⟩ := cur_wd (T := T) e
      rw [aft_wd hl e, if_pos (by rw [← h1]; exact hw), List.countP_singleton, if_pos ((fitC_iff h.aftW hT).mpr hf)]
    | ref n =>
      obtain ⟨hr, hrn, hle, hlt, _⟩ := h.ref hB e
      have hin := in_opn hB h hT e
      rw [hw] at hin
      have hb := hB.le
      rw [aft_ref hl e, if_pos hin, List.countP_flatMap]
      have hp := h.poss_at hT hr
      rw [sum_pick (t0 := (mixT x.c T).getD n.toNat 0) (List.pairwise_reverse.mpr (List.Pairwise.imp (fun h => h.symm) poss_nodup)) (List.mem_reverse.mpr hp) fun t ht hne => ?_]
      · have hs := h.start hB e hp
        show ((aft B w _).countP (fitC T)) = 1
        refine ih _ hs (by show 61 - (x.e.length + 1) ≤ d; omega) T hT ((fits_start h hT hr hp).mpr ⟨hf, rfl⟩) ?_
        rw [st_start hB h hT hr rfl, ← hw]
        unfold tw
        rw [top_cur hB h hT e]
      · have ht := List.mem_reverse.mp ht
        have hs := h.start hB e ht
        show ((aft B w _).countP (fitC T)) = 0
        rw [List.countP_eq_zero]
        intro x' hx' hc
        obtain ⟨h1, h2⟩ := aft_in hB _ _ hs (Nat.le_refl _) x' hx'
        obtain ⟨h3, _⟩ := h2 T hT ((fitC_iff h1 hT).mp hc)
        exact hne ((fits_start h hT hr ht).mp h3).2.symm
/-- hearing a word: a turn stays in exactly one candidate, if its word is this one -/
theorem aft_count (hB : BkOk B) {w : Str} (h : COk B x) (hT : TOk B T) : (aft B w x).countP (fitC T) = if fitC T x = true ∧ tw B (stOf x T) = w then 1 else 0 := by
  split
  · rename_i c
    exact aft_one hB _ x h (Nat.le_refl _) T hT ((fitC_iff h hT).mp c.1) c.2
  · rename_i c
    rw [List.countP_eq_zero]
    intro x' hx' hc
    obtain ⟨h1, h2⟩ := aft_in hB _ _ h (Nat.le_refl _) x' hx'
    obtain ⟨h3, h4, _⟩ := h2 T hT ((fitC_iff h1 hT).mp hc)
    exact c ⟨(fitC_iff h hT).mpr h3, h4⟩
end
end K14
set_option Elab.async false
set_option linter.all false
set_option maxRecDepth 100000
set_option maxHeartbeats 2000000
namespace K14
open PySem PySem.Spec D3 K20 K11 K03
def c0 (B : Bk) : Cd := ⟨List.replicate B.length none, List.replicate B.length none, []⟩
def hear (B : Bk) (cs : List Cd) (w : Str) : List Cd := cs.flatMap (aft B w)
def sings (B : Bk) : Ps → List Str → Bool
  | _, [] => true
  | s, w :: ws => decide (tw B s = w) && sings B (mNext B s) ws
theorem sings_snoc {B : Bk} {w : Str} : ∀ {ws : List Str} {s : Ps}, sings B s (ws ++ [w]) = (sings B s ws && decide (tw B (it B ws.length s) = w))
  | [], s => by
    show (decide (tw B s = w) && true) = (true && decide (tw B s = w))
    simp
  | v :: ws, s => by
    show (decide (tw B s = v) && sings B (mNext B s) (ws ++ [w])) = ((decide (tw B s = v) && sings B (mNext B s) ws) && _)
    rw [sings_snoc, Bool.and_assoc]
    rfl
/-- the candidates after some words -/
structure Grp (B : Bk) (cs : List Cd) (ws : List Str) : Prop where
  ok : ∀ x ∈ cs, COk B x
  st : ∀ x ∈ cs, ∀ T, TOk B T → Fits x T → stOf x T = it B ws.length (T, [])
  n : ∀ T, TOk B T → cs.countP (fitC T) = if sings B (T, []) ws = true then 1 else 0
theorem rep_none {n r : Nat} : (List.replicate n (none : Option Int)).getD r none = none := by
  rw [List.getD_eq_getElem?_getD]
  cases e : (List.replicate n (none : Option Int))[r]? with
  | none => rfl
  | some o =>
    have := List.mem_of_getElem? e
    rw [List.eq_of_mem_replicate this]; rfl
theorem c0_ok (B : Bk) : COk B (c0 B) := by
  refine ⟨List.length_replicate, List.length_replicate, fun r => ?_, fun r t h => ?_, fun r t h => ?_, fun y hy => ?_, trivial, fun y hy => ?_⟩
  · show (List.replicate _ _).getD r none = none ↔ (List.replicate _ _).getD r none = none
    exact Iff.rfl
  · have h : (List.replicate B.length (none : Option Int)).getD r none = some t := h
    rw [rep_none] at h; cases h
  · have h : (List.replicate B.length (none : Option Int)).getD r none = some t := h
    rw [rep_none] at h; cases h
  · cases hy
  · cases hy
theorem mix_none : ∀ {n : Nat} {T : List Int}, T.length = n → mixT (List.replicate n none) T = T
  | 0, [], h => rfl
  | n + 1, t :: T, h => by
    show t :: mixT (List.replicate n none) T = t :: T
    rw [mix_none (Nat.succ.inj h)]
theorem grp0 (B : Bk) : Grp B [c0 B] [] := by
  refine ⟨fun x hx => ?_, fun x hx T hT hf => ?_, fun T hT => ?_⟩
  · rw [List.mem_singleton.mp hx]; exact c0_ok B
  · rw [List.mem_singleton.mp hx]
    show (mixT (List.replicate B.length none) T, []) = (T, [])
    rw [mix_none hT.1]
  · rw [List.countP_singleton, if_pos ((fitC_iff (c0_ok B) hT).mpr fun r => .inl rep_none)]
    rfl
theorem sum_if {cs : List Cd} {p : Cd → Bool} {c : Bool} {g : Cd → Nat} (h : ∀ x ∈ cs, g x = if p x = true ∧ c = true then 1 else 0) : (cs.map g).sum = if c = true then cs.countP p else 0 := by
  induction cs with
  | nil => simp
  | cons x cs ih =>
    rw [List.map_cons, List.sum_cons, h x List.mem_cons_self, ih fun y hy => h y (List.mem_cons_of_mem _ hy), List.countP_cons]
    cases c <;> cases p x <;> simp <;> omega
theorem Grp.hear {B : Bk} (hB : BkOk B) {cs : List Cd} {ws : List Str} (h : Grp B cs ws) (w : Str) : Grp B (K14.hear B cs w) (ws ++ [w]) := by
  refine ⟨fun x' hx => ?_, fun x' hx T hT hf => ?_, fun T hT => ?_⟩
  · obtain ⟨x, h1, h2⟩ := List.mem_flatMap.mp hx
    exact (aft_in hB _ x (h.ok x h1) (Nat.le_refl _) x' h2).1
  · obtain ⟨x, h1, h2⟩ := List.mem_flatMap.mp hx
    obtain ⟨h3, h4, h5⟩ := (aft_in hB _ x (h.ok x h1) (Nat.le_refl _) x' h2).2 T hT hf
    rw [h5, h.st x h1 T hT h3, List.length_append, it_add]
    rfl
  · unfold K14.hear
    rw [List.countP_flatMap, sings_snoc]
    rw [sum_if (p := fitC T) (c := decide (tw B (it B ws.length (T, [])) = w)) (fun x hx => ?_), h.n T hT]
    · cases sings B (T, []) ws <;> cases decide (tw B (it B ws.length (T, [])) = w) <;> simp
    · show (aft B w x).countP (fitC T) = _
      rw [aft_count hB (h.ok x hx) hT]
      by_cases c : fitC T x = true
      · rw [h.st x hx T hT ((fitC_iff (h.ok x hx) hT).mp c)]
        simp only [decide_eq_true_eq]
      · simp [c]
theorem snocE {α : Type} (l : List α) : l = [] ∨ ∃ L b, l = L ++ [b] := by
  rcases List.eq_nil_or_concat l with h | ⟨L, b, h⟩
  · exact .inl h
  · exact .inr ⟨L, b, by rw [h, List.concat_eq_append]⟩
def allT (B : Bk) : List (List Int) := B.foldl (fun found vs => found.flatMap fun T => (List.range vs.length).map fun v : Nat => T ++ [(v : Int)]) [[]]
theorem allT_snoc (B : Bk) (vs : List (List Itm)) : allT (B ++ [vs]) = (allT B).flatMap fun T => (List.range vs.length).map fun v : Nat => T ++ [(v : Int)] := by
  unfold allT; rw [List.foldl_append]; rfl
theorem mem_allT : ∀ (n : Nat) {B : Bk}, B.length = n → ∀ {T : List Int}, T ∈ allT B ↔ TOk B T := by
  intro n
  induction n with
  | zero =>
    intro B hn T
    obtain rfl := List.length_eq_zero_iff.mp hn
    show T ∈ [[]] ↔ _
    rw [List.mem_singleton]
    constructor
    · rintro rfl; exact ⟨rfl, fun j r h => by cases h⟩
    · intro h; exact List.length_eq_zero_iff.mp h.1
  | succ n ih =>
    intro B hn T
    rcases snocE B with rfl | ⟨L, vs, rfl⟩
    · cases hn
    · have hL : L.length = n := by rw [List.length_append] at hn; exact Nat.succ.inj hn
      rw [allT_snoc, List.mem_flatMap]
      constructor
      · rintro ⟨U, hU, hT⟩
        obtain ⟨v, hv, rfl⟩ := List.mem_map.mp hT
        have hv := List.mem_range.mp hv
        obtain ⟨h1, h2⟩ := (ih hL).mp hU
        refine ⟨by rw [List.length_append, List.length_append, h1]; rfl, fun j r hj => ?_⟩
        by_cases c : j < L.length
        · rw [List.getElem?_append_left c] at hj
          rw [List.getD_eq_getElem?_getD, List.getElem?_append_left (by rw [h1]; exact c), ← List.getD_eq_getElem?_getD]
          exact h2 j r hj
        · have hj2 := at_lt hj
          rw [List.length_append, List.length_singleton] at hj2
          obtain rfl : j = L.length := by omega
          rw [List.getElem?_append_right (Nat.le_refl _), Nat.sub_self] at hj
          cases hj
          rw [List.getD_eq_getElem?_getD, List.getElem?_append_right (by omega), h1, Nat.sub_self]
          show 0 ≤ (v : Int) ∧ (v : Int) < _
          omega
      · rintro ⟨h1, h2⟩
        rcases snocE T with rfl | ⟨U, t, rfl⟩
        · rw [List.length_append] at h1; cases h1
        · rw [List.length_append, List.length_append] at h1
          have h1 : U.length = L.length := Nat.succ.inj h1
          have h3 := h2 L.length vs (by rw [List.getElem?_append_right (Nat.le_refl _), Nat.sub_self]; rfl)
          rw [List.getD_eq_getElem?_getD, List.getElem?_append_right (by omega), h1, Nat.sub_self] at h3
          have h3 : 0 ≤ t ∧ t < vs.length := h3
          refine ⟨U, (ih hL).mpr ⟨h1, fun j r hj => ?_⟩, List.mem_map.mpr ⟨t.toNat, List.mem_range.mpr (by omega), ?_⟩⟩
          · have := h2 j r (by rw [List.getElem?_append_left (at_lt hj)]; exact hj)
            rw [List.getD_eq_getElem?_getD, List.getElem?_append_left (by rw [h1]; exact at_lt hj), ← List.getD_eq_getElem?_getD] at this
            exact this
          · rw [show ((t.toNat : Nat) : Int) = t by omega]
theorem all_iff {B : Bk} {T : List Int} : T ∈ allT B ↔ TOk B T := mem_allT _ rfl
def prodL (B : Bk) : Nat := B.foldl (fun p vs => p * vs.length) 1
theorem allT_len : ∀ (n : Nat) {B : Bk}, B.length = n → (allT B).length = prodL B := by
  intro n
  induction n with
  | zero =>
    intro B hn
    obtain rfl := List.length_eq_zero_iff.mp hn
    rfl
  | succ n ih =>
    intro B hn
    rcases snocE B with rfl | ⟨L, vs, rfl⟩
    · cases hn
    · have hL : L.length = n := by rw [List.length_append] at hn; exact Nat.succ.inj hn
      rw [allT_snoc, List.length_flatMap]
      have e : prodL (L ++ [vs]) = prodL L * vs.length := by unfold prodL; rw [List.foldl_append]; rfl
      rw [e, ← ih hL]
      have : ∀ l : List (List Int), (l.map fun T => ((List.range vs.length).map fun v : Nat => T ++ [(v : Int)]).length).sum = l.length * vs.length := by
        intro l
        induction l with
        | nil => simp
        | cons a l ih2 => rw [List.map_cons, List.sum_cons, ih2, List.length_map, List.length_range, List.length_cons, Nat.succ_mul, Nat.add_comm]
      exact this _
def szF (f : List (Option Int)) (B : Bk) : Nat := (f.zip B).foldl (fun p q => if q.1 = none then p * q.2.length else p) 1
theorem fit_snoc : ∀ {f : List (Option Int)} {T : List Int} {o : Option Int} {v : Int}, f.length = T.length → fitL (f ++ [o]) (T ++ [v]) = (fitL f T && (decide (o = none) || decide (o = some v)))
  | [], [], o, v, h => by
    show (_ && true) = (true && _)
    rw [Bool.and_true, Bool.true_and]
  | [], _ :: _, o, v, h => by cases h
  | _ :: _, [], o, v, h => by cases h
  | p :: f, t :: T, o, v, h => by
    show ((decide (p = none) || decide (p = some t)) && fitL (f ++ [o]) (T ++ [v])) = (((decide (p = none) || decide (p = some t)) && fitL f T) && _)
    rw [fit_snoc (Nat.succ.inj h), Bool.and_assoc]
theorem cnt_range {k : Nat} : ∀ n : Nat, (List.range n).countP (fun v => v == k) = if k < n then 1 else 0
  | 0 => rfl
  | n + 1 => by
    rw [List.range_succ, List.countP_append, cnt_range n, List.countP_singleton]
    by_cases c : n = k
    · subst c; simp
    · simp only [beq_iff_eq, c, if_false, Nat.add_zero]
      by_cases d : k < n
      · rw [if_pos d, if_pos (by omega)]
      · rw [if_neg d, if_neg (by omega)]
theorem fit_num : ∀ (n : Nat) {B : Bk} {f : List (Option Int)}, B.length = n → f.length = n → (∀ r t, f.getD r none = some t → 0 ≤ t ∧ t < sz B r) → (allT B).countP (fitL f) = szF f B := by
  intro n
  induction n with
  | zero =>
    intro B f hn hf _
    obtain rfl := List.length_eq_zero_iff.mp hn
    obtain rfl := List.length_eq_zero_iff.mp hf
    rfl
  | succ n ih =>
    intro B f hn hf hr
    rcases snocE B with rfl | ⟨L, vs, rfl⟩
    · cases hn
    rcases snocE f with rfl | ⟨g, o, rfl⟩
    · cases hf
    have hL : L.length = n := by rw [List.length_append] at hn; exact Nat.succ.inj hn
    have hg : g.length = n := by rw [List.length_append] at hf; exact Nat.succ.inj hf
    have hsz : sz (L ++ [vs]) L.length = vs.length := sz_of (by rw [List.getElem?_append_right (Nat.le_refl _), Nat.sub_self]; rfl)
    have ho : ∀ t, o = some t → 0 ≤ t ∧ t < (vs.length : Int) := fun t e => by
      have := hr L.length t (by rw [List.getD_eq_getElem?_getD, List.getElem?_append_right (by omega), hL, hg, Nat.sub_self, ← e]; rfl)
      rw [hsz] at this
      exact this
    have hr2 : ∀ r t, g.getD r none = some t → 0 ≤ t ∧ t < sz L r := fun r t e => by
      have hrl : r < g.length := by
        rw [List.getD_eq_getElem?_getD] at e
        cases e2 : g[r]? with
        | none => rw [e2] at e; cases e
        | some _ => exact at_lt e2
      have := hr r t (by rw [List.getD_eq_getElem?_getD, List.getElem?_append_left hrl, ← List.getD_eq_getElem?_getD]; exact e)
      have e3 : sz (L ++ [vs]) r = sz L r := by
        unfold sz
        rw [List.getD_eq_getElem?_getD, List.getElem?_append_left (by omega), ← List.getD_eq_getElem?_getD]
      rw [e3] at this
      exact this
    rw [allT_snoc, List.countP_flatMap]
    have e : szF (g ++ [o]) (L ++ [vs]) = if o = none then szF g L * vs.length else szF g L := by
      unfold szF
      rw [List.zip_append (by omega), List.foldl_append]
      rfl
    rw [e, ← ih hL hg hr2]
    have key : ∀ l : List (List Int), (∀ T ∈ l, T.length = g.length) → (l.map (List.countP (fitL (g ++ [o])) ∘ fun T => (List.range vs.length).map fun v : Nat => T ++ [(v : Int)])).sum = if o = none then l.countP (fitL g) * vs.length else l.countP (fitL g) := by
      intro l
      induction l with
      | nil => intro _; simp
      | cons T l ih2 =>
        intro hl
        rw [List.map_cons, List.sum_cons, ih2 fun U hU => hl U (List.mem_cons_of_mem _ hU), List.countP_cons]
        have h1 : (List.countP (fitL (g ++ [o])) ∘ fun T => (List.range vs.length).map fun v : Nat => T ++ [(v : Int)]) T = if fitL g T = true then (if o = none then vs.length else 1) else 0 := by
          show List.countP _ ((List.range vs.length).map _) = _
          rw [List.countP_map]
          have e2 : ((fitL (g ++ [o])) ∘ fun v : Nat => T ++ [(v : Int)]) = fun v : Nat => fitL g T && (decide (o = none) || decide (o = some (v : Int))) := by
            funext v
            exact fit_snoc (hl T List.mem_cons_self).symm
          rw [e2]
          cases fitL g T with
          | false => simp
          | true =>
            simp only [Bool.true_and, if_true]
            cases o with
            | none => simp
            | some t =>
              obtain ⟨t0, t1⟩ := ho t rfl
              simp only [reduceCtorEq, decide_false, Bool.false_or, if_false]
              have e3 : (fun v : Nat => decide (some t = some (v : Int))) = fun v : Nat => v == t.toNat := by
                funext v
                rw [Bool.eq_iff_iff]
                simp only [decide_eq_true_eq, Option.some.injEq, beq_iff_eq]
                omega
              rw [e3]
              rw [cnt_range, if_pos (by omega)]
        rw [h1]
        by_cases q : o = none
        · rw [if_pos q, if_pos q, if_pos q]
          by_cases c : fitL g T = true
          · rw [if_pos c, if_pos c, Nat.add_mul]; omega
          · rw [if_neg c, if_neg c, Nat.add_zero]; omega
        · rw [if_neg q, if_neg q, if_neg q]
          by_cases c : fitL g T = true
          · rw [if_pos c]; omega
          · rw [if_neg c]; omega
    refine key _ fun T hT => ?_
    have := (all_iff.mp hT).1
    omega
end K14
set_option Elab.async false
set_option linter.all false
set_option maxRecDepth 100000
set_option maxHeartbeats 2000000
namespace K14
open PySem PySem.Spec D3 K20 K11 K03
def cands (B : Bk) (ws : List Str) : List Cd := ws.foldl (hear B) [c0 B]
theorem cands_snoc {B : Bk} {ws : List Str} {w : Str} : cands B (ws ++ [w]) = hear B (cands B ws) w := by
  unfold cands; rw [List.foldl_append]; rfl
theorem grp {B : Bk} (hB : BkOk B) : ∀ (n : Nat) (ws : List Str), ws.length = n → Grp B (cands B ws) ws := by
  intro n
  induction n with
  | zero =>
    intro ws h
    obtain rfl := List.length_eq_zero_iff.mp h
    exact grp0 B
  | succ n ih =>
    intro ws h
    rcases snocE ws with rfl | ⟨vs, w, rfl⟩
    · cases h
    · rw [cands_snoc]
      exact (ih vs (by rw [List.length_append] at h; exact Nat.succ.inj h)).hear hB w
/-- the turns from which these words are sung -/
def fitT (B : Bk) (ws : List Str) : List (List Int) := (allT B).filter fun T => sings B (T, []) ws
def szC (B : Bk) (x : Cd) : Nat := szF x.f B
theorem swap {α β : Type} {p : β → α → Bool} : ∀ {cs : List α} {Ts : List β}, (cs.map fun x => Ts.countP fun T => p T x).sum = (Ts.map fun T => cs.countP (p T)).sum
  | [], Ts => by
    induction Ts with
    | nil => rfl
    | cons T Ts ih => rw [List.map_cons, List.sum_cons, ← ih]; rfl
  | x :: cs, Ts => by
    rw [List.map_cons, List.sum_cons, swap]
    induction Ts with
    | nil => rfl
    | cons T Ts ih =>
      rw [List.map_cons, List.map_cons, List.sum_cons, List.sum_cons, ← ih, List.countP_cons, List.countP_cons]
      omega
theorem sum_01 {β : Type} {q : β → Bool} {g : β → Nat} : ∀ {Ts : List β}, (∀ T ∈ Ts, g T = if q T = true then 1 else 0) → (Ts.map g).sum = (Ts.filter q).length
  | [], _ => rfl
  | T :: Ts, h => by
    rw [List.map_cons, List.sum_cons, h T List.mem_cons_self, sum_01 fun U hU => h U (List.mem_cons_of_mem _ hU)]
    by_cases c : q T = true
    · rw [if_pos c, List.filter_cons_of_pos c, List.length_cons]; omega
    · rw [if_neg c, List.filter_cons_of_neg c]; omega
section
variable {B : Bk} {cs : List Cd} {ws : List Str}
theorem Grp.size (h : Grp B cs ws) : (cs.map (szC B)).sum = (fitT B ws).length := by
  have e : cs.map (szC B) = cs.map fun x => (allT B).countP fun T => fitC T x := by
    refine List.map_congr_left fun x hx => ?_
    have hx := h.ok x hx
    exact (fit_num _ rfl hx.lf hx.fr).symm
  rw [e, swap]
  exact sum_01 fun T hT => h.n T (all_iff.mp hT)
theorem mk_get {n : Nat} {f : Nat → Int} {j : Nat} (h : j < n) : ((List.range n).map f).getD j 0 = f j := by
  rw [List.getD_eq_getElem?_getD, List.getElem?_map, List.getElem?_range h]; rfl
/-- turns of a candidate, as one likes among the possible ones -/
theorem COk.pick {x : Cd} (h : COk B x) {τ : Nat → Int} (hτ : ∀ j, j < B.length → τ j ∈ K14.poss B x j) : ∃ T, TOk B T ∧ Fits x T ∧ (∀ j, j < B.length → (mixT x.c T).getD j 0 = τ j) ∧ ∀ j, j < B.length → x.f.getD j none = none → T.getD j 0 = τ j := by
  let g : Nat → Int := fun j => (x.f.getD j none).getD (τ j)
  have hT : TOk B ((List.range B.length).map g) := by
    refine ⟨by rw [List.length_map, List.length_range], fun j r hj => ?_⟩
    have hjl := at_lt hj
    rw [mk_get hjl]
    show 0 ≤ (x.f.getD j none).getD (τ j) ∧ (x.f.getD j none).getD (τ j) < _
    have hs := sz_of hj
    cases e : x.f.getD j none with
    | none =>
      have := h.poss (hτ j hjl)
      rw [hs] at this
      exact this
    | some t =>
      have := h.fr j t e
      rw [hs] at this
      exact this
  refine ⟨_, hT, fun j => ?_, fun j hj => ?_, fun j hj e => ?_⟩
  · cases e : x.f.getD j none with
    | none => exact .inl rfl
    | some t =>
      right
      have hjl : j < B.length := by
        rw [← h.lf]
        rw [List.getD_eq_getElem?_getD] at e
        cases e2 : x.f[j]? with
        | none => rw [e2] at e; cases e
        | some _ => exact at_lt e2
      rw [mk_get hjl]
      show some t = some ((x.f.getD j none).getD (τ j))
      rw [e]; rfl
  · rw [h.get hT hj, mk_get hj]
    have hp := hτ j hj
    cases e : x.f.getD j none with
    | none =>
      rw [(h.nn j).mp e]
      show (x.f.getD j none).getD (τ j) = τ j
      rw [e]; rfl
    | some u =>
      rw [poss_some e, List.mem_singleton] at hp
      cases e2 : x.c.getD j none with
      | none => rw [(h.nn j).mpr e2] at e; cases e
      | some v => rw [e2] at hp; exact hp.symm
  · rw [mk_get hj]
    show (x.f.getD j none).getD (τ j) = τ j
    rw [e]; rfl
theorem COk.poss_ne (hB : BkOk B) {x : Cd} (h : COk B x) {j : Nat} (hj : j < B.length) : ∃ t, t ∈ K14.poss B x j := by
  obtain ⟨y, hy⟩ : ∃ y, B[j]? = some y := ⟨_, List.getElem?_eq_getElem hj⟩
  cases e : x.f.getD j none with
  | none =>
    rw [poss_none e]
    have h1 := (hB.row hy).1
    have h2 := sz_of hy
    exact ⟨((0 : Nat) : Int), List.mem_map.mpr ⟨0, List.mem_range.mpr (by omega), rfl⟩⟩
  | some u =>
    rw [poss_some e]
    exact ⟨_, List.mem_singleton.mpr rfl⟩
theorem COk.tau (hB : BkOk B) {x : Cd} (h : COk B x) : ∃ τ : Nat → Int, ∀ j, j < B.length → τ j ∈ K14.poss B x j := by
  refine ⟨fun j => if hj : j < B.length then (h.poss_ne hB hj).choose else 0, fun j hj => ?_⟩
  dsimp only
  rw [dif_pos hj]
  exact (h.poss_ne hB hj).choose_spec
theorem COk.some_T (hB : BkOk B) {x : Cd} (h : COk B x) : ∃ T, TOk B T ∧ Fits x T := by
  obtain ⟨τ, hτ⟩ := h.tau hB
  obtain ⟨T, h1, h2, _⟩ := h.pick hτ
  exact ⟨T, h1, h2⟩
theorem Grp.fit (h : Grp B cs ws) {x : Cd} (hx : x ∈ cs) {T : List Int} (hT : TOk B T) (hf : Fits x T) : T ∈ fitT B ws := by
  refine List.mem_filter.mpr ⟨all_iff.mpr hT, ?_⟩
  have h1 := h.n T hT
  have h2 : 0 < cs.countP (fitC T) := List.countP_pos_iff.mpr ⟨x, hx, (fitC_iff (h.ok x hx) hT).mpr hf⟩
  by_cases c : sings B (T, []) ws = true
  · exact c
  · rw [if_neg c] at h1; omega
theorem Grp.of_fit (h : Grp B cs ws) {T : List Int} (hT : T ∈ fitT B ws) : TOk B T ∧ ∃ x ∈ cs, Fits x T := by
  obtain ⟨h1, h2⟩ := List.mem_filter.mp hT
  have hT := all_iff.mp h1
  have h3 := h.n T hT
  rw [if_pos h2] at h3
  obtain ⟨x, hx, hc⟩ := List.countP_pos_iff.mp (show 0 < cs.countP (fitC T) by omega)
  exact ⟨hT, x, hx, (fitC_iff (h.ok x hx) hT).mp hc⟩
def known (B : Bk) (x : Cd) (r : Nat) : Option Int := if sz B r = 1 then some 0 else x.f.getD r none
def agree (l : List (Option Int)) : Option Int := if (l.all fun o => decide (o = l.getD 0 none)) = true then l.getD 0 none else none
def agreeI (l : List Int) : Option Int := if l.countP (fun c => c == l.getD 0 0) = l.length then some (l.getD 0 0) else none
theorem agreeI_some {l : List Int} {t : Int} (hn : l ≠ []) (h : ∀ v ∈ l, v = t) : agreeI l = some t := by
  cases l with
  | nil => exact absurd rfl hn
  | cons a l =>
    obtain rfl := h a List.mem_cons_self
    unfold agreeI
    rw [if_pos]
    · rfl
    · rw [List.countP_eq_length]
      intro v hv
      rw [h v hv]
      show (a == a) = true
      simp
theorem agreeI_none {l : List Int} {u v : Int} (hu : u ∈ l) (hv : v ∈ l) (h : u ≠ v) : agreeI l = none := by
  unfold agreeI
  rw [if_neg]
  intro c
  rw [List.countP_eq_length] at c
  have h1 := c u hu
  have h2 := c v hv
  simp only [beq_iff_eq] at h1 h2
  exact h (h1.trans h2.symm)
theorem Grp.certain (hB : BkOk B) (h : Grp B cs ws) (hne : cs ≠ []) {r : Nat} (hr : r < B.length) : agree (cs.map fun x => known B x r) = agreeI ((fitT B ws).map fun T => T.getD r 0) := by
  obtain ⟨y, hy⟩ : ∃ y, B[r]? = some y := ⟨_, List.getElem?_eq_getElem hr⟩
  have hsz := sz_of hy
  have hrow := (hB.row hy).1
  -- values that a candidate gives
  have hval : ∀ x ∈ cs, ∀ t, known B x r = some t → ∀ T, TOk B T → Fits x T → T.getD r 0 = t := by
    intro x hx t hk T hT hf
    unfold known at hk
    split at hk
    · cases hk
      have := hT.2 r y hy
      omega
    · rcases hf r with q | q
      · rw [q] at hk; cases hk
      · rw [q] at hk; exact Option.some.inj hk
  have htwo : ∀ x ∈ cs, known B x r = none → ∃ T U, TOk B T ∧ Fits x T ∧ TOk B U ∧ Fits x U ∧ T.getD r 0 ≠ U.getD r 0 := by
    intro x hx hk
    unfold known at hk
    split at hk
    · cases hk
    · rename_i c
      have hxo := h.ok x hx
      obtain ⟨τ, hτ⟩ := hxo.tau hB
      have hmk : ∀ k : Nat, k < sz B r → ∃ T, TOk B T ∧ Fits x T ∧ T.getD r 0 = (k : Int) := fun k hk2 => by
        obtain ⟨T, h1, h2, _, h3⟩ := hxo.pick (τ := fun j => if j = r then (k : Int) else τ j) fun j hj => by
          split
          · rename_i q
            rw [q, poss_none hk]
            exact List.mem_map.mpr ⟨k, List.mem_range.mpr hk2, rfl⟩
          · exact hτ j hj
        exact ⟨T, h1, h2, by rw [h3 r hr hk, if_pos rfl]⟩
      obtain ⟨T, t1, t2, t3⟩ := hmk 0 (by omega)
      obtain ⟨U, u1, u2, u3⟩ := hmk 1 (by omega)
      exact ⟨T, U, t1, t2, u1, u2, by rw [t3, u3]; decide⟩
  cases cs with
  | nil => exact absurd rfl hne
  | cons x0 cs =>
    have hx0 : x0 ∈ x0 :: cs := List.mem_cons_self
    have hg : ((x0 :: cs).map fun x => known B x r).getD 0 none = known B x0 r := rfl
    have hmem : ∀ {x : Cd} {T : List Int}, x ∈ x0 :: cs → TOk B T → Fits x T → T.getD r 0 ∈ (fitT B ws).map fun T => T.getD r 0 := fun hx hT hf => List.mem_map.mpr ⟨_, h.fit hx hT hf, rfl⟩
    have vary : ∀ x ∈ x0 :: cs, known B x r = none → agreeI ((fitT B ws).map fun T => T.getD r 0) = none := fun x hx hk => by
      obtain ⟨T, U, t1, t2, u1, u2, ne⟩ := htwo x hx hk
      exact agreeI_none (hmem hx t1 t2) (hmem hx u1 u2) ne
    unfold agree
    rw [hg]
    cases e0 : known B x0 r with
    | none =>
      rw [vary x0 hx0 e0]
      split <;> rfl
    | some t =>
      split
      · rename_i c
        rw [List.all_eq_true] at c
        obtain ⟨T0, p1, p2⟩ := (h.ok x0 hx0).some_T hB
        refine (agreeI_some (fun z => ?_) fun v hv => ?_).symm
        · have := hmem hx0 p1 p2
          rw [z] at this
          cases this
        · obtain ⟨T, hT, rfl⟩ := List.mem_map.mp hv
          obtain ⟨hTo, x, hx, hf⟩ := h.of_fit hT
          have := c _ (List.mem_map.mpr ⟨x, hx, rfl⟩)
          exact hval x hx t (of_decide_eq_true this) T hTo hf
      · rename_i c
        have : ∃ x ∈ x0 :: cs, known B x r ≠ some t := by
          apply Classical.byContradiction
          intro z
          refine c (List.all_eq_true.mpr fun o ho => ?_)
          obtain ⟨x, hx, rfl⟩ := List.mem_map.mp ho
          exact decide_eq_true (Classical.byContradiction fun q => z ⟨x, hx, q⟩)
        obtain ⟨x, hx, hk⟩ := this
        cases e1 : known B x r with
        | none => exact (vary x hx e1).symm
        | some u =>
          obtain ⟨T0, p1, p2⟩ := (h.ok x0 hx0).some_T hB
          obtain ⟨T1, q1, q2⟩ := (h.ok x hx).some_T hB
          refine (agreeI_none (hmem hx0 p1 p2) (hmem hx q1 q2) ?_).symm
          rw [hval x0 hx0 t e0 T0 p1 p2, hval x hx u e1 T1 q1 q2]
          rintro rfl
          exact hk e1
def foll (B : Bk) (x : Cd) : List Str := match curIt B x with
  | .wd y => [y]
  | .ref n => opn B x n.toNat
theorem mem_foll (hB : BkOk B) {x : Cd} (h : COk B x) {w : Str} : w ∈ foll B x ↔ ∃ T, TOk B T ∧ Fits x T ∧ tw B (stOf x T) = w := by
  unfold foll
  cases e : curIt B x with
  | wd y =>
    dsimp only
    rw [List.mem_singleton]
    constructor
    · rintro rfl
      obtain ⟨T, h1, h2⟩ := h.some_T hB
      exact ⟨T, h1, h2, (cur_wd e).1⟩
    · rintro ⟨T, h1, h2, h3⟩
      rw [← h3]; exact (cur_wd e).1
  | ref n =>
    dsimp only
    obtain ⟨hr, _⟩ := h.ref hB e
    obtain ⟨τ0, h0⟩ := h.tau hB
    rw [opn_iff (lead hB h) _ _ (Nat.le_refl _) hr τ0 h0]
    constructor
    · rintro ⟨τ, g1, g2⟩
      obtain ⟨T, h1, h2, h3, _⟩ := h.pick g1
      refine ⟨T, h1, h2, ?_⟩
      rw [tw_cur hB h h1 e, ← g2]
      -- beyond the book nothing is looked at
      have key : ∀ (d r : Nat), B.length - r ≤ d → r < B.length → ow B (fun j => (mixT x.c T).getD j 0) r = ow B τ r := by
        intro d
        induction d with
        | zero => intro r q1 q2; omega
        | succ d ih =>
          intro r q1 q2
          rw [ow, ow, h3 r q2]
          split
          · rfl
          · split
            · rename_i q
              exact ih _ (by omega) q.2
            · rfl
      exact key _ _ (Nat.le_refl _) hr
    · rintro ⟨T, h1, h2, h3⟩
      exact ⟨_, fun j hj => h.poss_at h1 hj, by rw [← tw_cur hB h h1 e]; exact h3⟩
theorem Grp.foll (hB : BkOk B) (h : Grp B cs ws) {w : Str} : (∃ x ∈ cs, w ∈ K14.foll B x) ↔ w ∈ (fitT B ws).map fun T => tw B (it B ws.length (T, [])) := by
  rw [List.mem_map]
  constructor
  · rintro ⟨x, hx, hw⟩
    obtain ⟨T, h1, h2, h3⟩ := (mem_foll hB (h.ok x hx)).mp hw
    exact ⟨T, h.fit hx h1 h2, by rw [← h.st x hx T h1 h2]; exact h3⟩
  · rintro ⟨T, hT, hw⟩
    obtain ⟨h1, x, hx, hf⟩ := h.of_fit hT
    exact ⟨x, hx, (mem_foll hB (h.ok x hx)).mpr ⟨T, h1, hf, by rw [h.st x hx T h1 hf]; exact hw⟩⟩
theorem Grp.nil_iff (hB : BkOk B) (h : Grp B cs ws) : cs = [] ↔ fitT B ws = [] := by
  constructor
  · rintro rfl
    refine List.eq_nil_iff_forall_not_mem.mpr fun T hT => ?_
    obtain ⟨_, x, hx, _⟩ := h.of_fit hT
    cases hx
  · intro e
    refine List.eq_nil_iff_forall_not_mem.mpr fun x hx => ?_
    obtain ⟨T, h1, h2⟩ := (h.ok x hx).some_T hB
    have := h.fit hx h1 h2
    rw [e] at this
    cases this
end
end K14
set_option Elab.async false
set_option linter.all false
set_option maxRecDepth 100000
set_option maxHeartbeats 2000000
namespace K14
open PySem PySem.Spec D3 K20 K11 K03
def oD : Option Int → Dv
  | none => .non
  | some i => .int i
def osD (l : List (Option Int)) : Dv := .tup (l.map oD)
def caF (B : Bk) (x : Cd) : List (Str × Dv) := [("book", bkD B), ("first_turns", osD x.f), ("current_turns", osD x.c), ("entries", pathD x.e)]
def CaAt (C : Addr) (B : Bk) (S : Store) (i : Nat) (x : Cd) : Prop := S[i]? = some (.ins C (caF B x))
theorem caB {B : Bk} {x : Cd} : (caF B x).lookup ("book" : Str) = some (bkD B) := rfl
theorem caf {B : Bk} {x : Cd} : (caF B x).lookup ("first_turns" : Str) = some (osD x.f) := rfl
theorem cac {B : Bk} {x : Cd} : (caF B x).lookup ("current_turns" : Str) = some (osD x.c) := rfl
theorem cae {B : Bk} {x : Cd} : (caF B x).lookup ("entries" : Str) = some (pathD x.e) := rfl
theorem os_at {l : List (Option Int)} {r : Nat} (h : r < l.length) : L2.atI (l.map oD) (r : Int) = some (oD (l.getD r none)) := by
  refine atI_nat ?_
  rw [List.getElem?_map, List.getD_eq_getElem?_getD, List.getElem?_eq_getElem h]; rfl
theorem oD_non (o : Option Int) : isNon (oD o) = decide (o = none) := by cases o <;> rfl
theorem bk_at {B : Bk} {r : Nat} (h : r < B.length) : L2.atI (B.map rfD) (r : Int) = some (rfD (B.getD r [])) := by
  refine atI_nat ?_
  rw [List.getElem?_map, List.getD_eq_getElem?_getD, List.getElem?_eq_getElem h]; rfl
theorem dEq_path {S : Store} {st : List En} {Q : KD} (h : Q (.bl (decide (st = []))) S) : dEq (pathD st) (.tup []) S Q := by
  have e : den (fO S 4) (pathD st) = some (.tuple (st.reverse.map enT)) := by
    show (denL (fO S 4) _).map PyData.tuple = _
    rw [den_path]; rfl
  refine ⟨_, _, e, rfl, shaped_path _, shaped_path [], ?_⟩
  have hq : PyData.eqv (.tuple (st.reverse.map enT)) (.tuple (([] : List En).map enT)) = decide (st = []) := by
    rw [List.map_nil, eqv_path]
    rw [Bool.eq_iff_iff]; simp
  show Q (.bl (PyData.eqv (.tuple (st.reverse.map enT)) (.tuple (([] : List En).map enT)))) S
  rw [hq]
  exact h
theorem last_path {y : En} {st : List En} : L2.atI ((y :: st).reverse.map fun x => Dv.tup (enD x)) (-1) = some (.tup (enD y)) := by
  rw [List.reverse_cons, List.map_append]
  exact atI_neg1
theorem cut_to {α : Type} (l : List α) {j : Nat} (h : j ≤ l.length) : cutD l none (some (j : Int)) = l.take j := by
  unfold cutD
  have e1 : HT.sIx l.length 0 none = 0 := rfl
  have e2 : HT.sIx l.length l.length (some (j : Int)) = j := by
    unfold HT.sIx
    simp only
    split <;> omega
  rw [e1, e2, List.drop_zero, Nat.sub_zero]
theorem cut_from {α : Type} (l : List α) (i : Nat) : cutD l (some (i : Int)) none = l.drop i := by
  unfold cutD
  have e1 : HT.sIx l.length 0 (some (i : Int)) = min i l.length := by
    unfold HT.sIx
    simp only
    split <;> omega
  have e2 : HT.sIx l.length l.length none = l.length := rfl
  rw [e1, e2]
  by_cases c : i ≤ l.length
  · rw [Nat.min_eq_left c]
    exact List.take_of_length_le (by rw [List.length_drop]; exact Nat.le_refl _)
  · rw [Nat.min_eq_right (by omega), List.drop_of_length_le (Nat.le_refl _), List.drop_of_length_le (by omega), Nat.sub_self]; rfl
theorem cut_put {α : Type} {f : α → Dv} {l : List α} {j : Nat} {x : α} (h : j < l.length) : cutD (l.map f) none (some (j : Int)) ++ f x :: cutD (l.map f) (some ((j : Int) + 1)) none = (l.set j x).map f := by
  have e : ((j : Int) + 1) = ((j + 1 : Nat) : Int) := by omega
  rw [e, cut_to _ (by rw [List.length_map]; omega), cut_from, List.set_eq_take_append_cons_drop, if_pos h, List.map_append, List.map_cons, List.map_take, List.map_drop]
theorem cut_le {α : Type} (l : List α) (lo hi : Option Int) : (cutD l lo hi).length ≤ l.length := by
  unfold cutD
  rw [List.length_take, List.length_drop]; omega
theorem small_sum {α : Type} {l : List α} {n : Nat} {a b c d : Option Int} (h : l.length ≤ 60) : (cutD l a b).length + 1 ≤ sizeLine ∧ (cutD l a b).length + 1 + (cutD l c d).length ≤ sizeLine := by
  have h1 := cut_le l a b
  have h2 := cut_le l c d
  exact ⟨Nat.le_of_lt (small_line (by omega)), Nat.le_of_lt (small_line (by omega))⟩
theorem sGen {A : TSd} {D : EndsD} {σ : Sl} {S : Store} (P : Sl → Store → Prop) (h : ∀ K : Sl → Store → Prop, (∀ σ' S', P σ' S' → K σ' S') → A { D with nx := K } σ S) (q : ∀ σ' S', P σ' S' → D.nx σ' S') : A D σ S := h D.nx q
variable (C : Addr)
def spCInit : Spd := fun ds S Q E => ∃ (p : Nat) (B : Bk) (x : Cd), ds = [.obj p, bkD B, osD x.f, osD x.c, pathD x.e] ∧ S[p]? = some (.ins C []) ∧ ∀ S', CaAt C B S' p x → Frm [p] S S' → Q .non S'
theorem r_cinit : ∀ ds S Qd Ed, spCInit C ds S Qd Ed → StClo S → t_Candidate_init C (WEx S.length Ed) { nx := fun _ S' => Gc S.length Qd .non S', rt := Gc S.length Qd } (startD 5 ds) S := by
  rintro _ S Qd Ed ⟨p, B, x, rfl, hp, h⟩ hc
  have hpl := at_lt hp
  unfold t_Candidate_init
  refine seqI ?_
  simp! only [hp]
  refine ⟨by decide, ?_⟩
  have f1 : Frm [p] S (S.set p (.ins C (putFD "book" (bkD B) []))) := .set List.mem_cons_self
  have hp1 : (S.set p (.ins C (putFD "book" (bkD B) [])))[p]? = some (.ins C [("book", bkD B)]) := List.getElem?_set_self hpl
  have hl1 : (S.set p (.ins C (putFD "book" (bkD B) []))).length = S.length := List.length_set
  generalize S.set p (.ins C (putFD "book" (bkD B) [])) = S1 at *
  refine seqI ?_
  simp! only [hp1]
  refine ⟨by decide, ?_⟩
  have f2 : Frm [p] S1 (S1.set p (.ins C (putFD "first_turns" (osD x.f) [("book", bkD B)]))) := .set List.mem_cons_self
  have hp2 : (S1.set p (.ins C (putFD "first_turns" (osD x.f) [("book", bkD B)])))[p]? = some (.ins C [("book", bkD B), ("first_turns", osD x.f)]) := List.getElem?_set_self (by omega)
  have hl2 : (S1.set p (.ins C (putFD "first_turns" (osD x.f) [("book", bkD B)]))).length = S1.length := List.length_set
  generalize S1.set p (.ins C (putFD "first_turns" (osD x.f) [("book", bkD B)])) = S2 at *
  refine seqI ?_
  simp! only [hp2]
  refine ⟨by decide, ?_⟩
  have f3 : Frm [p] S2 (S2.set p (.ins C (putFD "current_turns" (osD x.c) [("book", bkD B), ("first_turns", osD x.f)]))) := .set List.mem_cons_self
  have hp3 : (S2.set p (.ins C (putFD "current_turns" (osD x.c) [("book", bkD B), ("first_turns", osD x.f)])))[p]? = some (.ins C [("book", bkD B), ("first_turns", osD x.f), ("current_turns", osD x.c)]) := List.getElem?_set_self (by omega)
  have hl3 : (S2.set p (.ins C (putFD "current_turns" (osD x.c) [("book", bkD B), ("first_turns", osD x.f)]))).length = S2.length := List.length_set
  generalize S2.set p (.ins C (putFD "current_turns" (osD x.c) [("book", bkD B), ("first_turns", osD x.f)])) = S3 at *
  simp! only [hp3]
  refine ⟨by decide, .inl (h _ (List.getElem?_set_self (by omega)) ?_)⟩
  exact ((f1.then f2).then f3).then (.set List.mem_cons_self)
def spPoss : Spd := fun ds S Q E => ∃ (i : Nat) (B : Bk) (x : Cd) (r : Nat), ds = [.obj i, .int r] ∧ CaAt C B S i x ∧ BkOk B ∧ COk B x ∧ r < B.length ∧ Q (.obj S.length) (S ++ [.lst ((poss B x r).map Dv.int)])
theorem r_poss : ∀ ds S Qd Ed, spPoss C ds S Qd Ed → StClo S → t_Candidate_possible_turns C (WEx S.length Ed) { nx := fun _ S' => Gc S.length Qd .non S', rt := Gc S.length Qd } (startD 2 ds) S := by
  rintro _ S Qd Ed ⟨i, B, x, r, rfl, hx, hB, hO, hr, h⟩ hc
  unfold t_Candidate_possible_turns
  refine seqI (ifI ?_)
  have hx : S[i]? = some (.ins C (caF B x)) := hx
  simp! only [hx, caf, osD, os_at (show r < x.f.length by rw [hO.lf]; exact hr), oD_non]
  cases e : x.f.getD r none with
  | none =>
    simp! only [eLRg, hx, caB, bkD, bk_at hr, rfD, oD]
    obtain ⟨y, hy⟩ : ∃ y, B[r]? = some y := ⟨_, List.getElem?_eq_getElem hr⟩
    have h4 := (hB.row hy).2
    have e2 := sz_of hy
    rw [poss_none e, List.map_map] at h
    exact ⟨sz B r, by rw [List.length_map]; rfl, by omega, .inl h⟩
  | some t =>
    cases e2 : x.c.getD r none with
    | none => rw [(hO.nn r).mpr e2] at e; cases e
    | some v =>
      simp! only [hx, cac, osD, os_at (show r < x.c.length by rw [hO.lc]; exact hr), oD, e2]
      rw [poss_some e, e2] at h
      exact .inl h
def spCur : Spd := fun ds S Q E => ∃ (i : Nat) (B : Bk) (x : Cd), ds = [.obj i] ∧ CaAt C B S i x ∧ COk B x ∧ Q (curIt B x).d S
theorem r_cur : ∀ ds S Qd Ed, spCur C ds S Qd Ed → StClo S → t_Candidate_current_item C (WEx S.length Ed) { nx := fun _ S' => Gc S.length Qd .non S', rt := Gc S.length Qd } (startD 4 ds) S := by
  rintro _ S Qd Ed ⟨i, B, x, rfl, hx, hO, h⟩ hc
  unfold t_Candidate_current_item
  refine seqI (ifI ?_)
  have hx : S[i]? = some (.ins C (caF B x)) := hx
  simp! only [hx, cae]
  refine dEq_path ?_
  unfold curIt at h
  cases e : x.e with
  | nil =>
    rw [e] at h
    exact ⟨_, rfl, .inl h⟩
  | cons y st =>
    rw [e] at h
    refine ⟨false, rfl, ?_⟩
    rw [if_neg Bool.false_ne_true]
    refine seqI ?_
    simp! only [hx, cae, pathD, e]
    obtain ⟨x1, x2, x3⟩ := (hO.e y (by rw [e]; exact List.mem_cons_self)).ats
    refine ⟨_, last_path, _, rfl, rfl, _, _, rfl, _, _, rfl, _, _, rfl, rfl, _, caB, ?_⟩
    simp! only [bkD, atI_nat x1, rfD, atI_nat x2, vsD, atI_nat x3]
    exact .inl h
def spStartC : Spd := fun ds S Q E => ∃ (i : Nat) (B : Bk) (x : Cd) (r : Nat) (t : Int), ds = [.obj i, .int r, .int t] ∧ CaAt C B S i x ∧ BkOk B ∧ COk B x ∧ r < B.length ∧ 0 ≤ t ∧ t < sz B r ∧ ∀ S' j, CaAt C B S' j (startC B x r t) → Frm [] S S' → S.length ≤ j → Q (.obj j) S'
theorem r_startC : ∀ ds S Qd Ed, spStartC C ds S Qd Ed → StClo S → t_Candidate_started_at C (spCInit C) (WEx S.length Ed) { nx := fun _ S' => Gc S.length Qd .non S', rt := Gc S.length Qd } (startD 6 ds) S := by
  rintro _ S Qd Ed ⟨i, B, x, r, t, rfl, hx, hB, hO, hr, t0, t1, h⟩ hc
  unfold t_Candidate_started_at
  have hx : S[i]? = some (.ins C (caF B x)) := hx
  refine seqI ?_
  simp! only [hx, caf]
  refine seqI ?_
  refine sGen (fun σ' S' => S' = S ∧ σ' = [some (.obj i), some (.int r), some (.int t), some (osD (startC B x r t).f), none, none]) (fun K hK => ?_) ?_
  · refine ifI ?_
    simp! only [osD, os_at (show r < x.f.length by rw [hO.lf]; exact hr), oD_non]
    have hl : (x.f.map oD).length ≤ 60 := by rw [List.length_map, hO.lf]; exact hB.le
    obtain ⟨s1, s2⟩ := small_sum (n := 0) (a := none) (b := some (r : Int)) (c := some ((r : Int) + 1)) (d := none) hl
    cases e : x.f.getD r none with
    | none =>
      refine ⟨s1, s2, hK _ _ ⟨rfl, ?_⟩⟩
      have e2 : (startC B x r t).f = x.f.set r (some t) := by unfold startC; rw [if_pos e]
      rw [e2, show (Dv.int t) = oD (some t) from rfl, cut_put (by rw [hO.lf]; exact hr)]
      rfl
    | some u =>
      refine hK _ _ ⟨rfl, ?_⟩
      have e2 : (startC B x r t).f = x.f := by unfold startC; rw [if_neg (by rw [e]; exact fun z => by cases z)]
      rw [e2]
      rfl
  rintro _ _ ⟨rfl, rfl⟩
  dsimp only
  refine seqI ?_
  simp! only [hx, caB, bkD, bk_at hr, rfD]
  refine seqI ?_
  simp! only [hx, cac, osD]
  have hl : (x.c.map oD).length ≤ 60 := by rw [List.length_map, hO.lc]; exact hB.le
  obtain ⟨s1, s2⟩ := small_sum (n := 0) (a := none) (b := some (r : Int)) (c := some ((r : Int) + 1)) (d := none) hl
  have h0 : (0 : Int) < (((B.getD r []).map vsD).length : Nat) := by
    rw [List.length_map]
    have : sz B r = (B.getD r []).length := rfl
    omega
  refine ⟨h0, s1, s2, _, caB, _, cae, ?_⟩
  simp! only [pathD]
  have hle := Nat.le_trans (hO.lvl hB) hB.le
  refine ⟨by rw [List.length_map, List.length_reverse]; exact Nat.le_of_lt (small_line (by omega)), ?_⟩
  have e1 : Dv.tup (cutD (x.c.map oD) none (some (r : Int)) ++ Dv.int ((t + 1) % (((B.getD r []).map vsD).length : Int)) :: cutD (x.c.map oD) (some ((r : Int) + 1)) none) = osD (startC B x r t).c := by
    rw [show (((B.getD r []).map vsD).length : Int) = (sz B r : Int) by rw [List.length_map]; rfl, show Dv.int ((t + 1) % (sz B r : Int)) = oD (some ((t + 1) % (sz B r : Int))) from rfl, cut_put (by rw [hO.lc]; exact hr)]
    rfl
  have e2 : Dv.tup (x.e.reverse.map (fun x => Dv.tup (enD x)) ++ [Dv.tup [.int r, .int t, .int 0]]) = pathD (startC B x r t).e := by
    show _ = Dv.tup (((r, t.toNat, 0) :: x.e).reverse.map fun x => Dv.tup (enD x))
    rw [List.reverse_cons, List.map_append]
    show Dv.tup (_ ++ [Dv.tup [.int r, .int t, .int 0]]) = Dv.tup (_ ++ [Dv.tup [.int r, .int ((t.toNat : Nat) : Int), .int 0]])
    rw [Int.toNat_of_nonneg t0]
  rw [e1, e2]
  exact ⟨_, B, startC B x r t, rfl, get_at, fun S2 hS2 f2 => ⟨rfl, .inl (h S2 _ hS2 (Frm.app.trans f2 fun j hj => .inr (by rw [List.mem_singleton.mp hj]; exact Nat.le_refl _)) (Nat.le_refl _))⟩⟩
def spSizeC : Spd := fun ds S Q E => ∃ (i : Nat) (B : Bk) (x : Cd), ds = [.obj i] ∧ CaAt C B S i x ∧ BkOk B ∧ COk B x ∧ Q (.int (szC B x : Nat)) S
theorem r_sizeC : ∀ ds S Qd Ed, spSizeC C ds S Qd Ed → StClo S → t_Candidate_size C (WEx S.length Ed) { nx := fun _ S' => Gc S.length Qd .non S', rt := Gc S.length Qd } (startD 4 ds) S := by
  rintro _ S Qd Ed ⟨i, B, x, rfl, hx, hB, hO, h⟩ hc
  have hx : S[i]? = some (.ins C (caF B x)) := hx
  unfold t_Candidate_size
  refine seqI ?_
  simp! only []
  refine seqI ?_
  let pr : Nat → Nat := fun k => ((x.f.zip B).take k).foldl (fun p q => if q.1 = none then p * q.2.length else p) 1
  refine sFor_inv (S1 := S) (jZip (osD x.f) (bkD B) (x.f.map oD) (B.map rfD)) (fun k σ S' => S' = S ∧ ∃ o2 o3 : Option Dv, σ = [some (.obj i), some (.int (pr k : Nat)), o2, o3]) (hw_zip (fun R hR => ?_) rfl rfl) ⟨rfl, _, _, rfl⟩ (fun k σ S' _ _ => ⟨rfl, rfl⟩) ?_ ?_
  · dsimp! only [hx, caf, caB]
    exact hR
  · rintro k d σ S' hd ⟨rfl, o2, o3, rfl⟩ K hK
    have hd2 : ((x.f.map oD).zip (B.map rfD)).map (fun p => Dv.tup [p.1, p.2]) = (x.f.zip B).map fun p => Dv.tup [oD p.1, rfD p.2] := by
      rw [List.zip_map, List.map_map]; rfl
    have hd : (((x.f.map oD).zip (B.map rfD)).map (fun p => Dv.tup [p.1, p.2]))[k]? = some d := hd
    rw [hd2, List.getElem?_map] at hd
    obtain ⟨⟨o, rs⟩, hq, rfl⟩ := Option.map_eq_some_iff.mp hd
    have hpr : pr (k + 1) = if o = none then pr k * rs.length else pr k := by
      show ((x.f.zip B).take (k + 1)).foldl _ 1 = _
      rw [take_succ0 hq, List.foldl_append]
      rfl
    simp! only []
    refine ifI ?_
    simp! only []
    cases o with
    | none =>
      rw [if_pos rfl] at hpr
      have hB2 : B[k]? = some rs := (List.getElem?_zip_eq_some.mp hq).2
      have h4 := (hB.row hB2).2
      simp! only [oD, rfD]
      rw [List.length_map]
      exact ⟨.inr ⟨by omega, by omega⟩, hK _ _ (.inl ⟨rfl, some .non, some (.tup (rs.map vsD)), by rw [hpr, Int.natCast_mul]⟩)⟩
    | some u =>
      rw [if_neg (by simp)] at hpr
      simp! only [oD]
      exact hK _ _ (.inl ⟨rfl, _, _, by rw [hpr]⟩)
  · rintro σ S' ⟨rfl, o2, o3, rfl⟩
    simp! only []
    have e : (jZip (osD x.f) (bkD B) (x.f.map oD) (B.map rfD)).items.length = (x.f.zip B).length := by
      show (((x.f.map oD).zip (B.map rfD)).map _).length = _
      rw [List.length_map, List.length_zip, List.length_zip, List.length_map, List.length_map]
    rw [e]
    have e2 : pr (x.f.zip B).length = szC B x := by
      show ((x.f.zip B).take _).foldl _ 1 = _
      rw [List.take_length]
      rfl
    rw [e2]
    exact .inl h
def spKnown : Spd := fun ds S Q E => ∃ (i : Nat) (B : Bk) (x : Cd) (r : Nat), ds = [.obj i, .int r] ∧ CaAt C B S i x ∧ COk B x ∧ r < B.length ∧ Q (oD (known B x r)) S
theorem r_known : ∀ ds S Qd Ed, spKnown C ds S Qd Ed → StClo S → t_Candidate_known_turn C (WEx S.length Ed) { nx := fun _ S' => Gc S.length Qd .non S', rt := Gc S.length Qd } (startD 2 ds) S := by
  rintro _ S Qd Ed ⟨i, B, x, r, rfl, hx, hO, hr, h⟩ hc
  have hx : S[i]? = some (.ins C (caF B x)) := hx
  unfold t_Candidate_known_turn
  simp! only [hx, caB, bkD, bk_at hr, rfD]
  unfold known at h
  by_cases c : sz B r = 1
  · rw [if_pos c] at h
    rw [if_pos (decide_eq_true (by rw [List.length_map]; show ((sz B r : Nat) : Int) = 1; omega))]
    exact .inl h
  · rw [if_neg c] at h
    rw [if_neg (by rw [decide_eq_true_eq, List.length_map]; show ¬ ((sz B r : Nat) : Int) = 1; omega)]
    refine ⟨_, caf, ?_⟩
    simp! only [osD, os_at (show r < x.f.length by rw [hO.lf]; exact hr)]
    exact .inl h
end K14
set_option Elab.async false
set_option linter.all false
set_option maxRecDepth 100000
set_option maxHeartbeats 2000000
namespace K14
open PySem PySem.Spec D3 K20 K11 K03
theorem dNeE_l {S : Store} {i j : Nat} {xs : List Dv} {Q : KD} (h1 : S[i]? = some (.lst xs)) (h2 : S[j]? = some (.lst [])) (q : Q (.bl (!xs.isEmpty)) S) : dNeE (.obj i) (.obj j) S Q := .inl ⟨xs, ⟨i, j, rfl, rfl, getL_iff.mpr h1, getL_iff.mpr h2⟩, q⟩
theorem dEqE_l {S : Store} {i j : Nat} {xs : List Dv} {Q : KD} (h1 : S[i]? = some (.lst xs)) (h2 : S[j]? = some (.lst [])) (q : Q (.bl xs.isEmpty) S) : dEqE (.obj i) (.obj j) S Q := .inl ⟨xs, ⟨i, j, rfl, rfl, getL_iff.mpr h1, getL_iff.mpr h2⟩, q⟩
def ptD (x : En) : Dv := .tup (enD x)
def pthL (st : List En) : List Dv := st.reverse.map ptD
theorem pathD_eq (st : List En) : pathD st = .tup (pthL st) := rfl
variable (C : Addr)
def spAftW : Spd := fun ds S Q E => ∃ (i : Nat) (B : Bk) (x : Cd), ds = [.obj i] ∧ CaAt C B S i x ∧ BkOk B ∧ COk B x ∧ ∀ S' j, CaAt C B S' j (aftW B x) → Frm [] S S' → S.length ≤ j → Q (.obj j) S'
theorem r_aftW : ∀ ds S Qd Ed, spAftW C ds S Qd Ed → StClo S → t_Candidate_after_word C (spCInit C) (WEx S.length Ed) { nx := fun _ S' => Gc S.length Qd .non S', rt := Gc S.length Qd } (startD 6 ds) S := by
  rintro _ S Qd Ed ⟨i, B, x, rfl, hx, hB, hO, h⟩ hc
  have hx : S[i]? = some (.ins C (caF B x)) := hx
  have hi := at_lt hx
  unfold t_Candidate_after_word
  refine seqI ?_
  simp! only [hx, cae, pathD_eq]
  refine seqI ?_
  refine sGen (fun σ' S' => ∃ (o2 o3 o4 o5 : Option Dv), σ' = [some (.obj i), some (.obj S.length), o2, o3, o4, o5] ∧ Frm [] S S' ∧ S'[S.length]? = some (.lst (pthL (fin B x.e)))) (fun K hK => ?_) ?_
  · refine sWhile_inv rfl (fun m σ S' => ∃ (fd : Bool) (w : List En) (o3 o4 o5 : Option Dv), m = (if fd = true then w.length + 1 else 0) ∧ (if fd = true then fin B w else w) = fin B x.e ∧ (fd = true → ∀ y ∈ w, EOk B y) ∧ w.length ≤ 60 ∧ S'[S.length]? = some (.lst (pthL w)) ∧ Frm [] S S' ∧ σ = [some (.obj i), some (.obj S.length), some (.bl fd), o3, o4, o5]) ⟨_, true, x.e, _, _, _, rfl, rfl, fun _ => hO.e, Nat.le_trans (hO.lvl hB) hB.le, get_at, .app, rfl⟩ ?_
    rintro m σ S1 ⟨fd, w, o3, o4, o5, rfl, hw, hwe, hwl, hl, hf, rfl⟩ K2 hK2
    simp! only []
    cases fd with
    | false =>
      have hw : w = fin B x.e := hw
      rw [hw] at hl
      exact hK _ _ ⟨_, _, _, _, rfl, hf, hl⟩
    | true =>
      have hw : fin B w = fin B x.e := hw
      have hl2 := get_old (T := [Mo.lst []]) hl
      have hf2 := hf.then (Frm.app (T := [Mo.lst []]))
      cases w with
      | nil =>
        rw [if_pos rfl]
        refine dNeE_l hl2 get_at ?_
        refine ⟨false, rfl, ?_⟩
        rw [if_neg Bool.false_ne_true]
        rw [show fin B x.e = [] from hw.symm] at hK
        exact hK _ _ ⟨_, _, _, _, rfl, hf2, hl2⟩
      | cons y w =>
        have hne : (pthL (y :: w)).isEmpty = false := by
          unfold pthL
          rw [List.reverse_cons, List.map_append]
          simp
        rw [if_pos rfl]
        refine dNeE_l hl2 get_at ?_
        refine ⟨true, by rw [hne]; rfl, ?_⟩
        rw [if_pos rfl]
        have hp : pthL (y :: w) = pthL w ++ [ptD y] := by unfold pthL; rw [List.reverse_cons, List.map_append]; rfl
        have hy := hwe rfl y List.mem_cons_self
        obtain ⟨x1, x2, x3⟩ := hy.ats
        rw [hp] at hl2
        refine seqI ?_
        simp! only []
        refine ⟨.inl ⟨_, hl2⟩, _, getL_iff.mpr hl2, ptD y, by simp, enD y, rfl, rfl, _, _, rfl, _, _, rfl, _, _, rfl, rfl, ?_⟩
        rw [List.dropLast_concat]
        have hl3 : ((S1 ++ [Mo.lst []]).set S.length (.lst (pthL w)))[S.length]? = some (.lst (pthL w)) := List.getElem?_set_self (by have := at_lt hl2; omega)
        have hf3 : Frm [] S ((S1 ++ [Mo.lst []]).set S.length (.lst (pthL w))) := hf2.trans (Frm.set (F := [S.length]) List.mem_cons_self) fun j hj => .inr (by rw [List.mem_singleton.mp hj]; exact Nat.le_refl _)
        have hn3 : S.length < ((S1 ++ [Mo.lst []]).set S.length (.lst (pthL w))).length := at_lt hl3
        show sSeq _ _ _ _ ((S1 ++ [Mo.lst []]).set S.length (.lst (pthL w)))
        generalize (S1 ++ [Mo.lst []]).set S.length (.lst (pthL w)) = S3 at *
        have hx3 : S3[i]? = some (.ins C (caF B x)) := hf3.at hx (by simp)
        refine seqI ?_
        simp! only [hx3, caB, bkD, atI_nat x1, rfD, atI_nat x2, vsD]
        rw [List.length_map]
        refine ifI ?_
        simp! only []
        have hcv : ((y.2.2 : Int) + 1 = ((vOf B y).length : Nat)) ↔ y.2.2 + 1 = (vOf B y).length := by omega
        have hfy : fin B (y :: w) = if y.2.2 + 1 = (vOf B y).length then fin B w else (y.1, y.2.1, y.2.2 + 1) :: w := rfl
        rw [hfy] at hw
        have hwl2 : w.length + 1 ≤ 60 := hwl
        by_cases c : y.2.2 + 1 = (vOf B y).length
        · rw [if_pos c] at hw
          rw [decide_eq_true (hcv.mpr c)]
          exact hK2 _ _ (.inl ⟨w.length + 1, by show w.length + 1 < w.length + 1 + 1; omega, true, w, _, _, _, rfl, hw, fun _ z hz => hwe rfl z (List.mem_cons_of_mem _ hz), by omega, hl3, hf3, rfl⟩)
        · rw [if_neg c] at hw
          rw [decide_eq_false (fun z => c (hcv.mp z))]
          refine ⟨.inl ⟨_, hl3⟩, _, getL_iff.mpr hl3, ?_, hK2 _ _ (.inl ⟨0, by show 0 < w.length + 1 + 1; omega, false, (y.1, y.2.1, y.2.2 + 1) :: w, _, _, _, rfl, hw, (fun z => by cases z), hwl2, ?_, ?_, rfl⟩)⟩
          · unfold pthL
            rw [List.length_map, List.length_reverse]
            exact small_line (by omega)
          · rw [List.getElem?_set_self hn3]
            unfold pthL
            rw [List.reverse_cons, List.map_append]
            rfl
          · exact hf3.trans (Frm.set (F := [S.length]) List.mem_cons_self) fun j hj => .inr (by rw [List.mem_singleton.mp hj]; exact Nat.le_refl _)
  · rintro σ' S1 ⟨o2, o3, o4, o5, rfl, hf, hl⟩
    dsimp only
    have hx1 : S1[i]? = some (.ins C (caF B x)) := hf.at hx (by simp)
    simp! only [hx1, caB, caf, cac]
    refine ⟨_, getL_iff.mpr hl, ?_⟩
    rw [← pathD_eq]
    exact ⟨_, B, aftW B x, rfl, get_at, fun S2 hS2 f2 => ⟨rfl, .inl (h S2 _ hS2 (hf.then ((Frm.app (F := [])).trans f2 fun j hj => .inr (by rw [List.mem_singleton.mp hj]; exact Nat.le_refl _))) hf.len)⟩⟩
def kT (y : Str) : L2.Key × Dv := (Sum.inr y, .bl true)
theorem put_kT {acc : List Str} {y : Str} : putD (acc.map kT) (Sum.inr y) (.bl true) = (addK acc y).map kT := by
  unfold putD addK
  have e : ((acc.map kT).any fun kv => decide (kv.1 = Sum.inr y)) = decide (y ∈ acc) := by
    rw [Bool.eq_iff_iff, List.any_eq_true, decide_eq_true_eq]
    constructor
    · rintro ⟨p, hp, hd⟩
      obtain ⟨z, hz, rfl⟩ := List.mem_map.mp hp
      have := of_decide_eq_true hd
      have : z = y := Sum.inr.inj this
      rw [← this]; exact hz
    · intro h
      exact ⟨kT y, List.mem_map.mpr ⟨y, h, rfl⟩, decide_eq_true rfl⟩
  rw [e]
  by_cases c : y ∈ acc
  · rw [if_pos (decide_eq_true c), if_pos c, List.map_map]
    refine List.map_congr_left fun z hz => ?_
    show (if _ then _ else _) = kT z
    split
    · rename_i q
      show _ = ((Sum.inr z : L2.Key), Dv.bl true)
      rfl
    · rfl
  · rw [if_neg (by rw [decide_eq_true_eq]; exact c), if_neg c, List.map_append]
    rfl
theorem merge_kT : ∀ {l acc : List Str}, mergeD (acc.map kT) (l.map kT) = (l.foldl addK acc).map kT
  | [], acc => rfl
  | y :: l, acc => by
    show mergeD (putD (acc.map kT) (Sum.inr y) (.bl true)) (l.map kT) = _
    rw [put_kT, merge_kT]
    rfl
def Pool (B : Bk) (W : List Str) : Prop := ∀ r ∈ B, ∀ v ∈ r, ∀ y, Itm.wd y ∈ v → y ∈ W
theorem nodup_len : ∀ {l m : List Str}, l.Nodup → (∀ x ∈ l, x ∈ m) → l.length ≤ m.length
  | [], m, _, _ => Nat.zero_le _
  | a :: l, m, hn, h => by
    obtain ⟨h1, h2⟩ := List.nodup_cons.mp hn
    have ha := h a List.mem_cons_self
    have := nodup_len (l := l) (m := m.erase a) h2 fun x hx => (List.mem_erase_of_ne (fun (z : x = a) => h1 (z ▸ hx))).mpr (h x (List.mem_cons_of_mem _ hx))
    rw [List.length_erase_of_mem ha] at this
    have hp := List.length_pos_of_mem ha
    rw [List.length_cons]; omega
theorem opn_pool {B : Bk} (hB : BkOk B) {W : List Str} (hW : Pool B W) {x : Cd} (hO : COk B x) : ∀ (d r : Nat), B.length - r ≤ d → r < B.length → ∀ w ∈ opn B x r, w ∈ W := by
  intro d
  induction d with
  | zero => intro r h1 h2; omega
  | succ d ih =>
    intro r hd hr w hw
    obtain ⟨t, ht, hi⟩ := mem_opn.mp hw
    have ht2 := hO.poss ht
    unfold InI at hi
    cases e : st0 B r t with
    | ref n => rw [e] at hi; exact ih _ (by have := hi.1; omega) hi.1.2 w hi.2
    | wd y =>
      rw [e] at hi
      have hi : w = y := hi
      obtain ⟨z, hz⟩ : ∃ z, B[r]? = some z := ⟨_, List.getElem?_eq_getElem hr⟩
      have hsz := sz_of hz
      have hv : vOf B (r, t.toNat, 0) ∈ z := by
        show (B.getD r []).getD t.toNat [] ∈ z
        rw [gd hz, List.getD_eq_getElem?_getD, List.getElem?_eq_getElem (by omega)]
        exact List.getElem_mem _
      have hm : st0 B r t ∈ vOf B (r, t.toNat, 0) := by
        show (vOf B (r, t.toNat, 0)).getD 0 (.wd "") ∈ _
        rw [List.getD_eq_getElem?_getD, List.getElem?_eq_getElem (hB.verse hz hv).1]
        exact List.getElem_mem _
      rw [e] at hm
      rw [hi]
      exact hW z (List.mem_of_getElem? hz) _ hv y hm
theorem opn_len {B : Bk} (hB : BkOk B) {W : List Str} (hW : Pool B W) {x : Cd} (hO : COk B x) {r : Nat} (hr : r < B.length) : (opn B x r).length ≤ W.length := nodup_len nod_opn (opn_pool hB hW hO _ r (Nat.le_refl _) hr)
def Tab (B : Bk) (x : Cd) (S : Store) (ks : List Nat) (k : Nat) : Prop := ks.length = B.length ∧ ∀ r, k ≤ r → r < B.length → ∃ d, ks[r]? = some d ∧ S[d]? = some (.dk ((opn B x r).map kT))
end K14
set_option Elab.async false
set_option linter.all false
set_option maxRecDepth 100000
set_option maxHeartbeats 2000000
namespace K14
open PySem PySem.Spec D3 K20 K11 K03
theorem List.map_replicate_obj {n a : Nat} : List.replicate n (Dv.obj a) = (List.replicate n a).map Dv.obj := by rw [List.map_replicate]
variable (C : Addr)
def spOpen : Spd := fun ds S Q E => ∃ (i : Nat) (B : Bk) (x : Cd) (W : List Str), ds = [.obj i] ∧ CaAt C B S i x ∧ BkOk B ∧ COk B x ∧ Pool B W ∧ W.length < 64 ∧ ∀ S' t ks, S'[t]? = some (.lst (ks.map Dv.obj)) → Tab B x S' ks 0 → Frm [] S S' → S.length ≤ t → Q (.obj t) S'
theorem r_open : ∀ ds S Qd Ed, spOpen C ds S Qd Ed → StClo S → t_Candidate_opening_words C (spPoss C) K20.spIsWord (WEx S.length Ed) { nx := fun _ S' => Gc S.length Qd .non S', rt := Gc S.length Qd } (startD 6 ds) S := by
  rintro _ S Qd Ed ⟨i, B, x, W, rfl, hx, hB, hO, hW, hWl, h⟩ hc
  have hx : S[i]? = some (.ins C (caF B x)) := hx
  have hi := at_lt hx
  have h60 := hB.le
  have hpos := hB.pos
  unfold t_Candidate_opening_words
  refine seqI ?_
  simp! only [hx, caB, bkD]
  refine ⟨_, get_old hx, _, caB, ?_⟩
  simp! only [bkD]
  rw [List.length_map, List.map_replicate_obj]
  refine ⟨by omega, by omega, Nat.le_of_lt (small_line (by omega)), ?_⟩
  have hl0 : (S ++ [Mo.dk [], Mo.lst [Dv.obj S.length], Mo.lst ((List.replicate B.length S.length).map Dv.obj)])[S.length + 2]? = some (.lst ((List.replicate B.length S.length).map Dv.obj)) := by rw [st_getk]; rfl
  have hf0 : Frm [] S (S ++ [Mo.dk [], Mo.lst [Dv.obj S.length], Mo.lst ((List.replicate B.length S.length).map Dv.obj)]) := .app
  generalize S ++ [Mo.dk [], Mo.lst [Dv.obj S.length], Mo.lst ((List.replicate B.length S.length).map Dv.obj)] = S1 at *
  have ht0 : S.length ≤ S.length + 2 := by omega
  generalize S.length + 2 = t at *
  refine seqI ?_
  refine sFor_inv (S1 := S1) (jDown B.length) (fun k σ S' => ∃ (ks : List Nat) (o2 o3 o4 o5 : Option Dv), S'[t]? = some (.lst (ks.map Dv.obj)) ∧ Tab B x S' ks (B.length - k) ∧ Frm [] S S' ∧ σ = [some (.obj i), some (.obj t), o2, o3, o4, o5]) (hw_down (fun R hR => ?_) (by omega)) ⟨_, _, _, _, _, hl0, ⟨List.length_replicate, fun r h1 h2 => by omega⟩, hf0, rfl⟩ (fun _ _ _ _ _ => trivial) ?_ ?_
  · have hx1 : S1[i]? = some (.ins C (caF B x)) := hf0.at hx (by simp)
    simp! only [hx1, caB, bkD]
    rw [List.length_map]
    exact hR
  · rintro k d σ S2 hd ⟨ks, o2, o3, o4, o5, hl, hT, hf, rfl⟩ K hK
    obtain ⟨hk, rfl⟩ := jDown_get hd
    have hx2 : S2[i]? = some (.ins C (caF B x)) := hf.at hx (by simp)
    have hr : B.length - 1 - k < B.length := by omega
    have hrk : B.length - k = (B.length - 1 - k) + 1 := by omega
    have hrk2 : B.length - (k + 1) = B.length - 1 - k := by omega
    rw [hrk] at hT
    rw [hrk2] at hK
    generalize B.length - 1 - k = r at *
    simp! only []
    refine seqI ?_
    simp! only []
    have hd0 : (S2 ++ [Mo.dk []])[S2.length]? = some (.dk (([] : List Str).map kT)) := get_at
    have hl3 := get_old (T := [Mo.dk []]) hl
    have hx3 := get_old (T := [Mo.dk []]) hx2
    have htl := at_lt hl
    have f3 : Frm [] S2 (S2 ++ [Mo.dk []]) := .app
    have ln3 : (S2 ++ [Mo.dk []]).length = S2.length + 1 := by rw [List.length_append]; rfl
    generalize S2 ++ [Mo.dk []] = S3 at *
    generalize hd0e : S2.length = d0 at *
    refine seqI ?_
    refine sFor_inv (S1 := S3 ++ [Mo.lst ((poss B x r).map Dv.int)]) (jSeq (.obj S3.length) ((poss B x r).map Dv.int)) (fun m σ S' => ∃ (o4 o5 : Option Dv), Frm [d0] (S3 ++ [Mo.lst ((poss B x r).map Dv.int)]) S' ∧ S'[d0]? = some (.dk ((((poss B x r).take m).foldl (opI B x r) []).map kT)) ∧ σ = [some (.obj i), some (.obj t), some (.int r), some (.obj d0), o4, o5]) (hw_seq (fun R hR => ?_) (getL_iff.mpr get_at)) ⟨_, _, ⟨Nat.le_refl _, fun i hi _ => rfl⟩, get_old hd0, rfl⟩ (fun m σ S' _ ⟨_, _, f, _⟩ => getL_iff.mpr (f.at get_at (by simp; omega))) ?_ ?_
    · simp! only []
      refine ⟨_, hx3, rfl, i, B, x, r, rfl, hx3, hB, hO, hr, hR⟩
    · clear o4 o5
      rintro m d σ S4 hd ⟨o4, o5, f4, g4, rfl⟩ K2 hK2
      have hd : ((poss B x r).map Dv.int)[m]? = some d := hd
      rw [List.getElem?_map] at hd
      obtain ⟨v, hv, rfl⟩ := Option.map_eq_some_iff.mp hd
      have hvm := List.mem_of_getElem? hv
      have hv2 := hO.poss hvm
      obtain ⟨n, rfl⟩ : ∃ n : Nat, v = n := ⟨v.toNat, by omega⟩
      have hx4 : S4[i]? = some (.ins C (caF B x)) := f4.at (get_old hx3) (by simp; omega)
      have hl4 := f4.at (get_old hl3) (by simp; omega)
      obtain ⟨y, hy⟩ : ∃ y, B[r]? = some y := ⟨_, List.getElem?_eq_getElem hr⟩
      have hsz := sz_of hy
      have hen : EOk B (r, n, 0) := by
        have hv : vOf B (r, n, 0) ∈ y := by
          show (B.getD r []).getD n [] ∈ y
          rw [gd hy, List.getD_eq_getElem?_getD, List.getElem?_eq_getElem (by omega)]
          exact List.getElem_mem _
        exact ⟨hr, (by have : sz B r = (B.getD r []).length := rfl; show n < (B.getD r []).length; omega), (hB.verse hy hv).1⟩
      obtain ⟨x1, x2, x3⟩ := hen.ats
      have hst : st0 B r (n : Int) = itAt B (r, n, 0) := rfl
      have htk : ((poss B x r).take (m + 1)).foldl (opI B x r) [] = opI B x r (((poss B x r).take m).foldl (opI B x r) []) (n : Int) := by rw [take_succ0 hv, List.foldl_append]; rfl
      rw [htk] at hK2
      have hacc : ∀ z ∈ ((poss B x r).take m).foldl (opI B x r) [], z ∈ opn B x r := fun z hz => by
        rcases mem_opF.mp hz with q | ⟨u, hu, hi⟩
        · cases q
        · exact mem_opn.mpr ⟨u, List.mem_of_mem_take hu, hi⟩
      have hal : (((poss B x r).take m).foldl (opI B x r) []).length ≤ W.length := nodup_len (nod_opF List.nodup_nil) fun z hz => opn_pool hB hW hO _ r (Nat.le_refl _) hr z (hacc z hz)
      generalize ((poss B x r).take m).foldl (opI B x r) [] = acc at *
      simp! only []
      refine seqI ?_
      simp! only [hx4, caB, bkD, atI_nat x1, rfD, atI_nat x2, vsD]
      refine ⟨_, atI_nat x3, .inr ⟨_, g4⟩, itAt B (r, n, 0), rfl, ?_⟩
      have g4l := at_lt g4
      cases hi : itAt B (r, n, 0) with
      | wd w =>
        refine ⟨true, rfl, ?_⟩
        rw [if_pos rfl]
        refine ⟨[kT w], rfl, by show 1 ≤ 15; omega, acc.map kT, mergeD [] [kT w], get_old g4, ?_, .inl ⟨by omega, getK_dk get_at⟩, hK2 _ _ (.inl ⟨_, _, ?_, ?_, rfl⟩)⟩
        · rw [List.length_map]
          exact Nat.le_of_lt (small_line (by show acc.length + 1 < _; omega))
        · exact f4.then (Frm.app.then (.set List.mem_cons_self))
        · rw [List.getElem?_set_self (by simp; omega)]
          have e1 : opI B x r acc (n : Int) = addK acc w := by unfold opI; rw [hst, hi]
          rw [e1]
          congr 2
          exact merge_kT (l := [w])
      | ref u =>
        obtain ⟨u1, u2, u3⟩ := hen.ref hB hi
        have u1 : r < u.toNat := u1
        obtain ⟨dd, h1, h2⟩ := hT.2 u.toNat (by omega) u2
        have hdl := at_lt h2
        have h3 := f4.at (get_old (f3.at h2 (by simp))) (by simp; omega)
        refine ⟨false, rfl, ?_⟩
        rw [if_neg Bool.false_ne_true]
        show ∃ ds, getL S4 t = some ds ∧ ∃ z, L2.atI ds u = some z ∧ _
        refine ⟨_, getL_iff.mpr hl4, .obj dd, ?_, acc.map kT, (opn B x u.toNat).map kT, g4, ?_, .inl ⟨by omega, getK_dk h3⟩, hK2 _ _ (.inl ⟨_, _, ?_, ?_, rfl⟩)⟩
        · rw [← u3]
          exact atI_nat (by rw [List.getElem?_map, h1]; rfl)
        · rw [List.length_map, List.length_map]
          have := opn_len hB hW hO u2
          exact Nat.le_of_lt (small_line (by omega))
        · exact f4.then (.set List.mem_cons_self)
        · rw [List.getElem?_set_self (by omega)]
          have e1 : opI B x r acc (n : Int) = (opn B x u.toNat).foldl addK acc := by unfold opI; rw [hst, hi]; exact if_pos ⟨u1, u2⟩
          rw [e1, merge_kT]
    · rintro σ S4 ⟨o4, o5, f4, g4, rfl⟩
      have e1 : (jSeq (.obj S3.length) ((poss B x r).map Dv.int)).items.length = (poss B x r).length := by
        show ((poss B x r).map Dv.int).length = _
        rw [List.length_map]
      rw [e1, List.take_length, ← opn_eq] at g4
      have hl4 := f4.at (get_old hl3) (by simp; omega)
      have f24 : Frm [] S2 S4 := (f3.then .app).trans f4 fun j hj => .inr (by rw [List.mem_singleton.mp hj]; omega)
      simp! only []
      refine ⟨_, getL_iff.mpr hl4, r, ixN_nat (by rw [List.length_map, hT.1]; exact hr), ?_⟩
      rw [← List.map_set]
      have htl4 := at_lt hl4
      refine hK _ _ (.inl ⟨ks.set r d0, _, _, _, _, List.getElem?_set_self htl4, ⟨by rw [List.length_set]; exact hT.1, fun r' h1 h2 => ?_⟩, (hf.then f24).trans (Frm.set (F := [t]) List.mem_cons_self) fun j hj => .inr (by rw [List.mem_singleton.mp hj]; exact ht0), rfl⟩)
      · by_cases c : r' = r
        · subst c
          refine ⟨d0, List.getElem?_set_self (by rw [hT.1]; exact hr), ?_⟩
          rw [List.getElem?_set_ne (by omega)]
          exact g4
        · obtain ⟨dd, q1, q2⟩ := hT.2 r' (by omega) h2
          refine ⟨dd, by rw [List.getElem?_set_ne (fun z => c z.symm)]; exact q1, ?_⟩
          rw [List.getElem?_set_ne (fun z => ?_)]
          · exact f24.at q2 (by simp)
          · rw [← z, hl] at q2; cases q2
  · rintro σ S2 ⟨ks, o2, o3, o4, o5, hl, hT, hf, rfl⟩
    rw [jDown_len, Nat.sub_self] at hT
    simp! only []
    exact .inl (h S2 t ks hl hT hf ht0)
end K14
set_option Elab.async false
set_option linter.all false
set_option maxRecDepth 100000
set_option maxHeartbeats 2000000
namespace K14
open PySem PySem.Spec D3 K20 K11 K03
variable (C : Addr)
def CaL (B : Bk) (S : Store) : List Nat → List Cd → Prop
  | [], [] => True
  | a :: as, x :: xs => CaAt C B S a x ∧ CaL B S as xs
  | _, _ => False
section
variable {C} {B : Bk} {S S' : Store}
theorem CaL.len : ∀ {as : List Nat} {xs : List Cd}, CaL C B S as xs → as.length = xs.length
  | [], [], _ => rfl
  | [], _ :: _, h => h.elim
  | _ :: _, [], h => h.elim
  | _ :: as, _ :: xs, h => by rw [List.length_cons, List.length_cons, CaL.len h.2]
theorem CaL.keep (f : Frm [] S S') : ∀ {as : List Nat} {xs : List Cd}, CaL C B S as xs → CaL C B S' as xs
  | [], [], _ => trivial
  | [], _ :: _, h => h.elim
  | _ :: _, [], h => h.elim
  | _ :: as, _ :: xs, h => ⟨f.at h.1 (by simp), CaL.keep f h.2⟩
/-- lists only are changed -/
theorem CaL.frm {F : List Nat} (f : Frm F S S') (hF : ∀ i ∈ F, (∃ l, S[i]? = some (.lst l)) ∨ S.length ≤ i) : ∀ {as : List Nat} {xs : List Cd}, CaL C B S as xs → CaL C B S' as xs
  | [], [], _ => trivial
  | [], _ :: _, h => h.elim
  | _ :: _, [], h => h.elim
  | a :: as, _ :: xs, h => ⟨f.at h.1 fun z => by
      have h1 : S[a]? = some (.ins C (caF B _)) := h.1
      rcases hF a z with ⟨l, hl⟩ | hl
      · rw [hl] at h1; cases h1
      · have := at_lt h1; omega, CaL.frm f hF h.2⟩
theorem CaL.app : ∀ {as bs : List Nat} {xs ys : List Cd}, CaL C B S as xs → CaL C B S bs ys → CaL C B S (as ++ bs) (xs ++ ys)
  | [], _, [], _, _, h => h
  | [], _, _ :: _, _, h, _ => h.elim
  | _ :: _, _, [], _, h, _ => h.elim
  | _ :: as, bs, _ :: xs, ys, h, g => ⟨h.1, CaL.app h.2 g⟩
theorem CaL.rev : ∀ {as : List Nat} {xs : List Cd}, CaL C B S as xs → CaL C B S as.reverse xs.reverse
  | [], [], _ => trivial
  | [], _ :: _, h => h.elim
  | _ :: _, [], h => h.elim
  | a :: as, x :: xs, h => by
    rw [List.reverse_cons, List.reverse_cons]
    exact CaL.app (CaL.rev h.2) ⟨h.1, trivial⟩
theorem CaL.get : ∀ {as : List Nat} {xs : List Cd} {k : Nat} {a : Nat}, CaL C B S as xs → as[k]? = some a → ∃ x, xs[k]? = some x ∧ CaAt C B S a x
  | [], [], k, a, _, e => by cases e
  | [], _ :: _, _, _, h, _ => h.elim
  | _ :: _, [], _, _, h, _ => h.elim
  | b :: as, x :: xs, 0, a, h, e => by cases e; exact ⟨x, rfl, h.1⟩
  | b :: as, x :: xs, k + 1, a, h, e => by
    obtain ⟨y, h1, h2⟩ := CaL.get (k := k) h.2 e
    exact ⟨y, h1, h2⟩
end
def spFoll : Spd := fun ds S Q E => ∃ (i : Nat) (B : Bk) (x : Cd) (W : List Str), ds = [.obj i] ∧ CaAt C B S i x ∧ BkOk B ∧ COk B x ∧ Pool B W ∧ W.length < 64 ∧ ∀ S' j (ys : List Str), S'[j]? = some (.lst (ys.map Dv.str)) → (∀ w, w ∈ ys ↔ w ∈ foll B x) → ys.length < 64 → Frm [] S S' → S.length ≤ j → Q (.obj j) S'
theorem r_foll : ∀ ds S Qd Ed, spFoll C ds S Qd Ed → StClo S → t_Candidate_following_words C (spCur C) K20.spIsWord (spOpen C) (WEx S.length Ed) { nx := fun _ S' => Gc S.length Qd .non S', rt := Gc S.length Qd } (startD 2 ds) S := by
  rintro _ S Qd Ed ⟨i, B, x, W, rfl, hx, hB, hO, hW, hWl, h⟩ hc
  have hx' : S[i]? = some (.ins C (caF B x)) := hx
  have k1 : (caF B x).lookup ("current_item" : Str) = none := rfl
  have k2 : (caF B x).lookup ("opening_words" : Str) = none := rfl
  unfold t_Candidate_following_words
  refine seqI ?_
  simp! only []
  refine ⟨_, hx', k1, i, B, x, rfl, hx, hO, ?_⟩
  unfold foll at h
  refine ⟨curIt B x, rfl, ?_⟩
  cases e : curIt B x with
  | wd y =>
    rw [e] at h
    refine ⟨true, rfl, ?_⟩
    rw [if_pos rfl]
    exact .inl (h _ _ [y] get_at (fun w => Iff.rfl) (by show 1 < 64; omega) .app (Nat.le_refl _))
  | ref n =>
    rw [e] at h
    obtain ⟨hr, hrn, _⟩ := hO.ref hB e
    refine ⟨false, rfl, ?_⟩
    rw [if_neg Bool.false_ne_true]
    refine ⟨_, hx', k2, i, B, x, W, rfl, hx, hB, hO, hW, hWl, fun S1 t ks g1 hT f1 ht => ?_⟩
    obtain ⟨d, h1, h2⟩ := hT.2 n.toNat (Nat.zero_le _) hr
    show ∃ ds, getL S1 t = some ds ∧ ∃ z, L2.atI ds n = some z ∧ _
    refine ⟨_, getL_iff.mpr g1, .obj d, by rw [← hrn]; exact atI_nat (by rw [List.getElem?_map, h1]; rfl), ?_⟩
    have hlen := opn_len hB hW hO hr
    refine ⟨_, opn B x n.toNat, getK_dk h2, by rw [List.map_map]; rfl, by omega, fun ys hp _ => ?_⟩
    exact .inl (h _ _ ys get_at (fun w => hp.mem_iff) (by rw [hp.length_eq]; omega) (f1.then .app) f1.len)
end K14
set_option Elab.async false
set_option linter.all false
set_option maxRecDepth 100000
set_option maxHeartbeats 2000000
namespace K14
open PySem PySem.Spec D3 K20 K11 K03
variable (C : Addr)
def Same (B : Bk) (x y : Cd) : Prop := ∀ n, curIt B y = .ref n → ∀ r, n.toNat ≤ r → poss B y r = poss B x r
theorem Same.start {B : Bk} (hB : BkOk B) {x y : Cd} (hO : COk B y) (h : Same B x y) {n : Int} (hn : curIt B y = .ref n) {t : Int} (ht : t ∈ poss B y n.toNat) : Same B x (startC B y n.toNat t) := by
  intro m hm r hr
  have hs := hO.start hB hn ht
  obtain ⟨h1, _⟩ := hO.ref hB hn
  have h2 : n.toNat < m.toNat := by
    have := (hs.ref hB hm).2.2.2.1 (n.toNat, t.toNat, 0) List.mem_cons_self
    exact this
  rw [← h n hn r (by omega)]
  unfold poss
  rw [start_f hO h1, start_c hO h1, if_neg (by rintro ⟨_, q⟩; omega), if_neg (by omega)]
def Stk : List Cd → Prop
  | [] => True
  | y :: xs => xs.length + 1 ≤ 4 * (y.e.length + 1) ∧ Stk xs
theorem stk_push {B : Bk} {y : Cd} {r : Nat} {xs : List Cd} (h : xs.length + 1 ≤ 4 * (y.e.length + 1)) (hs : Stk xs) : ∀ ts : List Int, ts.length ≤ 4 → Stk (ts.map (startC B y r) ++ xs)
  | [], _ => hs
  | t :: ts, hl => by
    refine ⟨?_, stk_push h hs ts (by rw [List.length_cons] at hl; omega)⟩
    rw [List.length_cons] at hl
    show (ts.map (startC B y r) ++ xs).length + 1 ≤ _
    rw [List.length_append, List.length_map]
    show _ ≤ 4 * ((y.e.length + 1) + 1)
    omega
def wgt (xs : List Cd) : Nat := (xs.map fun y => 5 ^ (61 - y.e.length)).sum
theorem wgt_push {B : Bk} {y : Cd} {r : Nat} {xs : List Cd} (hl : y.e.length ≤ 60) {ts : List Int} (h4 : ts.length ≤ 4) : wgt (ts.map (startC B y r) ++ xs) < wgt (y :: xs) := by
  unfold wgt
  rw [List.map_append, List.sum_append, List.map_cons, List.sum_cons, List.map_map]
  have h1 : (ts.map ((fun y => 5 ^ (61 - y.e.length)) ∘ startC B y r)).sum = ts.length * 5 ^ (60 - y.e.length) := by
    clear h4
    induction ts with
    | nil => simp
    | cons t ts ih =>
      have e : ((fun y : Cd => 5 ^ (61 - y.e.length)) ∘ startC B y r) t = 5 ^ (60 - y.e.length) := by
        show 5 ^ (61 - (y.e.length + 1)) = _
        rw [show 61 - (y.e.length + 1) = 60 - y.e.length by omega]
      rw [List.map_cons, List.sum_cons, ih, List.length_cons, Nat.succ_mul, Nat.add_comm, e]
  rw [h1, show 61 - y.e.length = (60 - y.e.length) + 1 by omega, Nat.pow_succ]
  have h2 : 0 < 5 ^ (60 - y.e.length) := Nat.pow_pos (by decide)
  have h3 : ts.length * 5 ^ (60 - y.e.length) ≤ 4 * 5 ^ (60 - y.e.length) := Nat.mul_le_mul_right _ h4
  omega
theorem wgt_pop {y : Cd} {xs : List Cd} : wgt xs < wgt (y :: xs) := by
  unfold wgt
  rw [List.map_cons, List.sum_cons]
  have h2 : 0 < 5 ^ (61 - y.e.length) := Nat.pow_pos (by decide)
  omega
theorem val_kT {ks : List Str} {w : Str} : (valD (ks.map kT) (Sum.inr w)).isSome = decide (w ∈ ks) := by
  unfold valD
  rw [Option.isSome_map, List.find?_map, Option.isSome_map, Bool.eq_iff_iff, List.find?_isSome, decide_eq_true_eq]
  constructor
  · rintro ⟨z, hz, hd⟩
    have : z = w := Sum.inr.inj (of_decide_eq_true hd)
    rw [← this]; exact hz
  · intro h
    exact ⟨w, h, decide_eq_true rfl⟩
theorem poss_len {B : Bk} (hB : BkOk B) {x : Cd} {r : Nat} (hr : r < B.length) : (poss B x r).length ≤ 4 := by
  obtain ⟨y, hy⟩ : ∃ y, B[r]? = some y := ⟨_, List.getElem?_eq_getElem hr⟩
  have := (hB.row hy).2
  have := sz_of hy
  unfold poss
  split
  · simp
  · rw [List.length_map, List.length_range]; omega
theorem Tab.frm {F : List Nat} {B : Bk} {x : Cd} {S S' : Store} {ks : List Nat} {k : Nat} (f : Frm F S S') (hF : ∀ i ∈ F, (∃ l, S[i]? = some (.lst l)) ∨ S.length ≤ i) (h : Tab B x S ks k) : Tab B x S' ks k := ⟨h.1, fun r h1 h2 => by
  obtain ⟨d, q1, q2⟩ := h.2 r h1 h2
  refine ⟨d, q1, f.at q2 fun z => ?_⟩
  rcases hF d z with ⟨l, hl⟩ | hl
  · rw [hl] at q2; cases q2
  · have := at_lt q2; omega⟩
theorem one_lst {S : Store} {l : Nat} {xs : List Dv} (h : S[l]? = some (.lst xs)) : ∀ i ∈ [l], (∃ l, S[i]? = some (.lst l)) ∨ S.length ≤ i := fun i hi => .inl ⟨xs, by rw [List.mem_singleton.mp hi]; exact h⟩
structure Lh (C : Addr) (B : Bk) (x : Cd) (w : Str) (S : Store) (l2 l3 : Nat) (as ps : List Nat) (rs xs : List Cd) : Prop where
  g2 : S[l2]? = some (.lst (as.map Dv.obj))
  g3 : S[l3]? = some (.lst (ps.reverse.map Dv.obj))
  a : CaL C B S as rs
  p : CaL C B S ps xs
  all : rs ++ xs.flatMap (aft B w) = aft B w x
  len : rs.length ≤ 501
  ok : ∀ y ∈ xs, COk B y ∧ Same B x y
  stk : Stk xs
def spHear : Spd := fun ds S Q E => ∃ (i : Nat) (B : Bk) (x : Cd) (w : Str) (W : List Str), ds = [.obj i, .str w] ∧ CaAt C B S i x ∧ BkOk B ∧ COk B x ∧ Pool B W ∧ W.length < 64 ∧ ∀ S' j as, S'[j]? = some (.lst (as.map Dv.obj)) → CaL C B S' as ((aft B w x).take 501) → Frm [] S S' → S.length ≤ j → Q (.obj j) S'
theorem r_hear : ∀ ds S Qd Ed, spHear C ds S Qd Ed → StClo S → t_Candidate_after_hearing C (spOpen C) (spCur C) K20.spIsWord (spAftW C) (spPoss C) (spStartC C) (WEx S.length Ed) { nx := fun _ S' => Gc S.length Qd .non S', rt := Gc S.length Qd } (startD 8 ds) S := by
  rintro _ S Qd Ed ⟨i, B, x, w, W, rfl, hx, hB, hO, hW, hWl, h⟩ hc
  have hx' : S[i]? = some (.ins C (caF B x)) := hx
  have k1 : ∀ {y : Cd}, (caF B y).lookup ("current_item" : Str) = none := rfl
  have k2 : ∀ {y : Cd}, (caF B y).lookup ("opening_words" : Str) = none := rfl
  have k3 : ∀ {y : Cd}, (caF B y).lookup ("after_word" : Str) = none := rfl
  have k4 : ∀ {y : Cd}, (caF B y).lookup ("possible_turns" : Str) = none := rfl
  have k5 : ∀ {y : Cd}, (caF B y).lookup ("started_at" : Str) = none := rfl
  have h60 := hB.le
  unfold t_Candidate_after_hearing
  refine seqI ?_
  simp! only []
  refine ⟨_, get_old hx', k2, i, B, x, W, rfl, get_old hx', hB, hO, hW, hWl, fun S1 t ks gt hT f1 ht => ?_⟩
  have lt1 : S.length + 2 ≤ t := by rw [List.length_append] at ht; exact ht
  have g2 : S1[S.length]? = some (.lst (([] : List Nat).map Dv.obj)) := f1.at (by rw [st_get0]; rfl) (by simp)
  have g3 : S1[S.length + 1]? = some (.lst (([i] : List Nat).reverse.map Dv.obj)) := f1.at (by rw [st_getk]; rfl) (by simp)
  have fS : Frm [] S S1 := (Frm.app).then f1
  have hn23 : S.length ≠ S.length + 1 := by omega
  have hn3t : S.length + 1 ≠ t := by omega
  have hn2t : S.length ≠ t := by omega
  have hl2 : S.length ≤ S.length := Nat.le_refl _
  have hl3 : S.length ≤ S.length + 1 := by omega
  clear f1 ht lt1
  generalize hl2e : S.length = l2 at *
  generalize l2 + 1 = l3 at *
  refine seqI ?_
  refine sGen (fun σ' S' => ∃ (as : List Nat) (o3 o4 o5 o6 o7 : Option Dv), S'[l2]? = some (.lst (as.map Dv.obj)) ∧ CaL C B S' as ((aft B w x).take 501) ∧ Frm [] S S' ∧ σ' = [some (.obj i), some (.str w), some (.obj l2), o3, o4, o5, o6, o7]) (fun K hK => ?_) ?_
  · refine sWhile_inv rfl (fun m σ S' => ∃ (as ps : List Nat) (rs xs : List Cd) (o5 o6 o7 : Option Dv), m = wgt xs ∧ Lh C B x w S' l2 l3 as ps rs xs ∧ S'[t]? = some (.lst (ks.map Dv.obj)) ∧ Tab B x S' ks 0 ∧ Frm [] S S' ∧ σ = [some (.obj i), some (.str w), some (.obj l2), some (.obj l3), some (.obj t), o5, o6, o7]) ⟨_, [], [i], [], [x], _, _, _, rfl, ⟨g2, g3, trivial, ⟨fS.at hx' (by simp), trivial⟩, by simp, Nat.zero_le _, fun y hy => by rw [List.mem_singleton.mp hy]; exact ⟨hO, fun n hn r hr => rfl⟩, by show 0 + 1 ≤ 4 * _ ∧ True; exact ⟨by omega, trivial⟩⟩, gt, hT, fS, rfl⟩ ?_
    clear g2 g3 gt hT fS
    rintro m σ S2 ⟨as, ps, rs, xs, o5, o6, o7, rfl, hL, gt, hT, fS, rfl⟩ K2 hK2
    have hps := hL.p.len
    have hstk : xs.length ≤ 244 := by
      cases xs with
      | nil => exact Nat.zero_le _
      | cons y xs =>
        have h1 := hL.stk.1
        have h2 := (hL.ok y List.mem_cons_self).1.lvl hB
        show xs.length + 1 ≤ 244
        omega
    simp! only []
    have g3' := get_old (T := [Mo.lst []]) hL.g3
    have fin : rs ++ xs.flatMap (aft B w) = aft B w x → (xs = [] ∨ 500 < rs.length) → rs = (aft B w x).take 501 := fun ha hor => by
      rcases hor with rfl | q
      · rw [← ha]
        simp only [List.flatMap_nil, List.append_nil]
        rw [List.take_of_length_le hL.len]
      · have : rs.length = 501 := by have := hL.len; omega
        rw [← ha, ← this, List.take_left']
        rfl
    refine dNeE_l g3' get_at ?_
    have fE : Frm [] S2 (S2 ++ [Mo.lst []]) := .app
    have hL' : Lh C B x w (S2 ++ [Mo.lst []]) l2 l3 as ps rs xs := ⟨get_old hL.g2, g3', hL.a.keep fE, hL.p.keep fE, hL.all, hL.len, hL.ok, hL.stk⟩
    cases ps with
    | nil =>
      cases xs with
      | cons y xs => cases hps
      | nil =>
        refine ⟨false, rfl, ?_⟩
        rw [if_neg Bool.false_ne_true]
        have e := fin hL.all (.inl rfl)
        exact hK _ _ ⟨as, _, _, _, _, _, hL'.g2, by rw [← e]; exact hL'.a, fS.then fE, rfl⟩
    | cons p ps =>
      cases xs with
      | nil => cases hps
      | cons y xs =>
        refine ⟨true, by simp, ?_⟩
        rw [if_pos rfl]
        refine ⟨_, getL_iff.mpr hL'.g2, ?_⟩
        have fS' := fS.then fE
        have gt' := get_old (T := [Mo.lst []]) gt
        have hT' : Tab B x (S2 ++ [Mo.lst []]) ks 0 := ⟨hT.1, fun r h1 h2 => by
          obtain ⟨d, q1, q2⟩ := hT.2 r h1 h2
          exact ⟨d, q1, get_old q2⟩⟩
        clear hL gt hT fE g3'
        generalize S2 ++ [Mo.lst []] = S3 at *
        rw [List.length_map, hL'.a.len]
        by_cases c5 : 500 < rs.length
        · rw [if_neg (by rw [decide_eq_true_eq]; omega)]
          have e := fin hL'.all (.inr c5)
          exact hK _ _ ⟨as, _, _, _, _, _, hL'.g2, by rw [← e]; exact hL'.a, fS', rfl⟩
        · rw [if_pos (decide_eq_true (by omega))]
          have lt3 := at_lt hL'.g3
          refine seqI ?_
          simp! only []
          have hpp : ((p :: ps).reverse.map Dv.obj) = ps.reverse.map Dv.obj ++ [.obj p] := by rw [List.reverse_cons, List.map_append]; rfl
          have g3 := hL'.g3
          rw [hpp] at g3
          refine ⟨.inl ⟨_, g3⟩, _, getL_iff.mpr g3, .obj p, by simp, ?_⟩
          rw [List.dropLast_concat]
          have f4 : Frm [l3] S3 (S3.set l3 (.lst (ps.reverse.map Dv.obj))) := .set List.mem_cons_self
          have h4 : (S3.set l3 (.lst (ps.reverse.map Dv.obj)))[l3]? = some (.lst (ps.reverse.map Dv.obj)) := List.getElem?_set_self lt3
          have fS4 : Frm [] S (S3.set l3 (.lst (ps.reverse.map Dv.obj))) := fS'.trans f4 fun j hj => .inr (by rw [List.mem_singleton.mp hj, hl2e]; exact hl3)
          have gt4 := f4.at gt' (by simp; omega)
          have g24 := f4.at hL'.g2 (by simp; omega)
          have hF : ∀ i ∈ [l3], (∃ l, S3[i]? = some (.lst l)) ∨ S3.length ≤ i := fun i hi => .inl ⟨ps.reverse.map Dv.obj ++ [.obj p], by rw [List.mem_singleton.mp hi]; exact g3⟩
          have ha4 := hL'.a.frm f4 hF
          have hp4 := hL'.p.frm f4 hF
          have hT4 : Tab B x (S3.set l3 (.lst (ps.reverse.map Dv.obj))) ks 0 := ⟨hT'.1, fun r h1 h2 => by
            obtain ⟨d, q1, q2⟩ := hT'.2 r h1 h2
            refine ⟨d, q1, f4.at q2 fun z => ?_⟩
            rw [List.mem_singleton.mp z, g3] at q2; cases q2⟩
          obtain ⟨hy4, hp4⟩ := hp4
          obtain ⟨hO4, hS4⟩ := hL'.ok y List.mem_cons_self
          have hstk2 : xs.length + 1 ≤ 244 := hstk
          show sSeq _ _ _ _ (S3.set l3 (.lst (ps.reverse.map Dv.obj)))
          generalize S3.set l3 (.lst (ps.reverse.map Dv.obj)) = S4 at *
          have hy4' : S4[p]? = some (.ins C (caF B y)) := hy4
          refine seqI ?_
          simp! only []
          refine ⟨_, hy4', k1, p, B, y, rfl, hy4, hO4, ?_⟩
          refine ifI ?_
          simp! only []
          refine ⟨curIt B y, rfl, ?_⟩
          have hyl : y.e.length ≤ 60 := Nat.le_trans (hO4.lvl hB) h60
          have hall := hL'.all
          rw [List.flatMap_cons] at hall
          have hok2 : ∀ z ∈ xs, COk B z ∧ Same B x z := fun z hz => hL'.ok z (List.mem_cons_of_mem _ hz)
          cases e : curIt B y with
          | wd v =>
            refine ⟨true, rfl, ?_⟩
            rw [if_pos rfl]
            rw [aft_wd hyl e] at hall
            refine ifI ?_
            simp! only []
            show dEq (.str v) (.str w) _ _
            rw [dEq_str]
            refine ⟨_, rfl, ?_⟩
            by_cases cv : v = w
            · rw [if_pos cv] at hall
              rw [if_pos (decide_eq_true cv)]
              refine ⟨.inl ⟨_, g24⟩, _, hy4', k3, p, B, y, rfl, hy4, hB, hO4, fun S5 j hj f5 hjl => ?_⟩
              have g25 := f5.at g24 (by simp)
              refine ⟨_, getL_iff.mpr g25, ?_, ?_⟩
              · rw [List.length_map, ha4.len]; exact small_line (by omega)
              rw [show as.map Dv.obj ++ [Dv.obj j] = (as ++ [j]).map Dv.obj by rw [List.map_append]; rfl]
              have f6 : Frm [l2] S5 (S5.set l2 (.lst ((as ++ [j]).map Dv.obj))) := .set List.mem_cons_self
              have o6 := one_lst g25
              refine hK2 _ _ (.inl ⟨wgt xs, wgt_pop, as ++ [j], ps, rs ++ [aftW B y], xs, _, _, _, rfl, ⟨List.getElem?_set_self (at_lt g25), f6.at (f5.at h4 (by simp)) (by simp; omega), ((ha4.keep f5).frm f6 o6).app ⟨f6.at (show S5[j]? = some (.ins C (caF B (aftW B y))) from hj) (fun z => ?_), trivial⟩, (hp4.keep f5).frm f6 o6, ?_, ?_, hok2, hL'.stk.2⟩, f6.at (f5.at gt4 (by simp)) (by simp; omega), (Tab.frm f5 (by simp) hT4).frm f6 o6, (fS4.then f5).trans f6 fun j hj => .inr (by rw [List.mem_singleton.mp hj, hl2e]; exact hl2), rfl⟩)
              · rw [List.mem_singleton.mp z] at hj
                rw [show S5[l2]? = some (.ins C (caF B (aftW B y))) from hj] at g25
                cases g25
              · rw [← hall, List.append_assoc]
              · rw [List.length_append]; show rs.length + 1 ≤ 501; omega
            · rw [if_neg cv] at hall
              rw [if_neg (by rw [decide_eq_true_eq]; exact cv)]
              exact hK2 _ _ (.inl ⟨wgt xs, wgt_pop, as, ps, rs, xs, _, _, _, rfl, ⟨g24, h4, ha4, hp4, hall, hL'.len, hok2, hL'.stk.2⟩, gt4, hT4, fS4, rfl⟩)
          | ref n =>
            refine ⟨false, rfl, ?_⟩
            rw [if_neg Bool.false_ne_true]
            obtain ⟨hr, hrn, _⟩ := hO4.ref hB e
            rw [aft_ref hyl e] at hall
            obtain ⟨d, q1, q2⟩ := hT4.2 n.toNat (Nat.zero_le _) hr
            refine ifI ?_
            simp! only []
            show ∃ ds, getL S4 t = some ds ∧ ∃ z, L2.atI ds n = some z ∧ _
            refine ⟨_, getL_iff.mpr gt4, .obj d, by rw [← hrn]; exact atI_nat (by rw [List.getElem?_map, q1]; rfl), _, _, getK_dk q2, rfl, ?_⟩
            have hop : opn B y n.toNat = opn B x n.toNat := opn_congr _ _ (Nat.le_refl _) fun j hj => hS4 n e j hj
            rw [hop] at hall
            rw [if_neg Bool.false_ne_true, val_kT]
            refine ⟨_, rfl, ?_⟩
            by_cases cw : w ∈ opn B x n.toNat
            · rw [if_pos cw] at hall
              rw [if_pos (decide_eq_true cw)]
              refine ⟨.inl ⟨_, h4⟩, ?_⟩
              have e2 : (Itm.ref n).d = .int ((n.toNat : Nat) : Int) := by rw [hrn]; rfl
              have f5 : Frm [] S4 (S4 ++ [Mo.lst ((poss B y n.toNat).map Dv.int)]) := .app
              rw [e2]
              refine eLc_inv (S1 := S4 ++ [Mo.lst ((poss B y n.toNat).map Dv.int)]) (jSeq (.obj S4.length) ((poss B y n.toNat).map Dv.int)) (fun k acc S' => ∃ bs : List Nat, acc = bs.map Dv.obj ∧ CaL C B S' bs (((poss B y n.toNat).take k).map (startC B y n.toNat)) ∧ Frm [] (S4 ++ [Mo.lst ((poss B y n.toNat).map Dv.int)]) S') (hw_seq (fun R hR => ?_) (getL_iff.mpr get_at)) ⟨[], rfl, trivial, ⟨Nat.le_refl _, fun i hi _ => rfl⟩⟩ (fun k acc S' hk ⟨bs, h1, h2, h3⟩ => ⟨getL_iff.mpr (h3.at get_at (by simp)), ?_⟩) ?_ ?_
              · simp! only []
                exact ⟨_, hy4', k4, p, B, y, n.toNat, rfl, hy4, hB, hO4, hr, hR⟩
              · rw [h1, List.length_map, h2.len, List.length_map, List.length_take]
                have := poss_len hB (x := y) hr
                exact small_line (by omega)
              · rintro k d acc S5 hd ⟨bs, rfl, hbs, f55⟩ K1 K0 hK1 hK0
                have hd : ((poss B y n.toNat).map Dv.int)[k]? = some d := hd
                rw [List.getElem?_map] at hd
                obtain ⟨v, hv, rfl⟩ := Option.map_eq_some_iff.mp hd
                have hv2 := hO4.poss (List.mem_of_getElem? hv)
                simp! only []
                refine ⟨_, (f5.then f55).at hy4' (by simp), k5, p, B, y, n.toNat, v, rfl, (f5.then f55).at (show S4[p]? = some (.ins C (caF B y)) from hy4') (by simp), hB, hO4, hr, hv2.1, hv2.2, fun S6 j hj f6 hjl => ?_⟩
                refine hK1 _ _ (.inl ⟨bs ++ [j], by rw [List.map_append]; rfl, ?_, f55.then f6⟩)
                rw [take_succ0 hv, List.map_append]
                exact (hbs.keep f6).app ⟨hj, trivial⟩
              · rintro acc S5 ⟨bs, rfl, hbs, f55⟩
                have e3 : (jSeq (.obj S4.length) ((poss B y n.toNat).map Dv.int)).items.length = (poss B y n.toNat).length := by
                  show ((poss B y n.toNat).map Dv.int).length = _
                  rw [List.length_map]
                rw [e3, List.take_length] at hbs
                have f6 := (f5.then f55).then (Frm.app (T := [Mo.lst (bs.map Dv.obj)]))
                have h6 := f6.at h4 (by simp)
                have hbs6 := hbs.keep (Frm.app (T := [Mo.lst (bs.map Dv.obj)]))
                have hp4l := poss_len hB (x := y) hr
                refine ⟨_, getL_iff.mpr h6, _, getL_iff.mpr get_at, ?_, ?_⟩
                · rw [List.length_map, List.length_map, List.length_reverse, hbs.len, List.length_map, hp4.len]
                  exact Nat.le_of_lt (small_line (by omega))
                have e4 : ps.reverse.map Dv.obj ++ bs.map Dv.obj = (bs.reverse ++ ps).reverse.map Dv.obj := by rw [List.reverse_append, List.reverse_reverse, List.map_append]
                rw [e4]
                generalize S5 ++ [Mo.lst (bs.map Dv.obj)] = S6 at *
                have f7 : Frm [l3] S6 (S6.set l3 (.lst ((bs.reverse ++ ps).reverse.map Dv.obj))) := .set List.mem_cons_self
                have o7 := one_lst h6
                have e5 : ((poss B y n.toNat).map (startC B y n.toNat)).reverse = (poss B y n.toNat).reverse.map (startC B y n.toNat) := by rw [List.map_reverse]
                refine hK2 _ _ (.inl ⟨wgt ((poss B y n.toNat).reverse.map (startC B y n.toNat) ++ xs), wgt_push hyl (by rw [List.length_reverse]; exact hp4l), as, bs.reverse ++ ps, rs, (poss B y n.toNat).reverse.map (startC B y n.toNat) ++ xs, _, _, _, rfl, ⟨f7.at (f6.at g24 (by simp)) (by simp; omega), List.getElem?_set_self (at_lt h6), (ha4.keep f6).frm f7 o7, ?_, ?_, hL'.len, fun z hz => ?_, stk_push hL'.stk.1 hL'.stk.2 _ (by rw [List.length_reverse]; exact hp4l)⟩, f7.at (f6.at gt4 (by simp)) (by simp; omega), (Tab.frm f6 (by simp) hT4).frm f7 o7, (fS4.then f6).trans f7 fun j hj => .inr (by rw [List.mem_singleton.mp hj, hl2e]; exact hl3), rfl⟩)
                · have := (hbs6.frm f7 o7).rev
                  rw [e5] at this
                  exact this.app ((hp4.keep f6).frm f7 o7)
                · rw [← hall, List.flatMap_append, List.flatMap_map]
                · rcases List.mem_append.mp hz with hz | hz
                  · obtain ⟨v, hv, rfl⟩ := List.mem_map.mp hz
                    have hv := List.mem_reverse.mp hv
                    exact ⟨hO4.start hB e hv, hS4.start hB hO4 e hv⟩
                  · exact hok2 z hz
            · rw [if_neg cw] at hall
              rw [if_neg (by rw [decide_eq_true_eq]; exact cw)]
              exact hK2 _ _ (.inl ⟨wgt xs, wgt_pop, as, ps, rs, xs, _, _, _, rfl, ⟨g24, h4, ha4, hp4, hall, hL'.len, hok2, hL'.stk.2⟩, gt4, hT4, fS4, rfl⟩)
  · rintro σ' S2 ⟨as, o3, o4, o5, o6, o7, g2, ha, fS, rfl⟩
    dsimp only
    simp! only []
    exact .inl (h S2 l2 as g2 ha fS hl2)
end K14
set_option Elab.async false
set_option linter.all false
set_option maxRecDepth 100000
set_option maxHeartbeats 2000000
namespace K14
open PySem PySem.Spec D3 K20 K11 K03
theorem sAsg_gen {e : TEd} {k : Nat} {D : EndsD} {σ : Sl} {S : Store} (P : Dv → Store → Prop) (h : ∀ R : KD, (∀ x S', P x S' → R x S') → e σ S R) (q : ∀ x S', P x S' → D.nx (σ.set k (some x)) S') : sAsg e (gNm k) D σ S := h _ q
variable (C : Addr)
def spFilter (CM : Addr) : Spd := fun ds S Q E => ∃ (l : Nat) (as : List Nat) (cs : List Cd) (B : Bk) (w : Str) (W : List Str), ds = [.obj l, .str w] ∧ S[l]? = some (.lst (as.map Dv.obj)) ∧ CaL C B S as cs ∧ BkOk B ∧ (∀ x ∈ cs, COk B x) ∧ Pool B W ∧ W.length < 64 ∧
  ((hear B cs w).length ≤ 500 → ∀ S' j bs, S'[j]? = some (.lst (bs.map Dv.obj)) → CaL C B S' bs (hear B cs w) → Frm [] S S' → S.length ≤ j → Q (.obj j) S') ∧
  (500 < (hear B cs w).length → ∀ S', Frm [] S S' → E ⟨CM, none⟩ S')
theorem hear_take {B : Bk} {cs : List Cd} {w : Str} {k : Nat} : (hear B (cs.take k) w).length ≤ (hear B cs w).length := by
  have e : hear B cs w = hear B (cs.take k) w ++ hear B (cs.drop k) w := by
    unfold hear; rw [← List.flatMap_append, List.take_append_drop]
  rw [e, List.length_append]; omega
theorem r_filter (CM : Addr) : ∀ ds S Qd Ed, spFilter C CM ds S Qd Ed → StClo S → t_filter_candidates C CM (spHear C) (WEx S.length Ed) { nx := fun _ S' => Gc S.length Qd .non S', rt := Gc S.length Qd } (startD 4 ds) S := by
  rintro _ S Qd Ed ⟨l, as, cs, B, w, W, rfl, hl, ha, hB, hO, hW, hWl, h, hE⟩ hc
  have k1 : ∀ {y : Cd}, (caF B y).lookup ("after_hearing" : Str) = none := rfl
  have hll := at_lt hl
  unfold t_filter_candidates
  refine seqI ?_
  simp! only []
  refine seqI ?_
  have hres : (S ++ [Mo.lst []])[S.length]? = some (.lst (([] : List Nat).map Dv.obj)) := get_at
  have f0 : Frm [] S (S ++ [Mo.lst []]) := .app
  generalize S ++ [Mo.lst []] = S0 at *
  have hlr : S.length ≤ S.length := Nat.le_refl _
  generalize hre : S.length = lr at *
  refine sFor_inv (S1 := S0) (jSeq (.obj l) (as.map Dv.obj)) (fun k σ S' => ∃ (bs : List Nat) (o3 : Option Dv), S'[lr]? = some (.lst (bs.map Dv.obj)) ∧ CaL C B S' bs (hear B (cs.take k) w) ∧ (hear B (cs.take k) w).length ≤ 500 ∧ Frm [] S S' ∧ σ = [some (.obj l), some (.str w), some (.obj lr), o3]) (hw_seq (fun R hR => ?_) (getL_iff.mpr (f0.at hl (by simp)))) ⟨[], _, hres, trivial, Nat.zero_le _, f0, rfl⟩ (fun k σ S' _ ⟨_, _, _, _, _, f, _⟩ => getL_iff.mpr (f.at hl (by simp))) ?_ ?_
  · dsimp! only []
    exact hR
  · rintro k d σ S2 hd ⟨bs, o3, g, hb, hn, f, rfl⟩ K hK
    have hd : (as.map Dv.obj)[k]? = some d := hd
    rw [List.getElem?_map] at hd
    obtain ⟨a, hak, rfl⟩ := Option.map_eq_some_iff.mp hd
    obtain ⟨x, hxk, hx⟩ := ha.get hak
    have hxO := hO x (List.mem_of_getElem? hxk)
    have hx2 : CaAt C B S2 a x := f.at (show S[a]? = some (.ins C (caF B x)) from hx) (by simp)
    have hx2' : S2[a]? = some (.ins C (caF B x)) := hx2
    have htk : hear B (cs.take (k + 1)) w = hear B (cs.take k) w ++ aft B w x := by
      unfold hear; rw [take_succ0 hxk, List.flatMap_append, List.flatMap_singleton]
    simp! only []
    refine seqI ?_
    simp! only []
    refine ⟨.inl ⟨_, g⟩, _, hx2', k1, a, B, x, w, W, rfl, hx2, hB, hxO, hW, hWl, fun S3 j cs3 g3 hc3 f3 hj => ?_⟩
    have gr3 := f3.at g (by simp)
    refine ⟨_, getL_iff.mpr gr3, _, getL_iff.mpr g3, ?_, ?_⟩
    · rw [List.length_map, List.length_map, hb.len, hc3.len, List.length_take]
      exact Nat.le_of_lt (small_line (by omega))
    rw [← List.map_append]
    have f4 : Frm [lr] S3 (S3.set lr (.lst ((bs ++ cs3).map Dv.obj))) := .set List.mem_cons_self
    have o4 := one_lst gr3
    have g4 : (S3.set lr (.lst ((bs ++ cs3).map Dv.obj)))[lr]? = some (.lst ((bs ++ cs3).map Dv.obj)) := List.getElem?_set_self (at_lt gr3)
    have ha4 := ((hb.keep f3).frm f4 o4).app (hc3.frm f4 o4)
    have fS : Frm [] S (S3.set lr (.lst ((bs ++ cs3).map Dv.obj))) := (f.then f3).trans f4 fun j hj => .inr (by rw [List.mem_singleton.mp hj, hre]; exact hlr)
    generalize S3.set lr (.lst ((bs ++ cs3).map Dv.obj)) = S4 at *
    refine ifI ?_
    simp! only []
    refine ⟨_, getL_iff.mpr g4, ?_⟩
    rw [List.length_map, ha4.len, List.length_append, List.length_take]
    by_cases c : 500 < (hear B (cs.take (k + 1)) w).length
    · have c2 := c
      rw [htk, List.length_append] at c2
      rw [if_pos (decide_eq_true (by omega))]
      simp! only [sRaise]
      exact .inl (hE (Nat.lt_of_lt_of_le c hear_take) S4 fS)
    · have c2 := c
      rw [htk, List.length_append] at c2
      rw [if_neg (by rw [decide_eq_true_eq]; omega)]
      have e0 : (aft B w x).take 501 = aft B w x := List.take_of_length_le (by omega)
      have e : hear B (cs.take k) w ++ (aft B w x).take 501 = hear B (cs.take (k + 1)) w := by rw [htk, e0]
      rw [e] at ha4
      exact hK _ _ (.inl ⟨_, _, g4, ha4, by omega, fS, rfl⟩)
  · rintro σ S2 ⟨bs, o3, g, hb, hn, f, rfl⟩
    have e : (jSeq (.obj l) (as.map Dv.obj)).items.length = cs.length := by
      show (as.map Dv.obj).length = _
      rw [List.length_map, ha.len]
    rw [e, List.take_length] at hb hn
    simp! only []
    exact .inl (h hn S2 lr bs g hb f hlr)
def certL (B : Bk) (cs : List Cd) : List (Option Int) := (List.range B.length).map fun r => agree (cs.map fun x => known B x r)
theorem bls_map : ∀ bs : List Bool, blsOf (bs.map Dv.bl) = some bs
  | [] => rfl
  | b :: bs => by
    have ih := bls_map bs
    simp only [List.map_cons, blsOf, ih]
    rfl
theorem dEq_oD {a b : Option Int} {S : Store} {Q : KD} (h : Q (.bl (decide (a = b))) S) : dEq (oD a) (oD b) S Q := by
  cases a <;> cases b
  · exact h
  · exact h
  · exact h
  · show Q (.bl (decide _)) S
    simpa using h
def spCert : Spd := fun ds S Q E => ∃ (l : Nat) (as : List Nat) (cs : List Cd) (B : Bk), ds = [bkD B, .obj l] ∧ S[l]? = some (.lst (as.map Dv.obj)) ∧ CaL C B S as cs ∧ BkOk B ∧ (∀ x ∈ cs, COk B x) ∧ cs ≠ [] ∧ cs.length ≤ 500 ∧ ∀ S', Frm [] S S' → Q (osD (certL B cs)) S'
theorem r_cert : ∀ ds S Qd Ed, spCert C ds S Qd Ed → StClo S → t_certain_turns C (spKnown C) (WEx S.length Ed) { nx := fun _ S' => Gc S.length Qd .non S', rt := Gc S.length Qd } (startD 7 ds) S := by
  rintro _ S Qd Ed ⟨l, as, cs, B, rfl, hl, ha, hB, hO, hne, h5, h⟩ hc
  have k1 : ∀ {y : Cd}, (caF B y).lookup ("known_turn" : Str) = none := rfl
  have h60 := hB.le
  unfold t_certain_turns
  refine seqI ?_
  simp! only []
  refine seqI ?_
  have hres : (S ++ [Mo.lst []])[S.length]? = some (.lst (([] : List (Option Int)).map oD)) := get_at
  have f0 : Frm [] S (S ++ [Mo.lst []]) := .app
  generalize S ++ [Mo.lst []] = S0 at *
  have hlr : S.length ≤ S.length := Nat.le_refl _
  generalize hre : S.length = lr at *
  refine sFor_inv (S1 := S0) (jRg B.length) (fun k σ S' => ∃ (o3 o4 : Option Dv) (o5 o6 : Option Dv), S'[lr]? = some (.lst (((List.range k).map fun r => agree (cs.map fun x => known B x r)).map oD)) ∧ Frm [] S S' ∧ σ = [some (bkD B), some (.obj l), some (.obj lr), o3, o4, o5, o6]) (hw_rg1 (fun R hR => ?_) (by omega)) ⟨_, _, _, _, hres, f0, rfl⟩ (fun _ _ _ _ _ => trivial) ?_ ?_
  · simp! only [bkD]
    rw [List.length_map]
    exact hR
  · rintro r d σ S2 hd ⟨o3, o4, o5, o6, g, f, rfl⟩ K hK
    obtain ⟨hr, rfl⟩ := jRg_get hd
    simp! only []
    refine seqI ?_
    refine sAsg_gen (fun d S' => ∃ j, d = .obj j ∧ S'[j]? = some (.lst ((cs.map fun x => known B x r).map oD)) ∧ Frm [] S2 S') (fun R hR => ?_) ?_
    · refine eLc_inv (S1 := S2) (jSeq (.obj l) (as.map Dv.obj)) (fun k acc S' => acc = ((cs.take k).map fun x => known B x r).map oD ∧ Frm [] S2 S') (hw_seq (fun R hR => ?_) (getL_iff.mpr (f.at hl (by simp)))) ⟨rfl, ⟨Nat.le_refl _, fun i hi _ => rfl⟩⟩ (fun k acc S' hk ⟨h1, h2⟩ => ⟨getL_iff.mpr ((f.then h2).at hl (by simp)), ?_⟩) ?_ ?_
      · dsimp! only []
        exact hR
      · rw [h1, List.length_map, List.length_map, List.length_take]
        exact small_line (by omega)
      · rintro k d acc S3 hd ⟨rfl, f3⟩ K1 K0 hK1 hK0
        have hd : (as.map Dv.obj)[k]? = some d := hd
        rw [List.getElem?_map] at hd
        obtain ⟨a, hak, rfl⟩ := Option.map_eq_some_iff.mp hd
        obtain ⟨x, hxk, hx⟩ := ha.get hak
        have hx3 : S3[a]? = some (.ins C (caF B x)) := (f.then f3).at (show S[a]? = some (.ins C (caF B x)) from hx) (by simp)
        simp! only []
        refine ⟨_, hx3, k1, a, B, x, r, rfl, hx3, hO x (List.mem_of_getElem? hxk), hr, hK1 _ _ (.inl ⟨?_, f3⟩)⟩
        rw [take_succ0 hxk, List.map_append, List.map_append]
        rfl
      · rintro acc S3 ⟨rfl, f3⟩
        have e : (jSeq (.obj l) (as.map Dv.obj)).items.length = cs.length := by
          show (as.map Dv.obj).length = _
          rw [List.length_map, ha.len]
        rw [e, List.take_length]
        exact hR _ _ ⟨S3.length, rfl, get_at, f3.then .app⟩
    rintro d S3 ⟨j, rfl, gj, f3⟩
    simp! only []
    have gl3 := f3.at g (by simp)
    have hlen : (cs.map fun x => known B x r).length ≤ 500 := by rw [List.length_map]; exact h5
    have hnn : (cs.map fun x => known B x r) ≠ [] := fun z => hne (List.map_eq_nil_iff.mp z)
    have hstep : agree (cs.map fun x => known B x r) = agree (cs.map fun x => known B x r) := rfl
    have hrs : ((List.range (r + 1)).map fun r => agree (cs.map fun x => known B x r)).map oD = ((List.range r).map fun r => agree (cs.map fun x => known B x r)).map oD ++ [oD (agree (cs.map fun x => known B x r))] := by
      rw [List.range_succ, List.map_append, List.map_append]; rfl
    rw [hrs] at hK
    generalize (cs.map fun x => known B x r) = L at *
    have q0 : L2.atI (L.map oD) (0 : Int) = some (oD (L.getD 0 none)) := by
      cases L with
      | nil => exact absurd rfl hnn
      | cons o L => exact atI_nat (i := 0) rfl
    refine ⟨.inl ⟨_, gl3⟩, ?_⟩
    refine eLc_inv (S1 := S3) (jSeq (.obj j) (L.map oD)) (fun k acc S' => acc = ((L.take k).map fun o => decide (o = L.getD 0 none)).map Dv.bl ∧ Frm [] S3 S') (hw_seq (fun R hR => ?_) (getL_iff.mpr gj)) ⟨rfl, ⟨Nat.le_refl _, fun i hi _ => rfl⟩⟩ (fun k acc S' hk ⟨h1, h2⟩ => ⟨getL_iff.mpr (h2.at gj (by simp)), ?_⟩) ?_ ?_
    · dsimp! only []
      exact hR
    · rw [h1, List.length_map, List.length_map, List.length_take]
      exact small_line (by omega)
    · rintro k d acc S4 hd ⟨rfl, f4⟩ K1 K0 hK1 hK0
      have hd : (L.map oD)[k]? = some d := hd
      rw [List.getElem?_map] at hd
      obtain ⟨o, hok, rfl⟩ := Option.map_eq_some_iff.mp hd
      simp! only []
      refine ⟨_, getL_iff.mpr (f4.at gj (by simp)), _, q0, dEq_oD (hK1 _ _ (.inl ⟨?_, f4⟩))⟩
      rw [take_succ0 hok, List.map_append, List.map_append]
      rfl
    · rintro acc S4 ⟨rfl, f4⟩
      have e : (jSeq (.obj j) (L.map oD)).items.length = L.length := by
        show (L.map oD).length = _
        rw [List.length_map]
      rw [e, List.take_length]
      have f5 : Frm [] S3 (S4 ++ [Mo.lst ((L.map fun o => decide (o = L.getD 0 none)).map Dv.bl)]) := f4.then .app
      refine ⟨_, getL_iff.mpr get_at, _, bls_map _, ?_⟩
      have hga : (L.map fun o => decide (o = L.getD 0 none)).all id = L.all fun o => decide (o = L.getD 0 none) := by rw [List.all_map]; rfl
      rw [hga]
      have gl5 := f5.at gl3 (by simp)
      have gj5 := f5.at gj (by simp)
      have hfin : Frm [] S ((S4 ++ [Mo.lst ((L.map fun o => decide (o = L.getD 0 none)).map Dv.bl)]).set lr (.lst (((List.range r).map fun r => agree (cs.map fun x => known B x r)).map oD ++ [oD (agree L)]))) := ((f.then f3).then f5).trans (Frm.set (F := [lr]) List.mem_cons_self) fun j hj => .inr (by rw [List.mem_singleton.mp hj, hre]; exact hlr)
      have hsl : (((List.range r).map fun r => agree (cs.map fun x => known B x r)).map oD).length < sizeLine := by
        rw [List.length_map, List.length_map, List.length_range]; exact small_line (by omega)
      by_cases ca : (L.all fun o => decide (o = L.getD 0 none)) = true
      · rw [if_pos ca]
        have ea : agree L = L.getD 0 none := if_pos ca
        rw [ea] at hK hfin
        exact ⟨_, getL_iff.mpr gj5, _, q0, _, getL_iff.mpr gl5, hsl, hK _ _ (.inl ⟨_, _, _, _, List.getElem?_set_self (at_lt gl5), hfin, rfl⟩)⟩
      · rw [if_neg ca]
        have ea : agree L = none := if_neg ca
        rw [ea] at hK hfin
        exact ⟨_, getL_iff.mpr gl5, hsl, hK _ _ (.inl ⟨_, _, _, _, List.getElem?_set_self (at_lt gl5), hfin, rfl⟩)⟩
  · rintro σ S2 ⟨o3, o4, o5, o6, g, f, rfl⟩
    rw [jRg_len] at g
    simp! only []
    refine ⟨_, getL_iff.mpr g, ?_⟩
    exact .inl (h S2 f)
end K14
set_option Elab.async false
set_option linter.all false
set_option maxRecDepth 100000
set_option maxHeartbeats 2000000
namespace K14
open PySem PySem.Spec D3 K20 K11 K03
open PyProof.Rows (sortedS)
theorem foll_pool {B : Bk} (hB : BkOk B) {W : List Str} (hW : Pool B W) {x : Cd} (hO : COk B x) : ∀ w ∈ foll B x, w ∈ W := by
  intro w hw
  unfold foll at hw
  cases e : curIt B x with
  | ref n =>
    rw [e] at hw
    exact opn_pool hB hW hO _ _ (Nat.le_refl _) (hO.ref hB e).1 w hw
  | wd y =>
    rw [e] at hw
    have hw : w = y := List.mem_singleton.mp hw
    unfold curIt at e
    cases e2 : x.e with
    | nil => rw [e2] at e; cases e
    | cons z st =>
      rw [e2] at e
      have e : itAt B z = .wd y := e
      obtain ⟨h1, h2, h3⟩ := (hO.e z (by rw [e2]; exact List.mem_cons_self)).mem
      rw [e] at h3
      rw [hw]
      exact hW _ (List.mem_of_getElem? h1) _ h2 y h3
theorem sum_cast : ∀ l : List Nat, (l.map fun n : Nat => (n : Int)).sum = ((l.sum : Nat) : Int)
  | [] => rfl
  | n :: l => by rw [List.map_cons, List.sum_cons, List.sum_cons, sum_cast]; omega
theorem eGen {e : TEd} {σ : Sl} {S : Store} {Q : KD} (P : Dv → Store → Prop) (h : ∀ R : KD, (∀ x S', P x S' → R x S') → e σ S R) (q : ∀ x S', P x S' → Q x S') : e σ S Q := h Q q
def NotMany (B : Bk) (ws : List Str) : Prop := ∀ k, k ≤ ws.length → (cands B (ws.take k)).length ≤ 500
/-- a comprehension of pairs over a list of words -/
theorem sp_lc_foll {wi : TId} {σ : Sl} {S : Store} {B : Bk} {x : Cd} {R : KD} {o0 o1 o2 o3 o4 o5 o6 : Option Dv} (hσ : σ = [o0, o1, o2, o3, o4, o5, o6]) (hwi : ∀ K : Itd → Store → Prop, (∀ S1 j (ys : List Str), S1[j]? = some (.lst (ys.map Dv.str)) → (∀ w, w ∈ ys ↔ w ∈ foll B x) → ys.length < 64 → Frm [] S S1 → S.length ≤ j → K (jSeq (.obj j) (ys.map Dv.str)) S1) → wi σ S K)
    (q : ∀ S7 i2 (ys : List Str), S7[i2]? = some (.lst ((ys.map kT).map prKD)) → (∀ w, w ∈ ys ↔ w ∈ foll B x) → ys.length < 64 → Frm [] S S7 → S.length ≤ i2 → R (.obj i2) S7) :
    eLc wi (Tg.one 4) cYes (eTup (aCons (eVar 4) (aCons (eC (.bl true)) aNil))) [4] σ S R := by
  subst hσ
  unfold eLc
  refine hwi _ fun S1 j ys g hys hyl f hj => ⟨fun k acc S' => acc = ((ys.take k).map kT).map prKD ∧ Frm [] S1 S', ⟨rfl, ⟨Nat.le_refl _, fun i hi _ => rfl⟩⟩, fun k acc S' hk ⟨h1, h2⟩ => ⟨getL_iff.mpr (h2.at g (by simp)), ?_⟩, ?_, ?_⟩
  · rw [h1, List.length_map, List.length_map, List.length_take]
    exact small_line (by omega)
  · rintro k d acc S2 hd ⟨rfl, f2⟩
    have hd : (ys.map Dv.str)[k]? = some d := hd
    rw [List.getElem?_map] at hd
    obtain ⟨w, hwk, rfl⟩ := Option.map_eq_some_iff.mp hd
    simp! only []
    refine .inl ⟨?_, f2⟩
    rw [take_succ0 hwk, List.map_append, List.map_append]
    rfl
  · rintro acc S2 ⟨rfl, f2⟩
    have e : (jSeq (.obj j) (ys.map Dv.str)).items.length = ys.length := by
      show (ys.map Dv.str).length = _
      rw [List.length_map]
    rw [e, List.take_length]
    exact q _ _ ys get_at hys hyl ((f.then f2).then .app) (f.then f2).len
variable (C : Addr)
def spInfer (CW CM : Addr) : Spd := fun ds S Q E => ∃ (B : Bk) (jl : Nat) (ws W : List Str), ds = [bkD B, .obj jl] ∧ S[jl]? = some (.lst (ws.map Dv.str)) ∧ BkOk B ∧ Pool B W ∧ W.length < 64 ∧ ws.length < 1000 ∧
  (60 < ws.length → ∀ S', Frm [] S S' → E ⟨CW, none⟩ S') ∧ (ws.length ≤ 60 → ¬ NotMany B ws → ∀ S', Frm [] S S' → E ⟨CM, none⟩ S') ∧
  (ws.length ≤ 60 → NotMany B ws → (cands B ws = [] → ∀ S' j, S'[j]? = some (.lst []) → Frm [] S S' → S.length ≤ j → Q (.tup [.int 0, .non, .obj j]) S') ∧
    (cands B ws ≠ [] → ∀ S' j (ys : List Str), S'[j]? = some (.lst (ys.map Dv.str)) → sortedS ys = true → ys.Nodup → (∀ w, w ∈ ys ↔ ∃ x ∈ cands B ws, w ∈ foll B x) → Frm [] S S' → S.length ≤ j → Q (.tup [.int (((cands B ws).map (szC B)).sum : Nat), osD (certL B (cands B ws)), .obj j]) S'))
theorem r_infer (CW CM : Addr) : ∀ ds S Qd Ed, spInfer CW CM ds S Qd Ed → StClo S → t_infer_turns C CW K20.spValidateBook (spCInit C) (spFilter C CM) (spFoll C) (spSizeC C) (spCert C) (WEx S.length Ed) { nx := fun _ S' => Gc S.length Qd .non S', rt := Gc S.length Qd } (startD 7 ds) S := by
  rintro _ S Qd Ed ⟨B, jl, ws, W, rfl, hL, hB, hW, hWl, hwl, hE1, hE2, h⟩ hc
  have k1 : ∀ {y : Cd}, (caF B y).lookup ("following_words" : Str) = none := rfl
  have k2 : ∀ {y : Cd}, (caF B y).lookup ("size" : Str) = none := rfl
  have h60 := hB.le
  have hpos := hB.pos
  unfold t_infer_turns
  refine seqI ?_
  simp! only []
  refine ⟨B, rfl, hB, ?_⟩
  refine seqI (ifI ?_)
  simp! only []
  refine ⟨_, getL_iff.mpr hL, ?_⟩
  rw [List.length_map]
  by_cases c60 : 60 < ws.length
  · rw [if_pos (decide_eq_true (by omega))]
    simp only [sRaise]
    exact .inl (hE1 c60 S ⟨Nat.le_refl _, fun i hi _ => rfl⟩)
  rw [if_neg (by rw [decide_eq_true_eq]; omega)]
  have c60 : ws.length ≤ 60 := by omega
  refine seqI ?_
  simp! only [dMulT, bkD]
  rw [List.length_map]
  refine ⟨?_, by omega, by omega, ?_⟩
  · exact fun z => by cases z
  rw [show List.replicate B.length Dv.non = (List.replicate B.length (none : Option Int)).map oD by rw [List.map_replicate]; rfl]
  refine seqI ?_
  simp! only []
  refine ⟨S.length, B, c0 B, rfl, get_at, fun S1 hx1 f1 => ⟨rfl, ?_⟩⟩
  have l1 := f1.len
  rw [List.length_append, List.length_singleton] at l1
  have fS1 : Frm [] S S1 := (Frm.app (F := [])).trans f1 fun j hj => .inr (by rw [List.mem_singleton.mp hj]; exact Nat.le_refl _)
  have g2 : (S1 ++ [Mo.lst [.obj S.length]])[S1.length]? = some (.lst (([S.length] : List Nat).map Dv.obj)) := get_at
  have hx2 : CaL C B (S1 ++ [Mo.lst [.obj S.length]]) [S.length] (cands B (ws.take 0)) := ⟨get_old (show S1[S.length]? = some (.ins C (caF B (c0 B))) from hx1), trivial⟩
  have fS2 : Frm [] S (S1 ++ [Mo.lst [.obj S.length]]) := fS1.then .app
  have hj1 : S.length ≤ S1.length := by omega
  generalize S1 ++ [Mo.lst [.obj S.length]] = S2 at *
  generalize [S.length] = as0 at *
  generalize S1.length = j1 at *
  clear hx1 f1 l1 fS1
  refine seqI ?_
  refine sFor_inv (S1 := S2) (jSeq (.obj jl) (ws.map Dv.str)) (fun k σ S' => ∃ (j : Nat) (as : List Nat) (o4 o5 o6 : Option Dv), S'[j]? = some (.lst (as.map Dv.obj)) ∧ CaL C B S' as (cands B (ws.take k)) ∧ (∀ m, m ≤ k → m ≤ ws.length → (cands B (ws.take m)).length ≤ 500) ∧ Frm [] S S' ∧ σ = [some (bkD B), some (.obj jl), some (.tup ((List.replicate B.length none).map oD)), some (.obj j), o4, o5, o6]) (hw_seq (fun R hR => ?_) (getL_iff.mpr (fS2.at hL (by simp)))) ⟨j1, as0, _, _, _, g2, hx2, fun m h1 h2 => ?_, fS2, rfl⟩ (fun k σ S' _ ⟨_, _, _, _, _, _, _, _, f, _⟩ => getL_iff.mpr (f.at hL (by simp))) ?_ ?_
  · dsimp! only []
    exact hR
  · obtain rfl : m = 0 := by omega
    show 1 ≤ 500
    omega
  · rintro k d σ S3 hd ⟨j, as, o4, o5, o6, g, ha, hm, f, rfl⟩ K hK
    have hd : (ws.map Dv.str)[k]? = some d := hd
    rw [List.getElem?_map] at hd
    obtain ⟨w, hwk, rfl⟩ := Option.map_eq_some_iff.mp hd
    have hkl := at_lt hwk
    have htk : cands B (ws.take (k + 1)) = hear B (cands B (ws.take k)) w := by rw [take_succ0 hwk, cands_snoc]
    have hgrp := grp hB _ (ws.take k) rfl
    simp! only []
    refine ⟨j, as, _, B, w, W, rfl, g, ha, hB, hgrp.ok, hW, hWl, fun hle S4 j4 bs g4 hb4 f4 hj4 => ?_, fun hgt S4 f4 => ?_⟩
    · rw [← htk] at hb4 hle
      refine hK _ _ (.inl ⟨j4, bs, _, _, _, g4, hb4, fun m h1 h2 => ?_, f.then f4, rfl⟩)
      by_cases c : m = k + 1
      · rw [c]; exact hle
      · exact hm m (by omega) h2
    · rw [← htk] at hgt
      exact .inl (hE2 c60 (fun z => by have := z (k + 1) hkl; omega) S4 (f.then f4))
  · rintro σ S3 ⟨j, as, o4, o5, o6, g, ha, hm, f, rfl⟩
    have e : (jSeq (.obj jl) (ws.map Dv.str)).items.length = ws.length := by
      show (ws.map Dv.str).length = _
      rw [List.length_map]
    rw [e] at hm ha
    rw [List.take_length] at ha
    obtain ⟨hn, hr⟩ := h c60 fun k hk => hm k hk hk
    have h500 := hm ws.length (Nat.le_refl _) (Nat.le_refl _)
    rw [List.take_length] at h500
    have hgrp := grp hB _ ws rfl
    have hOk := hgrp.ok
    generalize cands B ws = cs at *
    dsimp only
    refine seqI (ifI ?_)
    simp! only []
    have g' := get_old (T := [Mo.lst []]) g
    refine dEqE_l g' get_at ?_
    have ha' := ha.keep (Frm.app (T := [Mo.lst []]))
    have f' := f.then (Frm.app (T := [Mo.lst []]))
    cases cs with
    | nil =>
      have : as = [] := List.length_eq_zero_iff.mp ha.len
      subst this
      refine ⟨true, rfl, ?_⟩
      rw [if_pos rfl]
      simp! only []
      have := f.len
      exact .inl (hn rfl _ _ (by rw [st_getk]; rfl) (f.then .app) (by omega))
    | cons x0 cs0 =>
      have hne : x0 :: cs0 ≠ [] := fun z => by cases z
      have hr := hr hne
      have hase : (as.map Dv.obj).isEmpty = false := by
        cases as with
        | nil => exact ha.elim
        | cons _ _ => rfl
      rw [hase]
      refine ⟨false, rfl, ?_⟩
      rw [if_neg Bool.false_ne_true]
      generalize x0 :: cs0 = cs at *
      generalize S3 ++ [Mo.lst []] = S4 at *
      refine seqI ?_
      simp! only []
      have hcl : CaL C B (S4 ++ [Mo.dk []]) as cs := ha'.keep .app
      have g5 := get_old (T := [Mo.dk []]) g'
      have gd5 : (S4 ++ [Mo.dk []])[S4.length]? = some (.dk (([] : List Str).map kT)) := get_at
      have f5 := f'.then (Frm.app (T := [Mo.dk []]))
      have hld : S.length ≤ S4.length := f'.len
      have hjd : j < S4.length := at_lt g'
      generalize S4 ++ [Mo.dk []] = S5 at *
      generalize S4.length = d5 at *
      clear ha ha' g g' f f' hm
      refine seqI ?_
      refine sFor_inv (S1 := S5) (jSeq (.obj j) (as.map Dv.obj)) (fun k σ S' => ∃ (acc : List Str) (o4 o6 : Option Dv), S'[d5]? = some (.dk (acc.map kT)) ∧ acc.Nodup ∧ (∀ w, w ∈ acc ↔ ∃ x ∈ cs.take k, w ∈ foll B x) ∧ Frm [d5] S5 S' ∧ σ = [some (bkD B), some (.obj jl), some (.tup ((List.replicate B.length none).map oD)), some (.obj j), o4, some (.obj d5), o6]) (hw_seq (fun R hR => ?_) (getL_iff.mpr g5)) ⟨[], _, _, gd5, List.nodup_nil, fun w => ⟨fun z => (by cases z), fun ⟨x, hx, _⟩ => (by cases hx)⟩, ⟨Nat.le_refl _, fun i hi _ => rfl⟩, rfl⟩ (fun k σ S' _ ⟨_, _, _, _, _, _, f, _⟩ => getL_iff.mpr (f.at g5 (by simp; omega))) ?_ ?_
      · dsimp! only []
        exact hR
      · rintro k d σ S6 hd ⟨acc, o4, o6, gd6, hnd, hacc, f6, rfl⟩ K hK
        have hd : (as.map Dv.obj)[k]? = some d := hd
        rw [List.getElem?_map] at hd
        obtain ⟨a, hak, rfl⟩ := Option.map_eq_some_iff.mp hd
        obtain ⟨x, hxk, hx⟩ := hcl.get hak
        have hxO := hOk x (List.mem_of_getElem? hxk)
        have had : a ≠ d5 := fun z => by
          have h1 : S5[a]? = some (.ins C (caF B x)) := hx
          rw [z, gd5] at h1; cases h1
        have hx6 : S6[a]? = some (.ins C (caF B x)) := f6.at (show S5[a]? = some (.ins C (caF B x)) from hx) (by simp; exact had)
        have haccl : acc.length ≤ W.length := nodup_len hnd fun w hw => by
          obtain ⟨z, hz, hw⟩ := (hacc w).mp hw
          exact foll_pool hB hW (hOk z (List.mem_of_mem_take hz)) w hw
        simp! only []
        refine ⟨.inr ⟨_, gd6⟩, ?_⟩
        refine eGen (fun d S' => ∃ (i2 : Nat) (ys : List Str), d = .obj i2 ∧ S'[i2]? = some (.lst ((ys.map kT).map prKD)) ∧ (∀ w, w ∈ ys ↔ w ∈ foll B x) ∧ ys.length < 64 ∧ Frm [] S6 S' ∧ S6.length ≤ i2) (fun R hR => ?_) ?_
        · refine sp_lc_foll rfl (B := B) (x := x) (fun K hK => ?_) fun S7 i2 ys g7 hys hyl f7 hi2 => hR _ _ ⟨i2, ys, rfl, g7, hys, hyl, f7, hi2⟩
          simp! only [iSeq]
          refine ⟨_, hx6, k1, a, B, x, W, rfl, hx6, hB, hxO, hW, hWl, fun S7 j7 ys g7 hys hyl f7 hj7 => ⟨_, getL_iff.mpr g7, hK S7 j7 ys g7 hys hyl f7 hj7⟩⟩
        · rintro d S7 ⟨i2, ys, rfl, g7, hys, hyl, f7, hi2⟩
          have gd7 := f7.at gd6 (by simp)
          have hit : ∀ w, w ∈ ys.foldl addK acc ↔ ∃ x ∈ cs.take (k + 1), w ∈ foll B x := fun w => by
            rw [mem_foldK, hacc, hys, take_succ0 hxk]
            constructor
            · rintro (⟨z, hz, hw⟩ | hw)
              · exact ⟨z, List.mem_append_left _ hz, hw⟩
              · exact ⟨x, List.mem_append_right _ (List.mem_singleton.mpr rfl), hw⟩
            · rintro ⟨z, hz, hw⟩
              rcases List.mem_append.mp hz with hz | hz
              · exact .inl ⟨z, hz, hw⟩
              · rw [List.mem_singleton.mp hz] at hw
                exact .inr hw
          refine ⟨acc.map kT, ys.map kT, gd7, ?_, .inr (getL_iff.mpr g7), ?_⟩
          · rw [List.length_map, List.length_map]
            exact Nat.le_of_lt (small_line (by omega))
          rw [merge_kT]
          exact hK _ _ (.inl ⟨ys.foldl addK acc, _, _, List.getElem?_set_self (at_lt gd7), nod_foldK hnd, hit, (f6.trans f7 (by simp)).then (.set List.mem_cons_self), rfl⟩)
      · rintro σ S6 ⟨acc, o4, o6, gd6, hnd, hacc, f6, rfl⟩
        have e : (jSeq (.obj j) (as.map Dv.obj)).items.length = cs.length := by
          show (as.map Dv.obj).length = _
          rw [List.length_map, hcl.len]
        rw [e, List.take_length] at hacc
        have haccl : acc.length ≤ W.length := nodup_len hnd fun w hw => by
          obtain ⟨z, hz, hw⟩ := (hacc w).mp hw
          exact foll_pool hB hW (hOk z hz) w hw
        have g6 := f6.at g5 (by simp; omega)
        have hF6 : ∀ {a : Nat} {x : Cd}, S5[a]? = some (.ins C (caF B x)) → S6[a]? = some (.ins C (caF B x)) := fun {a x} hx => f6.at hx (by
          simp
          intro z
          rw [z, gd5] at hx; cases hx)
        have hcl6 : ∀ {as : List Nat} {cs : List Cd}, CaL C B S5 as cs → CaL C B S6 as cs := by
          intro as
          induction as with
          | nil => intro cs h; cases cs with
            | nil => trivial
            | cons _ _ => exact h.elim
          | cons a as ih => intro cs h; cases cs with
            | nil => exact h.elim
            | cons x cs => exact ⟨hF6 h.1, ih h.2⟩
        have fS6 : Frm [] S S6 := f5.trans f6 fun j hj => .inr (by rw [List.mem_singleton.mp hj]; exact hld)
        have hc6 := hcl6 hcl
        simp! only []
        refine eLc_inv (S1 := S6) (jSeq (.obj j) (as.map Dv.obj)) (fun k acc S' => acc = ((cs.take k).map fun x => (szC B x : Int)).map Dv.int ∧ Frm [] S6 S') (hw_seq (fun R hR => ?_) (getL_iff.mpr g6)) ⟨rfl, ⟨Nat.le_refl _, fun i hi _ => rfl⟩⟩ (fun k acc S' hk ⟨h1, h2⟩ => ⟨getL_iff.mpr (h2.at g6 (by simp)), ?_⟩) ?_ ?_
        · dsimp! only []
          exact hR
        · rw [h1, List.length_map, List.length_map, List.length_take]
          exact small_line (by omega)
        · rintro k d acc S7 hd ⟨rfl, f7⟩ K1 K0 hK1 hK0
          have hd : (as.map Dv.obj)[k]? = some d := hd
          rw [List.getElem?_map] at hd
          obtain ⟨a, hak, rfl⟩ := Option.map_eq_some_iff.mp hd
          obtain ⟨x, hxk, hx⟩ := hc6.get hak
          have hx7 : S7[a]? = some (.ins C (caF B x)) := f7.at (show S6[a]? = some (.ins C (caF B x)) from hx) (by simp)
          simp! only []
          refine ⟨_, hx7, k2, a, B, x, rfl, hx7, hB, hOk x (List.mem_of_getElem? hxk), hK1 _ _ (.inl ⟨?_, f7⟩)⟩
          rw [take_succ0 hxk, List.map_append, List.map_append]
          rfl
        · rintro acc' S7 ⟨rfl, f7⟩
          rw [e, List.take_length]
          have f8 := f7.then (Frm.app (T := [Mo.lst ((cs.map fun x => (szC B x : Int)).map Dv.int)]))
          refine ⟨_, getL_iff.mpr get_at, _, intsOf_map _, j, as, cs, B, rfl, f8.at g6 (by simp), hc6.keep f8, hB, hOk, hne, h500, fun S9 f9 => ?_⟩
          have f9' := f8.then f9
          refine ⟨_, acc, getK_dk (f9'.at gd6 (by simp)), by rw [List.map_map]; rfl, by omega, fun ys hp hs => ?_⟩
          have hsum : (cs.map fun x => (szC B x : Int)).sum = (((cs.map (szC B)).sum : Nat) : Int) := by
            rw [← sum_cast, List.map_map]; rfl
          rw [hsum]
          exact .inl (hr _ _ ys get_at hs (hp.nodup_iff.mpr hnd) (fun w => (hp.mem_iff).trans (hacc w)) ((fS6.then f9').then .app) (fS6.then f9').len)
end K14
set_option Elab.async false
set_option linter.all false
set_option maxRecDepth 100000
set_option maxHeartbeats 2000000
namespace K14
open PySem PySem.Spec D3 K20 K11
open K03 hiding SameD spAl alS same_refl
def SameD (S : Store) : Nat → Dv → Dv → Prop
  | _, .int i, .int j => i = j
  | _, .str a, .str b => a = b
  | _, .non, .non => True
  | n + 1, .tup xs, .tup ys => xs.length < 100000 ∧ xs.length = ys.length ∧ ∀ (k : Nat) x y, xs[k]? = some x → ys[k]? = some y → SameD S n x y
  | n + 1, .obj i, .obj j => ∃ xs ys, getL S i = some xs ∧ getL S j = some ys ∧ xs.length < 100000 ∧ xs.length = ys.length ∧ ∀ (k : Nat) x y, xs[k]? = some x → ys[k]? = some y → SameD S n x y
  | _, _, _ => False
def spAl (n : Nat) : Spd := fun ds S Q E => ∃ x y, ds = [x, y] ∧ SameD S n x y ∧ Q (.bl true) S
theorem r_al (n : Nat) : ∀ ds S Qd Ed, spAl n ds S Qd Ed → StClo S → t_Lalike (spAl (n - 1)) (WEx S.length Ed) { nx := fun _ S' => Gc S.length Qd .non S', rt := Gc S.length Qd } (startD 3 ds) S := by
  rintro _ S Qd Ed ⟨x, y, rfl, hd, h⟩ hc
  unfold t_Lalike
  cases y with
  | int j =>
    cases x with
    | int i =>
      have e : i = j := by cases n <;> exact hd
      subst e
      dsimp! only []
      exact .inl h
    | _ => cases n <;> cases hd
  | str b =>
    cases x with
    | str a =>
      have e : a = b := by cases n <;> exact hd
      subst e
      dsimp! only []
      exact .inl h
    | _ => cases n <;> cases hd
  | tup ys =>
    cases x with
    | tup xs =>
      cases n with
      | zero => cases hd
      | succ n =>
        obtain ⟨h1, h2, h3⟩ := hd
        have h2' : (xs.length : Int) = (ys.length : Int) := by omega
        dsimp! only [h2']
        refine sFor_inv (S1 := S) (jRg ys.length) (fun i σ S' => S' = S ∧ ∃ o, σ = [some (.tup xs), some (.tup ys), o]) (hw_rg1 (fun R hR => ?_) (by omega)) ⟨rfl, _, rfl⟩ (fun _ _ _ _ _ => trivial) ?_ ?_
        · dsimp! only []
          exact hR
        · rintro k d σ S' hd2 ⟨rfl, o, rfl⟩ K hK
          obtain ⟨hk, rfl⟩ := jRg_get hd2
          have hyk : ys[k]? = some ys[k] := List.getElem?_eq_getElem hk
          have hxk : xs[k]? = some (xs[k]'(by omega)) := List.getElem?_eq_getElem _
          dsimp! only [atI_nat hyk, atI_nat hxk]
          refine ⟨_, _, rfl, h3 k _ _ hxk hyk, true, rfl, ?_⟩
          dsimp! only []
          exact hK _ _ (.inl ⟨rfl, _, rfl⟩)
        · rintro σ S' ⟨rfl, o, rfl⟩
          dsimp! only []
          exact .inl h
    | _ => cases n <;> cases hd
  | obj j =>
    cases x with
    | obj i =>
      cases n with
      | zero => cases hd
      | succ n =>
        obtain ⟨xs, ys, g1, g2, h1, h2, h3⟩ := hd
        have h2' : (xs.length : Int) = (ys.length : Int) := by omega
        have g1' := getL_iff.mp g1
        have g2' := getL_iff.mp g2
        dsimp! only [h2', g1, g2, g1', g2']
        refine sFor_inv (S1 := S) (jRg ys.length) (fun m σ S' => S' = S ∧ ∃ o, σ = [some (.obj i), some (.obj j), o]) (hw_rg1 (fun R hR => ?_) (by omega)) ⟨rfl, _, rfl⟩ (fun _ _ _ _ _ => trivial) ?_ ?_
        · dsimp! only [g2]
          exact hR
        · rintro k d σ S' hd2 ⟨rfl, o, rfl⟩ K hK
          obtain ⟨hk, rfl⟩ := jRg_get hd2
          have hyk : ys[k]? = some ys[k] := List.getElem?_eq_getElem hk
          have hxk : xs[k]? = some (xs[k]'(by omega)) := List.getElem?_eq_getElem _
          dsimp! only [g1, g2, atI_nat hyk, atI_nat hxk]
          refine ⟨_, _, rfl, h3 k _ _ hxk hyk, true, rfl, ?_⟩
          dsimp! only []
          exact hK _ _ (.inl ⟨rfl, _, rfl⟩)
        · rintro σ S' ⟨rfl, o, rfl⟩
          dsimp! only []
          exact .inl h
    | _ => cases n <;> cases hd
  | non =>
    cases x with
    | non =>
      dsimp! only []
      exact .inl h
    | _ => cases n <;> cases hd
  | _ => cases n <;> cases x <;> cases hd
def alS : Nat → Dv → Bool
  | _, .int _ => true
  | _, .str _ => true
  | _, .non => true
  | n + 1, .tup ds => decide (ds.length < 100000) && ds.all (alS n)
  | _, _ => false
theorem same_refl {S : Store} : ∀ (n : Nat) (d : Dv), alS n d = true → SameD S n d d
  | n, .int _, _ => by cases n <;> rfl
  | n, .str _, _ => by cases n <;> rfl
  | n + 1, .tup ds, h => by
    have h' : (decide (ds.length < 100000) && ds.all (alS n)) = true := h
    rw [Bool.and_eq_true, decide_eq_true_eq] at h'
    refine ⟨h'.1, rfl, fun k x y hx hy => ?_⟩
    rw [hx] at hy
    cases hy
    exact same_refl n x (List.all_eq_true.mp h'.2 _ (List.mem_of_getElem? hx))
  | 0, .tup ds, h => by cases h
  | n, .non, _ => by cases n <;> trivial
  | n, .bl _, h => by cases n <;> cases h
  | n, .byt _, h => by cases n <;> cases h
  | n, .fls _, h => by cases n <;> cases h
  | n, .obj _, h => by cases n <;> cases h
  | n, .ty _, h => by cases n <;> cases h
  | n, .adr _, h => by cases n <;> cases h
theorem r_al0 (spr : Spd) : ∀ ds S Qd Ed, spAl 0 ds S Qd Ed → StClo S → t_Lalike spr (WEx S.length Ed) { nx := fun _ S' => Gc S.length Qd .non S', rt := Gc S.length Qd } (startD 3 ds) S := by
  rintro _ S Qd Ed ⟨x, y, rfl, hd, h⟩ hc
  unfold t_Lalike
  cases y with
  | int j =>
    cases x with
    | int i =>
      have e : i = j := hd
      subst e
      dsimp! only []
      exact .inl h
    | _ => cases hd
  | str b =>
    cases x with
    | str a =>
      have e : a = b := hd
      subst e
      dsimp! only []
      exact .inl h
    | _ => cases hd
  | non =>
    cases x with
    | non =>
      dsimp! only []
      exact .inl h
    | _ => cases hd
  | _ => cases x <;> cases hd
theorem BkOk.pos_row {B : Bk} (hB : BkOk B) : ∀ r ∈ B, 1 ≤ r.length ∧ r.length ≤ 4 := fun r hr => by
  obtain ⟨k, hk⟩ := List.mem_iff_getElem?.mp hr
  exact hB.row hk
theorem prodL_snoc {B : Bk} {r : List (List Itm)} : prodL (B ++ [r]) = prodL B * r.length := by unfold prodL; rw [List.foldl_append]; rfl
theorem cut_to2 {α : Type} (l : List α) (j : Nat) : cutD l none (some (j : Int)) = l.take j := by
  unfold cutD
  have e1 : HT.sIx l.length 0 none = 0 := rfl
  have e2 : HT.sIx l.length l.length (some (j : Int)) = min j l.length := by
    unfold HT.sIx
    simp only
    split <;> omega
  rw [e1, e2, List.drop_zero, Nat.sub_zero]
  by_cases c : j ≤ l.length
  · rw [Nat.min_eq_left c]
  · rw [Nat.min_eq_right (by omega), List.take_of_length_le (Nat.le_refl _), List.take_of_length_le (by omega)]
end K14
set_option Elab.async false
set_option linter.all false
set_option maxRecDepth 100000
set_option maxHeartbeats 2000000
namespace K14
open PySem PySem.Spec D3 K20 K11
open K03 hiding SameD spAl alS same_refl
open PyProof.Rows (sortedS)
theorem out_tw {B : Bk} (hB : BkOk B) {s : Ps} (h : SOk B s) : ∃ p, outD B s = .tup [.str (tw B s), p] := by
  obtain ⟨T, y, st, w, h1, h2⟩ := top_word hB h
  unfold outD tw
  rw [h1]
  dsimp only
  rw [h2]
  exact ⟨_, rfl⟩
theorem it_succ {B : Bk} {m : Nat} {s : Ps} : it B (m + 1) s = mNext B (it B m s) := by rw [it_add]; rfl
def certP (B : Bk) (ws : List Str) : List (Option Int) := (List.range B.length).map fun r => agreeI ((fitT B ws).map fun T => T.getD r 0)
def nxtW (B : Bk) (ws : List Str) (T : List Int) : Str := tw B (it B ws.length (T, []))
end K14
set_option Elab.async false
set_option linter.all false
set_option maxRecDepth 100000
set_option maxHeartbeats 2000000
namespace K14
open PySem PySem.Spec D3 K20 K11
open K03 hiding SameD spAl alS same_refl
open PyProof.Rows (sortedS)
theorem five_pool {B : Bk} (h : Five B) : Pool B five := fun r hr v hv y hy => h r hr v hv y hy
theorem lt_tri : ∀ a b : List Nat, ltCps a b = false → ltCps b a = false → a = b
  | [], [], _, _ => rfl
  | [], b :: t, h, _ => by cases h
  | a :: r, [], _, h => by cases h
  | a :: r, b :: t, h1, h2 => by
    unfold ltCps at h1 h2
    rw [Bool.or_eq_false_iff, decide_eq_false_iff_not] at h1 h2
    have e : a = b := by omega
    subst e
    have h1' := h1.2
    have h2' := h2.2
    simp only [beq_self_eq_true, Bool.true_and] at h1' h2'
    rw [lt_tri r t h1' h2']
theorem le_tr : ∀ a b c : List Nat, ltCps b a = false → ltCps c b = false → ltCps c a = false
  | [], b, c, _, _ => by cases c <;> rfl
  | a :: r, [], c, h, _ => by cases h
  | a :: r, b :: t, [], _, h => by cases h
  | a :: r, b :: t, c :: u, h1, h2 => by
    unfold ltCps at h1 h2 ⊢
    rw [Bool.or_eq_false_iff, decide_eq_false_iff_not] at h1 h2 ⊢
    refine ⟨by omega, ?_⟩
    by_cases e : c = a
    · subst e
      have e2 : b = c := by omega
      subst e2
      have h1' := h1.2
      have h2' := h2.2
      simp only [beq_self_eq_true, Bool.true_and] at h1' h2' ⊢
      exact le_tr r t u h1' h2'
    · have : (c == a) = false := by rw [beq_eq_false_iff_ne]; exact e
      rw [this]; rfl
theorem rising_all : ∀ (p : Str) (l : List Str), PyProof.Rows.risingS p l = true → (∀ x ∈ l, ltCps x.cps.toList p.cps.toList = false) ∧ PyProof.Rows.sortedS l = true
  | p, [], _ => ⟨fun x h => (by cases h), rfl⟩
  | p, x :: r, h => by
    unfold PyProof.Rows.risingS at h
    rw [Bool.and_eq_true] at h
    obtain ⟨h1, h2⟩ := h
    have h1 : ltCps x.cps.toList p.cps.toList = false := by simpa using h1
    obtain ⟨a, b⟩ := rising_all x r h2
    refine ⟨fun y hy => ?_, h2⟩
    rcases List.mem_cons.mp hy with e | e
    · rw [e]; exact h1
    · exact le_tr _ _ _ h1 (a y e)
theorem sorted_unique : ∀ (l m : List Str), PyProof.Rows.sortedS l = true → PyProof.Rows.sortedS m = true → l.Nodup → m.Nodup → (∀ x, x ∈ l ↔ x ∈ m) → l = m
  | [], [], _, _, _, _, _ => rfl
  | [], y :: m, _, _, _, _, h => by have := (h y).mpr List.mem_cons_self; cases this
  | x :: l, [], _, _, _, _, h => by have := (h x).mp List.mem_cons_self; cases this
  | x :: l, y :: m, h1, h2, n1, n2, h => by
    obtain ⟨a1, b1⟩ := rising_all x l h1
    obtain ⟨a2, b2⟩ := rising_all y m h2
    obtain ⟨nx, n1⟩ := List.nodup_cons.mp n1
    obtain ⟨ny, ny2⟩ := List.nodup_cons.mp n2
    have e : x = y := by
      rcases List.mem_cons.mp ((h x).mp List.mem_cons_self) with e | e
      · exact e
      · rcases List.mem_cons.mp ((h y).mpr List.mem_cons_self) with e2 | e2
        · exact e2.symm
        · exact Str.ext' (Array.toList_inj.mp (lt_tri _ _ (a2 x e) (a1 y e2)))
    subst e
    refine congrArg (x :: ·) (sorted_unique l m b1 b2 n1 ny2 fun z => ?_)
    constructor
    · intro hz
      rcases List.mem_cons.mp ((h z).mp (List.mem_cons_of_mem _ hz)) with e | e
      · rw [e] at hz; exact (nx hz).elim
      · exact e
    · intro hz
      rcases List.mem_cons.mp ((h z).mpr (List.mem_cons_of_mem _ hz)) with e | e
      · rw [e] at hz; exact (ny hz).elim
      · exact e
theorem al_os {l : List (Option Int)} (h : l.length < 1000) : ∀ n, alS (n + 1) (osD l) = true := fun n => by
  show (decide ((l.map oD).length < 100000) && (l.map oD).all (alS n)) = true
  rw [Bool.and_eq_true, decide_eq_true_eq, List.length_map, List.all_eq_true]
  refine ⟨by omega, fun d hd => ?_⟩
  obtain ⟨o, _, rfl⟩ := List.mem_map.mp hd
  cases o <;> cases n <;> rfl
def RsAt (B : Bk) (ws : List Str) (S : Store) (d : Dv) : Prop := ∃ (n : Int) (l : Dv) (j : Nat) (ys : List Str), d = .tup [.int n, l, .obj j] ∧ S[j]? = some (.lst (ys.map Dv.str)) ∧ ys.length < 1000 ∧
  ((fitT B ws = [] ∧ n = 0 ∧ l = .non ∧ ys = []) ∨ (fitT B ws ≠ [] ∧ n = ((fitT B ws).length : Nat) ∧ l = osD (certP B ws) ∧ sortedS ys = true ∧ ys.Nodup ∧ ∀ w, w ∈ ys ↔ w ∈ (fitT B ws).map (nxtW B ws)))
theorem RsAt.keep {B : Bk} {ws : List Str} {S S' : Store} {d : Dv} (h : RsAt B ws S d) (f : Frm [] S S') : RsAt B ws S' d := by
  obtain ⟨n, l, j, ys, h1, h2, h3, h4⟩ := h
  exact ⟨n, l, j, ys, h1, f.at h2 (by simp), h3, h4⟩
end K14
set_option Elab.async false
set_option linter.all false
set_option maxRecDepth 100000
set_option maxHeartbeats 2000000
namespace K15
open PySem PySem.Spec PyProof.Rows L2 D3
abbrev c_LETTERS : Dv := .str "abcdefghijklmnopqrstuvwxyz"
abbrev c_MAX_CANDIDATES : Dv := .int 500
abbrev c_MAX_HEARD : Dv := .int 60
abbrev c_MAX_ITEMS : Dv := .int 6
abbrev c_MAX_LETTERS : Dv := .int 8
abbrev c_MAX_REFRAINS : Dv := .int 60
abbrev c_MAX_VERSES : Dv := .int 4
def t_Lbegun (Wd : WXd) : TSd :=
    (sSeq (sAsg (eC (.int 0)) (gNm 1))
    (sSeq (sFor (iSeq (eVar 0)) (gNm 2) (sAsg (eOp dMod (eOp dAdd (eOp dAdd (eOp dMul (eVar 1) (eC (.int 48271))) (eOp dMul (eVar 2) (eC (.int 69621)))) (eC (.int 11))) (eC (.int 2147483647))) (gNm 1)))
    (sRet (eLst (aCons (eArgs dList (aCons (eVar 0) aNil)) (aCons (eOp dMul (eVar 1) (eArgs dInt (aCons (eOp dGt (eArgs dLen (aCons (eVar 0) aNil)) (eC (.int 2))) aNil))) aNil))))))
def t_Lthin (Wd : WXd) : TSd :=
    (sSeq (sPar 2 3 (aCons (eC (.int 1)) (aCons (eLst aNil) aNil)))
    (sSeq (sFor (iSeq (eVar 0)) (gNm 4) (sSeq (sAsg (eIf (cVal (eOp dLe (eOp dMul (eVar 2) (eArgs dLen (aCons (eVar 4) aNil))) (eVar 1))) (eVar 4) (eSl dSlice (eVar 4) oNo (oSome (eC (.int 1))))) (gNm 5))
    (sSeq (sAsg (eOp dMul (eVar 2) (eArgs dLen (aCons (eVar 5) aNil))) (gNm 2))
    (sDrop (eBM "list" dAppend (eVar 3) (aCons (eVar 5) aNil))))))
    (sRet (eArgs dTuple (aCons (eVar 3) aNil)))))
def t_Ltake (Wd : WXd) : TSd :=
    (sSeq (sIf (cVal (eOp dEq (eOp dIx (eVar 0) (eC (.int 0))) (eLst aNil))) (sSeq (sAsg (eOp dMod (eArgs dInt (aCons (eOp dMul (eOp dIx (eVar 0) (eC (.int 1))) (eC (.int 48271))) aNil)) (eC (.int 2147483647))) (gSb (eVar 0) (eC (.int 1)) dSetL))
    (sRet (eOp dMod (eOp dDiv (eOp dIx (eVar 0) (eC (.int 1))) (eC (.int 7))) (eVar 1)))) sNext)
    (sSeq (sAsg (eOp dIx (eOp dIx (eVar 0) (eC (.int 0))) (eC (.int 0))) (gNm 2))
    (sSeq (sAsg (eOp dDiv (eVar 2) (eVar 1)) (gSb (eOp dIx (eVar 0) (eC (.int 0))) (eC (.int 0)) dSetL))
    (sSeq (sIf (cOr (cVal (eOp dEq (eOp dIx (eOp dIx (eVar 0) (eC (.int 0))) (eC (.int 0))) (eC (.int 0)))) (cVal (eOp dEq (eOp dIx (eOp dIx (eVar 0) (eC (.int 0))) (eC (.int 0))) (eUn dNeg (eC (.int 1)))))) (sDrop (eBM "list" dPop (eOp dIx (eVar 0) (eC (.int 0))) (aCons (eC (.int 0)) aNil))) sNext)
    (sRet (eOp dMod (eArgs dInt (aCons (eVar 2) aNil)) (eVar 1)))))))
def t_Lbook (sp_Ltake : Spd) (Wd : WXd) : TSd :=
    (sSeq (sPar 2 3 (aCons (eOp dAdd (eC (.int 1)) (eCall sp_Ltake Wd (aCons (eVar 0) (aCons (eVar 1) aNil)))) (aCons (eLst aNil) aNil)))
    (sSeq (sAsg (eLst (aCons (eC (.str "la")) (aCons (eC (.str "lu")) (aCons (eC (.str "lo")) (aCons (eC (.str "a")) (aCons (eC (.str "zzzzzzzz")) (aCons (eC (.str "la")) aNil))))))) (gNm 4))
    (sSeq (sFor (iRg1 (aCons (eVar 2) aNil)) (gNm 5) (sSeq (sAsg (eLst aNil) (gNm 6))
    (sSeq (sFor (iRg1 (aCons (eOp dIx (eLst (aCons (eC (.int 1)) (aCons (eC (.int 2)) (aCons (eC (.int 2)) (aCons (eC (.int 3)) (aCons (eC (.int 4)) aNil)))))) (eCall sp_Ltake Wd (aCons (eVar 0) (aCons (eC (.int 5)) aNil)))) aNil)) (gNm 7) (sSeq (sAsg (eLst aNil) (gNm 8))
    (sSeq (sFor (iRg1 (aCons (eOp dIx (eLst (aCons (eC (.int 1)) (aCons (eC (.int 2)) (aCons (eC (.int 2)) (aCons (eC (.int 3)) (aCons (eC (.int 6)) aNil)))))) (eCall sp_Ltake Wd (aCons (eVar 0) (aCons (eC (.int 5)) aNil)))) aNil)) (gNm 9) (sSeq (sAsg (eOp dSub (eOp dSub (eVar 2) (eVar 5)) (eC (.int 1))) (gNm 10))
    (sSeq (sAsg (eOp dIx (eLst (aCons (eOp dAdd (eC (.int 1)) (eCall sp_Ltake Wd (aCons (eVar 0) (aCons (eArgs dMax (aCons (eC (.int 1)) (aCons (eVar 10) aNil))) aNil)))) (aCons (eC (.int 1)) aNil))) (eCall sp_Ltake Wd (aCons (eVar 0) (aCons (eC (.int 2)) aNil)))) (gNm 11))
    (sDrop (eBM "list" dAppend (eVar 8) (aCons (eIf (cAnd (cVal (eOp dGt (eVar 10) (eC (.int 0)))) (cVal (eOp dGt (eCall sp_Ltake Wd (aCons (eVar 0) (aCons (eC (.int 3)) aNil))) (eC (.int 0))))) (eOp dAdd (eVar 5) (eVar 11)) (eOp dIx (eVar 4) (eCall sp_Ltake Wd (aCons (eVar 0) (aCons (eC (.int 6)) aNil))))) aNil))))))
    (sDrop (eBM "list" dAppend (eVar 6) (aCons (eArgs dTuple (aCons (eVar 8) aNil)) aNil))))))
    (sDrop (eBM "list" dAppend (eVar 3) (aCons (eArgs dTuple (aCons (eVar 6) aNil)) aNil))))))
    (sRet (eArgs dTuple (aCons (eVar 3) aNil))))))
def t_Lturns (sp_Ltake : Spd) (Wd : WXd) : TSd :=
    (sRet (eArgs dTuple (aCons (eLc (iSeq (eVar 1)) (Tg.one 2) cYes (eCall sp_Ltake WNo (aCons (eVar 0) (aCons (eArgs dLen (aCons (eVar 2) aNil)) aNil))) [2]) aNil)))
def t_Lfrom (Wd : WXd) : TSd :=
    (sRet (eDisp (((eC (.str "turns")), (eArgs dList (aCons (eOp dIx (eVar 0) (eC (.int 0))) aNil))) :: (((eC (.str "path")), (eLc (iSeq (eOp dIx (eVar 0) (eC (.int 1)))) (Tg.one 1) cYes (eArgs dList (aCons (eVar 1) aNil)) [1])) :: (((eC (.str "starts")), (eLst aNil)) :: [])))))
def t_is_word (Wd : WXd) : TSd :=
    (sRet (eArgs dIsi (aCons (eVar 0) (aCons (eC (.ty "str")) aNil))))
def t_is_valid_item (sp_is_word : Spd) (Wd : WXd) : TSd :=
    (sSeq (sIf (cVal (eCall sp_is_word Wd (aCons (eVar 2) aNil))) (sRet (eAnd (eChain dLe dLe (eC (.int 1)) (eArgs dLen (aCons (eVar 2) aNil)) (eC c_MAX_LETTERS)) (eArgs dAll (aCons (eLc (iStr (eVar 2)) (Tg.one 3) cYes (eOp (dIn false) (eVar 3) (eC c_LETTERS)) [3]) aNil)))) sNext)
    (sRet (eChain dLt dLt (eVar 1) (eVar 2) (eArgs dLen (aCons (eVar 0) aNil)))))
def t_first_invalid_verse (sp_is_valid_item : Spd) (Wd : WXd) : TSd :=
    (sSeq (sAsg (eOp dIx (eVar 0) (eVar 1)) (gNm 2))
    (sSeq (sIf (cNot (cVal (eChain dLe dLe (eC (.int 1)) (eArgs dLen (aCons (eVar 2) aNil)) (eC c_MAX_VERSES)))) (sRet (eUn dNeg (eC (.int 1)))) sNext)
    (sSeq (sFor (iEnumD (aCons (eVar 2) aNil)) (gUnp 2 (gsCons (gNm 3) (gsCons (gNm 4) gsNil))) (sIf (cOr (cNot (cVal (eChain dLe dLe (eC (.int 1)) (eArgs dLen (aCons (eVar 4) aNil)) (eC c_MAX_ITEMS)))) (cNot (cVal (eArgs dAll (aCons (eLc (iSeq (eVar 4)) (Tg.one 5) cYes (eCall sp_is_valid_item WNo (aCons (eVar 0) (aCons (eVar 1) (aCons (eVar 5) aNil)))) [5]) aNil))))) (sRet (eVar 3)) sNext))
    (sRet (eC .non)))))
def t_validate_book (sp_first_invalid_verse : Spd) (Wd : WXd) : TSd :=
    (sSeq (sIf (cVal (eOp dEq (eArgs dLen (aCons (eVar 0) aNil)) (eC (.int 0)))) sNever sNext)
    (sFor (iRg1 (aCons (eArgs dLen (aCons (eVar 0) aNil)) aNil)) (gNm 1) (sSeq (sAsg (eIf (cVal (eOp dEq (eVar 1) (eC c_MAX_REFRAINS))) (eUn dNeg (eC (.int 1))) (eCall sp_first_invalid_verse Wd (aCons (eVar 0) (aCons (eVar 1) aNil)))) (gNm 2))
    (sIf (cVal (eOp dIsNot (eVar 2) (eC .non))) sNever sNext))))
def t_Candidate_init (C_Candidate : Addr) (Wd : WXd) : TSd :=
    (sSeq (sFld C_Candidate (eVar 0) (eVar 1) "book")
    (sSeq (sFld C_Candidate (eVar 0) (eVar 2) "first_turns")
    (sSeq (sFld C_Candidate (eVar 0) (eVar 3) "current_turns")
    (sFld C_Candidate (eVar 0) (eVar 4) "entries"))))
def t_Candidate_possible_turns (C_Candidate : Addr) (Wd : WXd) : TSd :=
    (sSeq (sIf (cVal (eOp dIsNot (eOp dIx (eFld C_Candidate (eVar 0) "first_turns") (eVar 1)) (eC .non))) (sRet (eLst (aCons (eOp dIx (eFld C_Candidate (eVar 0) "current_turns") (eVar 1)) aNil))) sNext)
    (sRet (eLRg (eArgs dLen (aCons (eOp dIx (eFld C_Candidate (eVar 0) "book") (eVar 1)) aNil)))))
def t_Candidate_opening_words (C_Candidate : Addr) (sp_Candidate_possible_turns : Spd) (sp_is_word : Spd) (Wd : WXd) : TSd :=
    (sSeq (sAsg (eOp dMul (eLst (aCons eKNew aNil)) (eArgs dLen (aCons (eFld C_Candidate (eVar 0) "book") aNil))) (gNm 1))
    (sSeq (sFor (iRg3 (aCons (eOp dSub (eArgs dLen (aCons (eFld C_Candidate (eVar 0) "book") aNil)) (eC (.int 1))) (aCons (eUn dNeg (eC (.int 1))) (aCons (eUn dNeg (eC (.int 1))) aNil)))) (gNm 2) (sSeq (sAsg eKNew (gNm 3))
    (sSeq (sFor (iSeq (eMeth C_Candidate "possible_turns" sp_Candidate_possible_turns Wd (eVar 0) (aCons (eVar 2) aNil))) (gNm 4) (sSeq (sAsg (eOp dIx (eOp dIx (eOp dIx (eFld C_Candidate (eVar 0) "book") (eVar 2)) (eVar 4)) (eC (.int 0))) (gNm 5))
    (sDrop (eBM "dict" dUpdate (eVar 3) (aCons (eIf (cVal (eCall sp_is_word Wd (aCons (eVar 5) aNil))) (eDisp (((eVar 5), (eC (.bl true))) :: [])) (eOp dIx (eVar 1) (eVar 5))) aNil)))))
    (sAsg (eVar 3) (gSb (eVar 1) (eVar 2) dSetL)))))
    (sRet (eVar 1))))
def t_Candidate_current_item (C_Candidate : Addr) (Wd : WXd) : TSd :=
    (sSeq (sIf (cVal (eOp dEq (eFld C_Candidate (eVar 0) "entries") (eTup aNil))) (sRet (eC (.int 0))) sNext)
    (sSeq (sAsg (eOp dIx (eFld C_Candidate (eVar 0) "entries") (eUn dNeg (eC (.int 1)))) (gUnp 3 (gsCons (gNm 1) (gsCons (gNm 2) (gsCons (gNm 3) gsNil)))))
    (sRet (eOp dIx (eOp dIx (eOp dIx (eFld C_Candidate (eVar 0) "book") (eVar 1)) (eVar 2)) (eVar 3)))))
def t_Candidate_after_word (C_Candidate : Addr) (sp_Candidate_init : Spd) (Wd : WXd) : TSd :=
    (sSeq (sPar 1 2 (aCons (eArgs dList (aCons (eFld C_Candidate (eVar 0) "entries") aNil)) (aCons (eC (.bl true)) aNil)))
    (sSeq (sWhile (cAnd (cVal (eVar 2)) (cVal (eOp dNeE (eVar 1) (eLst aNil)))) (sSeq (sAsg (eBM "list" dPop (eVar 1) aNil) (gUnp 3 (gsCons (gNm 3) (gsCons (gNm 4) (gsCons (gNm 5) gsNil)))))
    (sSeq (sAsg (eOp dEq (eOp dAdd (eVar 5) (eC (.int 1))) (eArgs dLen (aCons (eOp dIx (eOp dIx (eFld C_Candidate (eVar 0) "book") (eVar 3)) (eVar 4)) aNil))) (gNm 2))
    (sIf (cNot (cVal (eVar 2))) (sDrop (eBM "list" dAppend (eVar 1) (aCons (eTup (aCons (eVar 3) (aCons (eVar 4) (aCons (eOp dAdd (eVar 5) (eC (.int 1))) aNil)))) aNil))) sNext))))
    (sRet (eMake C_Candidate sp_Candidate_init (aCons (eFld C_Candidate (eVar 0) "book") (aCons (eFld C_Candidate (eVar 0) "first_turns") (aCons (eFld C_Candidate (eVar 0) "current_turns") (aCons (eArgs dTuple (aCons (eVar 1) aNil)) aNil))))))))
def t_Candidate_started_at (C_Candidate : Addr) (sp_Candidate_init : Spd) (Wd : WXd) : TSd :=
    (sSeq (sAsg (eFld C_Candidate (eVar 0) "first_turns") (gNm 3))
    (sSeq (sIf (cVal (eOp dIs (eOp dIx (eVar 3) (eVar 1)) (eC .non))) (sAsg (eOp dAdd (eOp dAdd (eSl dSlice (eVar 3) oNo (oSome (eVar 1))) (eTup (aCons (eVar 2) aNil))) (eSl dSlice (eVar 3) (oSome (eOp dAdd (eVar 1) (eC (.int 1)))) oNo)) (gNm 3)) sNext)
    (sSeq (sAsg (eArgs dLen (aCons (eOp dIx (eFld C_Candidate (eVar 0) "book") (eVar 1)) aNil)) (gNm 4))
    (sSeq (sAsg (eOp dAdd (eOp dAdd (eSl dSlice (eFld C_Candidate (eVar 0) "current_turns") oNo (oSome (eVar 1))) (eTup (aCons (eOp dMod (eOp dAdd (eVar 2) (eC (.int 1))) (eVar 4)) aNil))) (eSl dSlice (eFld C_Candidate (eVar 0) "current_turns") (oSome (eOp dAdd (eVar 1) (eC (.int 1)))) oNo)) (gNm 5))
    (sRet (eMake C_Candidate sp_Candidate_init (aCons (eFld C_Candidate (eVar 0) "book") (aCons (eVar 3) (aCons (eVar 5) (aCons (eOp dAdd (eFld C_Candidate (eVar 0) "entries") (eTup (aCons (eTup (aCons (eVar 1) (aCons (eVar 2) (aCons (eC (.int 0)) aNil)))) aNil))) aNil))))))))))
def t_Candidate_after_hearing (C_Candidate : Addr) (sp_Candidate_opening_words : Spd) (sp_Candidate_current_item : Spd) (sp_is_word : Spd) (sp_Candidate_after_word : Spd) (sp_Candidate_possible_turns : Spd) (sp_Candidate_started_at : Spd) (Wd : WXd) : TSd :=
    (sSeq (sPar3 2 3 4 (aCons (eLst aNil) (aCons (eLst (aCons (eVar 0) aNil)) (aCons (eMeth C_Candidate "opening_words" sp_Candidate_opening_words Wd (eVar 0) aNil) aNil))))
    (sSeq (sWhile (cAnd (cVal (eOp dNeE (eVar 3) (eLst aNil))) (cVal (eOp dLe (eArgs dLen (aCons (eVar 2) aNil)) (eC c_MAX_CANDIDATES)))) (sSeq (sAsg (eBM "list" dPop (eVar 3) aNil) (gNm 5))
    (sSeq (sAsg (eMeth C_Candidate "current_item" sp_Candidate_current_item Wd (eVar 5) aNil) (gNm 6))
    (sIf (cVal (eCall sp_is_word Wd (aCons (eVar 6) aNil))) (sIf (cVal (eOp dEq (eVar 6) (eVar 1))) (sDrop (eBM "list" dAppend (eVar 2) (aCons (eMeth C_Candidate "after_word" sp_Candidate_after_word Wd (eVar 5) aNil) aNil))) sNext) (sIf (cVal (eOp (dKIn false) (eVar 1) (eOp dIx (eVar 4) (eVar 6)))) (sDrop (eBM "list" dExtend (eVar 3) (aCons (eLc (iSeq (eMeth C_Candidate "possible_turns" sp_Candidate_possible_turns Wd (eVar 5) (aCons (eVar 6) aNil))) (Tg.one 7) cYes (eMeth C_Candidate "started_at" sp_Candidate_started_at WNo (eVar 5) (aCons (eVar 6) (aCons (eVar 7) aNil))) [7]) aNil))) sNext)))))
    (sRet (eVar 2))))
def t_filter_candidates (C_Candidate : Addr) (C_TooManyCandidates : Addr) (sp_Candidate_after_hearing : Spd) (Wd : WXd) : TSd :=
    (sSeq (sAsg (eLst aNil) (gNm 2))
    (sSeq (sFor (iSeq (eVar 0)) (gNm 3) (sSeq (sDrop (eBM "list" dExtend (eVar 2) (aCons (eMeth C_Candidate "after_hearing" sp_Candidate_after_hearing Wd (eVar 3) (aCons (eVar 1) aNil)) aNil)))
    (sIf (cVal (eOp dGt (eArgs dLen (aCons (eVar 2) aNil)) (eC c_MAX_CANDIDATES))) (sRaise C_TooManyCandidates Wd) sNext)))
    (sRet (eVar 2))))
def t_Candidate_following_words (C_Candidate : Addr) (sp_Candidate_current_item : Spd) (sp_is_word : Spd) (sp_Candidate_opening_words : Spd) (Wd : WXd) : TSd :=
    (sSeq (sAsg (eMeth C_Candidate "current_item" sp_Candidate_current_item Wd (eVar 0) aNil) (gNm 1))
    (sRet (eIf (cVal (eCall sp_is_word Wd (aCons (eVar 1) aNil))) (eLst (aCons (eVar 1) aNil)) (eArgs dSortedK (aCons (eOp dIx (eMeth C_Candidate "opening_words" sp_Candidate_opening_words Wd (eVar 0) aNil) (eVar 1)) aNil)))))
def t_Candidate_size (C_Candidate : Addr) (Wd : WXd) : TSd :=
    (sSeq (sAsg (eC (.int 1)) (gNm 1))
    (sSeq (sFor (iZipD (aCons (eFld C_Candidate (eVar 0) "first_turns") (aCons (eFld C_Candidate (eVar 0) "book") aNil))) (gUnp 2 (gsCons (gNm 2) (gsCons (gNm 3) gsNil))) (sIf (cVal (eOp dIs (eVar 2) (eC .non))) (sAug 1 (eArgs dLen (aCons (eVar 3) aNil)) dMulA) sNext))
    (sRet (eVar 1))))
def t_Candidate_known_turn (C_Candidate : Addr) (Wd : WXd) : TSd :=
    (sRet (eIf (cVal (eOp dEq (eArgs dLen (aCons (eOp dIx (eFld C_Candidate (eVar 0) "book") (eVar 1)) aNil)) (eC (.int 1)))) (eC (.int 0)) (eOp dIx (eFld C_Candidate (eVar 0) "first_turns") (eVar 1))))
def t_certain_turns (C_Candidate : Addr) (sp_Candidate_known_turn : Spd) (Wd : WXd) : TSd :=
    (sSeq (sAsg (eLst aNil) (gNm 2))
    (sSeq (sFor (iRg1 (aCons (eArgs dLen (aCons (eVar 0) aNil)) aNil)) (gNm 3) (sSeq (sAsg (eLc (iSeq (eVar 1)) (Tg.one 5) cYes (eMeth C_Candidate "known_turn" sp_Candidate_known_turn WNo (eVar 5) (aCons (eVar 3) aNil)) [5]) (gNm 4))
    (sDrop (eBM "list" dAppend (eVar 2) (aCons (eIf (cVal (eArgs dAll (aCons (eLc (iSeq (eVar 4)) (Tg.one 6) cYes (eOp dEq (eVar 6) (eOp dIx (eVar 4) (eC (.int 0)))) [6]) aNil))) (eOp dIx (eVar 4) (eC (.int 0))) (eC .non)) aNil)))))
    (sRet (eArgs dTuple (aCons (eVar 2) aNil)))))
def t_infer_turns (C_Candidate : Addr) (C_TooManyWords : Addr) (sp_validate_book : Spd) (sp_Candidate_init : Spd) (sp_filter_candidates : Spd) (sp_Candidate_following_words : Spd) (sp_Candidate_size : Spd) (sp_certain_turns : Spd) (Wd : WXd) : TSd :=
    (sSeq (sDrop (eCall sp_validate_book Wd (aCons (eVar 0) aNil)))
    (sSeq (sIf (cVal (eOp dGt (eArgs dLen (aCons (eVar 1) aNil)) (eC c_MAX_HEARD))) (sRaise C_TooManyWords Wd) sNext)
    (sSeq (sAsg (eOp dMulT (eTup (aCons (eC .non) aNil)) (eArgs dLen (aCons (eVar 0) aNil))) (gNm 2))
    (sSeq (sAsg (eLst (aCons (eMake C_Candidate sp_Candidate_init (aCons (eVar 0) (aCons (eVar 2) (aCons (eVar 2) (aCons (eTup aNil) aNil))))) aNil)) (gNm 3))
    (sSeq (sFor (iSeq (eVar 1)) (gNm 4) (sAsg (eCall sp_filter_candidates Wd (aCons (eVar 3) (aCons (eVar 4) aNil))) (gNm 3)))
    (sSeq (sIf (cVal (eOp dEqE (eVar 3) (eLst aNil))) (sRet (eTup (aCons (eC (.int 0)) (aCons (eC .non) (aCons (eLst aNil) aNil))))) sNext)
    (sSeq (sAsg eKNew (gNm 5))
    (sSeq (sFor (iSeq (eVar 3)) (gNm 6) (sDrop (eBM "dict" dUpdate (eVar 5) (aCons (eLc (iSeq (eMeth C_Candidate "following_words" sp_Candidate_following_words Wd (eVar 6) aNil)) (Tg.one 4) cYes (eTup (aCons (eVar 4) (aCons (eC (.bl true)) aNil))) [4]) aNil))))
    (sRet (eTup (aCons (eArgs dSum (aCons (eLc (iSeq (eVar 3)) (Tg.one 6) cYes (eMeth C_Candidate "size" sp_Candidate_size WNo (eVar 6) aNil) [6]) aNil)) (aCons (eCall sp_certain_turns Wd (aCons (eVar 0) (aCons (eVar 3) aNil))) (aCons (eArgs dSortedK (aCons (eVar 5) aNil)) aNil)))))))))))))
def t_Lalike (sp_Lalike_rec : Spd) (Wd : WXd) : TSd :=
    (sSeq (sIf (cVal (eOp dIs (eVar 1) (eC .non))) (sRet (eOp dIs (eVar 0) (eC .non))) sNext)
    (sSeq (sIf (cVal (eArgs dIsi (aCons (eVar 1) (aCons (eC (.ty "bool")) aNil)))) (sRet (eAnd (eArgs dIsi (aCons (eVar 0) (aCons (eC (.ty "bool")) aNil))) (eOp dEq (eVar 0) (eVar 1)))) sNext)
    (sSeq (sIf (cVal (eArgs dIsi (aCons (eVar 1) (aCons (eC (.ty "int")) aNil)))) (sRet (eAnd (eArgs dIsi (aCons (eVar 0) (aCons (eC (.ty "int")) aNil))) (eAnd (eNot (eArgs dIsi (aCons (eVar 0) (aCons (eC (.ty "bool")) aNil)))) (eOp dEq (eVar 0) (eVar 1))))) sNext)
    (sSeq (sIf (cVal (eArgs dIsi (aCons (eVar 1) (aCons (eC (.ty "str")) aNil)))) (sRet (eAnd (eArgs dIsi (aCons (eVar 0) (aCons (eC (.ty "str")) aNil))) (eOp dEq (eVar 0) (eVar 1)))) sNext)
    (sSeq (sIf (cOr (cVal (eOp dNe (eArgs dIsi (aCons (eVar 1) (aCons (eC (.ty "tuple")) aNil))) (eArgs dIsi (aCons (eVar 0) (aCons (eC (.ty "tuple")) aNil))))) (cVal (eOp dNe (eArgs dIsi (aCons (eVar 1) (aCons (eC (.ty "list")) aNil))) (eArgs dIsi (aCons (eVar 0) (aCons (eC (.ty "list")) aNil)))))) (sRet (eC (.bl false))) sNext)
    (sSeq (sIf (cVal (eOp dNe (eArgs dLen (aCons (eVar 0) aNil)) (eArgs dLen (aCons (eVar 1) aNil)))) (sRet (eC (.bl false))) sNext)
    (sSeq (sFor (iRg1 (aCons (eArgs dLen (aCons (eVar 1) aNil)) aNil)) (gNm 2) (sIf (cNot (cVal (eCall sp_Lalike_rec Wd (aCons (eOp dIx (eVar 0) (eVar 2)) (aCons (eOp dIx (eVar 1) (eVar 2)) aNil))))) (sRet (eC (.bl false))) sNext))
    (sRet (eC (.bl true))))))))))
def t_Lstart (Wd : WXd) : TSd :=
    (sSeq (sAsg (eOp dIx (eOp dKGet (eVar 1) (eC (.str "turns"))) (eVar 2)) (gNm 3))
    (sSeq (sAsg (eIf (cVal (eOp dEq (eOp dAdd (eVar 3) (eC (.int 1))) (eArgs dLen (aCons (eOp dIx (eVar 0) (eVar 2)) aNil)))) (eC (.int 0)) (eOp dAdd (eVar 3) (eC (.int 1)))) (gSb (eOp dKGet (eVar 1) (eC (.str "turns"))) (eVar 2) dSetL))
    (sSeq (sDrop (eBM "list" dAppend (eOp dKGet (eVar 1) (eC (.str "path"))) (aCons (eLst (aCons (eVar 2) (aCons (eVar 3) (aCons (eC (.int 0)) aNil)))) aNil)))
    (sDrop (eBM "list" dAppend (eOp dKGet (eVar 1) (eC (.str "starts"))) (aCons (eTup (aCons (eVar 2) (aCons (eVar 3) aNil))) aNil))))))
def t_Lsing (sp_Lstart : Spd) (Wd : WXd) : TSd :=
    (sSeq (sIf (cVal (eOp dEq (eOp dKGet (eVar 1) (eC (.str "path"))) (eLst aNil))) (sDrop (eCall sp_Lstart Wd (aCons (eVar 0) (aCons (eVar 1) (aCons (eC (.int 0)) aNil))))) sNext)
    (sSeq (sAsg (eOp dIx (eOp dKGet (eVar 1) (eC (.str "path"))) (eUn dNeg (eC (.int 1)))) (gUnp 3 (gsCons (gNm 2) (gsCons (gNm 3) (gsCons (gNm 4) gsNil)))))
    (sSeq (sWhile (cNot (cVal (eArgs dIsi (aCons (eOp dIx (eOp dIx (eOp dIx (eVar 0) (eVar 2)) (eVar 3)) (eVar 4)) (aCons (eC (.ty "str")) aNil))))) (sSeq (sDrop (eCall sp_Lstart Wd (aCons (eVar 0) (aCons (eVar 1) (aCons (eOp dIx (eOp dIx (eOp dIx (eVar 0) (eVar 2)) (eVar 3)) (eVar 4)) aNil)))))
    (sAsg (eOp dIx (eOp dKGet (eVar 1) (eC (.str "path"))) (eUn dNeg (eC (.int 1)))) (gUnp 3 (gsCons (gNm 2) (gsCons (gNm 3) (gsCons (gNm 4) gsNil)))))))
    (sSeq (sAsg (eTup (aCons (eOp dIx (eOp dIx (eOp dIx (eVar 0) (eVar 2)) (eVar 3)) (eVar 4)) (aCons (eArgs dTuple (aCons (eLc (iSeq (eOp dKGet (eVar 1) (eC (.str "path")))) (Tg.one 7) cYes (eArgs dTuple (aCons (eVar 7) aNil)) [7]) aNil)) aNil))) (gNm 5))
    (sSeq (sAsg (eC (.bl true)) (gNm 6))
    (sSeq (sWhile (cAnd (cVal (eVar 6)) (cVal (eOp dNe (eOp dKGet (eVar 1) (eC (.str "path"))) (eLst aNil)))) (sSeq (sAsg (eBM "list" dPop (eOp dKGet (eVar 1) (eC (.str "path"))) aNil) (gUnp 3 (gsCons (gNm 2) (gsCons (gNm 3) (gsCons (gNm 4) gsNil)))))
    (sSeq (sAsg (eOp dEq (eOp dAdd (eVar 4) (eC (.int 1))) (eArgs dLen (aCons (eOp dIx (eOp dIx (eVar 0) (eVar 2)) (eVar 3)) aNil))) (gNm 6))
    (sIf (cNot (cVal (eVar 6))) (sDrop (eBM "list" dAppend (eOp dKGet (eVar 1) (eC (.str "path"))) (aCons (eLst (aCons (eVar 2) (aCons (eVar 3) (aCons (eOp dAdd (eVar 4) (eC (.int 1))) aNil)))) aNil))) sNext))))
    (sRet (eVar 5))))))))
def t_law (RN : List (Addr × Str)) (sp_Lbegun : Spd) (sp_Lthin : Spd) (sp_Lbook : Spd) (sp_Lturns : Spd) (sp_Lfrom : Spd) (sp_infer_turns : Spd) (sp_Lalike : Spd) (sp_Ltake : Spd) (sp_Lsing : Spd) (Wd : WXd) : TSd :=
    (sSeq (sAsg (eCall sp_Lbegun Wd (aCons (eVar 0) aNil)) (gNm 1))
    (sSeq (sFor (iRg1 (aCons (eC (.int 3)) aNil)) (gNm 2) (sSeq (sAsg (eCall sp_Lthin Wd (aCons (eCall sp_Lbook Wd (aCons (eVar 1) (aCons (eC (.int 30)) aNil))) (aCons (eC (.int 3000)) aNil))) (gNm 3))
    (sSeq (sAsg (eTup (aCons (eCall sp_Lturns Wd (aCons (eVar 1) (aCons (eVar 3) aNil))) (aCons (eLst aNil) aNil))) (gUnp 2 (gsCons (gNm 4) (gsCons (gNm 5) gsNil))))
    (sSeq (sPar 6 7 (aCons (eCall sp_Lfrom Wd (aCons (eTup (aCons (eVar 4) (aCons (eTup aNil) aNil))) aNil)) (aCons (eC (.int 1)) aNil)))
    (sSeq (sFor (iSeq (eVar 3)) (gNm 8) (sAsg (eOp dMul (eVar 7) (eArgs dLen (aCons (eVar 8) aNil))) (gNm 7)))
    (sSeq (sAsg (eArgs dTuple (aCons (eLc (iSeq (eVar 3)) (Tg.one 8) cYes (eIf (cVal (eOp dEq (eArgs dLen (aCons (eVar 8) aNil)) (eC (.int 1)))) (eC (.int 0)) (eC .non)) [8]) aNil)) (gNm 9))
    (sSeq (sAsg (eRes RN (fun Wd => (eCall sp_infer_turns Wd (aCons (eVar 3) (aCons (eLst aNil) aNil))))) (gNm 10))
    (sSeq (sIf (cNot (cVal (eCall sp_Lalike Wd (aCons (eSl dSlice (eVar 10) oNo (oSome (eC (.int 2)))) (aCons (eTup (aCons (eVar 7) (aCons (eVar 9) aNil))) aNil))))) (sRet (eC (.bl false))) sNext)
    (sSeq (sAsg (eCall sp_Ltake Wd (aCons (eVar 1) (aCons (eC (.int 16)) aNil))) (gNm 11))
    (sFor (iRg1 (aCons (eVar 11) aNil)) (gNm 12) (sSeq (sAsg (eOp dIx (eCall sp_Lsing Wd (aCons (eVar 3) (aCons (eVar 6) aNil))) (eC (.int 0))) (gNm 13))
    (sSeq (sIf (cAnd (cVal (eOp dNe (eOp dIx (eVar 10) (eC (.int 0))) (eC (.str "TooManyCandidates")))) (cVal (eOp (dIn true) (eVar 13) (eOp dIx (eVar 10) (eC (.int 2)))))) (sRet (eC (.bl false))) sNext)
    (sSeq (sDrop (eBM "list" dAppend (eVar 5) (aCons (eVar 13) aNil)))
    (sSeq (sAsg (eRes RN (fun Wd => (eCall sp_infer_turns Wd (aCons (eVar 3) (aCons (eArgs dList (aCons (eVar 5) aNil)) aNil))))) (gNm 14))
    (sSeq (sIf (cVal (eOp dEq (eOp dIx (eVar 10) (eC (.int 0))) (eC (.str "TooManyCandidates")))) (sIf (cVal (eOp dNe (eVar 14) (eVar 10))) (sRet (eC (.bl false))) sNext) (sIf (cVal (eOp dNe (eOp dIx (eVar 14) (eC (.int 0))) (eC (.str "TooManyCandidates")))) (sSeq (sIf (cOr (cNot (cVal (eChain dLe dLe (eC (.int 1)) (eOp dIx (eVar 14) (eC (.int 0))) (eOp dIx (eVar 10) (eC (.int 0)))))) (cVal (eOp dNe (eOp dIx (eVar 10) (eC (.int 2))) (eSSet (eOp dIx (eVar 10) (eC (.int 2))))))) (sRet (eC (.bl false))) sNext)
    (sFor (iRg1 (aCons (eArgs dLen (aCons (eVar 3) aNil)) aNil)) (gNm 15) (sIf (cOr (cVal (eOp (dIn true) (eOp dIx (eOp dIx (eVar 14) (eC (.int 1))) (eVar 15)) (eTup (aCons (eC .non) (aCons (eOp dIx (eVar 4) (eVar 15)) aNil))))) (cAnd (cVal (eOp dIsNot (eOp dIx (eOp dIx (eVar 10) (eC (.int 1))) (eVar 15)) (eC .non))) (cVal (eOp dIs (eOp dIx (eOp dIx (eVar 14) (eC (.int 1))) (eVar 15)) (eC .non))))) (sRet (eC (.bl false))) sNext))) sNext))
    (sAsg (eVar 14) (gNm 10)))))))))))))))))
    (sRet (eC (.bl true)))))
end K15
set_option Elab.async false
set_option linter.all false
set_option maxRecDepth 100000
set_option maxHeartbeats 2000000
namespace K15
open PySem PySem.Spec D3 K20 K11
open K03 hiding SameD spAl alS same_refl
open PyProof.Rows (sortedS)
open K14 hiding t_Lalike
theorem fit_sub {B : Bk} {ws : List Str} {w : Str} {T : List Int} (h : T ∈ fitT B (ws ++ [w])) : T ∈ fitT B ws := by
  obtain ⟨h1, h2⟩ := List.mem_filter.mp h
  rw [sings_snoc, Bool.and_eq_true] at h2
  exact List.mem_filter.mpr ⟨h1, h2.1⟩
theorem fit_le {B : Bk} {ws : List Str} {w : Str} : (fitT B (ws ++ [w])).length ≤ (fitT B ws).length := by
  unfold fitT
  rw [← List.countP_eq_length_filter, ← List.countP_eq_length_filter]
  refine List.countP_mono_left fun T _ h => ?_
  rw [sings_snoc, Bool.and_eq_true] at h
  exact h.1
theorem agreeI_all {l : List Int} {t : Int} (h : agreeI l = some t) : ∀ v ∈ l, v = t := by
  unfold agreeI at h
  split at h
  · rename_i c
    rw [List.countP_eq_length] at c
    intro v hv
    have := c v hv
    rw [beq_iff_eq] at this
    rw [this]
    exact Option.some.inj h
  · cases h
theorem agree_true {P : List (List Int)} {T : List Int} (h : T ∈ P) (r : Nat) : agreeI (P.map fun T => T.getD r 0) = none ∨ agreeI (P.map fun T => T.getD r 0) = some (T.getD r 0) := by
  cases e : agreeI (P.map fun T => T.getD r 0) with
  | none => exact .inl rfl
  | some t =>
    right
    rw [agreeI_all e (T.getD r 0) (List.mem_map.mpr ⟨T, h, rfl⟩)]
theorem agree_keep {P P' : List (List Int)} (hs : ∀ T ∈ P', T ∈ P) (hne : P' ≠ []) {r : Nat} (h : agreeI (P.map fun T => T.getD r 0) ≠ none) : agreeI (P'.map fun T => T.getD r 0) ≠ none := by
  cases e : agreeI (P.map fun T => T.getD r 0) with
  | none => exact absurd e h
  | some t =>
    have : agreeI (P'.map fun T => T.getD r 0) = some t := agreeI_some (fun z => hne (List.map_eq_nil_iff.mp z)) fun v hv => by
      obtain ⟨T, hT, rfl⟩ := List.mem_map.mp hv
      exact agreeI_all e _ (List.mem_map.mpr ⟨T, hs T hT, rfl⟩)
    rw [this]
    exact fun z => by cases z
theorem many_sub {B : Bk} {ws : List Str} {w : Str} (h : NotMany B (ws ++ [w])) : NotMany B ws := fun k hk => by
  have := h k (by rw [List.length_append]; omega)
  rwa [List.take_append_of_le_length hk] at this
def FdAt (B : Bk) (ws : List Str) (S : Store) (F : List Nat) (d : Dv) : Prop :=
  (¬ NotMany B ws ∧ d = .tup [.str "TooManyCandidates"]) ∨
  (NotMany B ws ∧ ∃ (j : Nat) (ys : List Str), d = .tup [.int ((fitT B ws).length : Nat), osD (certP B ws), .obj j] ∧ j ∉ F ∧ S[j]? = some (.lst (ys.map Dv.str)) ∧ ys.length < 64 ∧ sortedS ys = true ∧ ys.Nodup ∧ (∀ y ∈ ys, y ∈ five) ∧ ∀ w, w ∈ ys ↔ w ∈ (fitT B ws).map (nxtW B ws))
theorem infer_fd {CW CM : Addr} {B : Bk} (hB : BkOk B) (hF : Five B) {ws : List Str} {T : List Int} (hT : T ∈ fitT B ws) (hl : ws.length ≤ 60) {S : Store} {jl : Nat} (g : S[jl]? = some (.lst (ws.map Dv.str))) {F : List Nat} (hFl : ∀ i ∈ F, i < S.length) {Q : KD} {E : KX}
    (q1 : ∀ S' d, FdAt B ws S' F d → NotMany B ws → Frm [] S S' → Q d S') (q2 : ¬ NotMany B ws → ∀ S', Frm [] S S' → E ⟨CM, none⟩ S') : spInfer CW CM [bkD B, .obj jl] S Q E := by
  have hg := grp hB _ ws rfl
  have hne : fitT B ws ≠ [] := fun z => by rw [z] at hT; cases hT
  refine ⟨B, jl, ws, five, rfl, g, hB, five_pool hF, by decide, by omega, fun c => absurd c (by omega), fun _ c => q2 c, fun _ hm => ⟨fun hn => absurd ((hg.nil_iff hB).mp hn) hne, fun hn S' j ys gj s1 s2 s3 f hj => ?_⟩⟩
  have hmem : ∀ w, w ∈ ys ↔ w ∈ (fitT B ws).map (nxtW B ws) := fun w => (s3 w).trans (hg.foll hB)
  have h5 : ∀ y ∈ ys, y ∈ five := fun y hy => by
    obtain ⟨x, hx, hw⟩ := (s3 y).mp hy
    exact foll_pool hB (five_pool hF) (hg.ok x hx) y hw
  have hyl : ys.length ≤ five.length := nodup_len s2 h5
  have hce : certL B (cands B ws) = certP B ws := List.map_congr_left fun r hr => hg.certain hB hn (List.mem_range.mp hr)
  refine q1 S' _ (.inr ⟨hm, j, ys, by rw [hg.size, hce], fun z => by have := hFl j z; omega, gj, ?_, s1, s2, h5, hmem⟩) hm f
  exact Nat.lt_of_le_of_lt hyl (by decide)
theorem FdAt.keep {B : Bk} {ws : List Str} {S S' : Store} {F G : List Nat} {d : Dv} (h : FdAt B ws S F d) (f : Frm G S S') (hG : ∀ i ∈ G, i ∈ F) {F' : List Nat} (hF : ∀ i ∈ F', i ∈ F ∨ S.length ≤ i) : FdAt B ws S' F' d := by
  rcases h with ⟨h1, h2⟩ | ⟨h1, j, ys, h2, h3, h4, h5, h6⟩
  · exact .inl ⟨h1, h2⟩
  · refine .inr ⟨h1, j, ys, h2, fun z => ?_, f.at h4 fun z => h3 (hG j z), h5, h6⟩
    rcases hF j z with q | q
    · exact h3 q
    · have := at_lt h4; omega
def thinS (most : Nat) (s : Nat × Bk) (vs : List (List Itm)) : Nat × Bk := let k := if s.1 * vs.length ≤ most then vs else vs.take 1; (s.1 * k.length, s.2 ++ [k])
def thinB (most : Nat) (B : Bk) : Bk := (B.foldl (thinS most) (1, [])).2
theorem thin_rel {most : Nat} : ∀ (l : Bk) (p : Nat) (A : Bk), ∃ C : Bk, (l.foldl (thinS most) (p, A)).2 = A ++ C ∧ C.length = l.length ∧ ∀ (k : Nat) r y, C[k]? = some r → l[k]? = some y → r = y ∨ r = y.take 1
  | [], p, A => ⟨[], by simp, rfl, fun k r y h => by cases h⟩
  | v :: l, p, A => by
    rw [List.foldl_cons]
    obtain ⟨C, h1, h2, h3⟩ := thin_rel l (thinS most (p, A) v).1 (thinS most (p, A) v).2
    refine ⟨(if p * v.length ≤ most then v else v.take 1) :: C, ?_, by rw [List.length_cons, h2]; rfl, fun k r y hr hy => ?_⟩
    · rw [show (thinS most (p, A) v) = ((thinS most (p, A) v).1, (thinS most (p, A) v).2) from rfl, h1]
      show (A ++ [if p * v.length ≤ most then v else v.take 1]) ++ C = _
      rw [List.append_assoc]; rfl
    · cases k with
      | zero =>
        cases hr; cases hy
        split
        · exact .inl rfl
        · exact .inr rfl
      | succ k => exact h3 k r y hr hy
end K15
set_option Elab.async false
set_option linter.all false
set_option maxRecDepth 100000
set_option maxHeartbeats 2000000
set_option Elab.async false
set_option linter.all false
set_option maxRecDepth 100000
set_option maxHeartbeats 2000000
set_option exponentiation.threshold 5000
set_option Elab.async false
set_option linter.all false
set_option maxRecDepth 100000
set_option maxHeartbeats 2000000
set_option exponentiation.threshold 5000
namespace K09
open PySem PySem.Spec D3 K20 K11
abbrev Wc := List (Str × Int)
def getS (cc : Wc) (y : Str) : Int := ((cc.find? fun p => decide (p.1 = y)).map (·.2)).getD 0
def putS (cc : Wc) (y : Str) (m : Int) : Wc := if (cc.any fun p => decide (p.1 = y)) = true then cc.map (fun p => if p.1 = y then (p.1, m) else p) else cc ++ [(y, m)]
def addS (cc : Wc) (y : Str) (o : Int) : Wc := putS cc y (getS cc y + o)
def keyS (cc : Wc) : List Str := cc.map (·.1)
theorem any_keyS {y : Str} {cc : Wc} : (cc.any fun p => decide (p.1 = y)) = true ↔ y ∈ keyS cc := by
  unfold keyS
  rw [List.any_eq_true, List.mem_map]
  constructor
  · rintro ⟨p, hp, e⟩
    exact ⟨p, hp, of_decide_eq_true e⟩
  · rintro ⟨p, hp, e⟩
    exact ⟨p, hp, decide_eq_true e⟩
theorem get_out {y : Str} : ∀ {cc : Wc}, y ∉ keyS cc → getS cc y = 0
  | [], _ => rfl
  | p :: cc, h => by
    have h1 : ¬ p.1 = y := fun z => h (by unfold keyS; rw [List.map_cons, z]; exact List.mem_cons_self)
    have ih := get_out (y := y) (cc := cc) fun z => h (by unfold keyS at z ⊢; rw [List.map_cons]; exact List.mem_cons_of_mem _ z)
    unfold getS at ih ⊢
    rw [List.find?_cons, decide_eq_false h1]
    exact ih
theorem put_keys {cc : Wc} {y : Str} {m : Int} : keyS (putS cc y m) = if y ∈ keyS cc then keyS cc else keyS cc ++ [y] := by
  unfold putS
  by_cases h : y ∈ keyS cc
  · rw [if_pos (any_keyS.mpr h), if_pos h]
    unfold keyS
    rw [List.map_map]
    refine List.map_congr_left fun p _ => ?_
    show (if p.1 = y then _ else _ : Str × Int).1 = p.1
    split <;> rfl
  · rw [if_neg (fun z => h (any_keyS.mp z)), if_neg h]
    unfold keyS
    rw [List.map_append]; rfl
theorem get_map {y z : Str} {m : Int} : ∀ (cc : Wc), getS (cc.map fun p => if p.1 = y then (p.1, m) else p) z = if z = y ∧ y ∈ keyS cc then m else getS cc z
  | [] => by
    rw [if_neg (by rintro ⟨_, h⟩; cases h)]; rfl
  | p :: cc => by
    have ih := get_map (y := y) (z := z) (m := m) cc
    unfold getS at ih ⊢
    rw [List.map_cons, List.find?_cons, List.find?_cons]
    by_cases e : p.1 = y
    · rw [if_pos e]
      by_cases q : p.1 = z
      · have hz : z = y := by rw [← q, e]
        show ((match decide (p.1 = z) with | true => some (p.1, m) | false => List.find? (fun p : Str × Int => decide (p.1 = z)) (cc.map fun p : Str × Int => if p.1 = y then (p.1, m) else p)).map (fun q : Str × Int => q.2)).getD 0 = _
        rw [decide_eq_true q, if_pos ⟨hz, by unfold keyS; rw [List.map_cons, e]; exact List.mem_cons_self⟩]; rfl
      · have hz : ¬ z = y := fun w => q (by rw [e, w])
        show ((match decide (p.1 = z) with | true => some (p.1, m) | false => List.find? (fun p : Str × Int => decide (p.1 = z)) (cc.map fun p : Str × Int => if p.1 = y then (p.1, m) else p)).map (fun q : Str × Int => q.2)).getD 0 = _
        rw [decide_eq_false q, if_neg (fun w => hz w.1)]
        rw [if_neg (fun w => hz w.1)] at ih
        exact ih
    · rw [if_neg e]
      by_cases q : p.1 = z
      · have hz : ¬ z = y := fun w => e (by rw [q, w])
        rw [decide_eq_true q, if_neg (fun w => hz w.1)]
      · rw [decide_eq_false q]
        show ((cc.map fun p => if p.1 = y then (p.1, m) else p).find? _ |>.map (·.2)).getD 0 = _
        rw [ih]
        have : (z = y ∧ y ∈ keyS cc) ↔ (z = y ∧ y ∈ keyS (p :: cc)) := by
          constructor
          · rintro ⟨a, b⟩
            exact ⟨a, by unfold keyS at b ⊢; rw [List.map_cons]; exact List.mem_cons_of_mem _ b⟩
          · rintro ⟨a, b⟩
            refine ⟨a, ?_⟩
            unfold keyS at b ⊢
            rw [List.map_cons] at b
            rcases List.mem_cons.mp b with c | c
            · exact (e c.symm).elim
            · exact c
        by_cases w : z = y ∧ y ∈ keyS cc
        · rw [if_pos w, if_pos (this.mp w)]
        · rw [if_neg w, if_neg fun v => w (this.mpr v)]
theorem get_put {cc : Wc} {y z : Str} {m : Int} : getS (putS cc y m) z = if z = y then m else getS cc z := by
  unfold putS
  by_cases h : y ∈ keyS cc
  · rw [if_pos (any_keyS.mpr h), get_map]
    by_cases e : z = y
    · rw [if_pos ⟨e, h⟩, if_pos e]
    · rw [if_neg (fun w => e w.1), if_neg e]
  · rw [if_neg (fun w => h (any_keyS.mp w))]
    by_cases e : z = y
    · subst e
      rw [if_pos rfl]
      have h0 : cc.find? (fun p => decide (p.1 = z)) = none := by
        rw [List.find?_eq_none]
        intro p hp w
        exact h (List.mem_map.mpr ⟨p, hp, of_decide_eq_true w⟩)
      unfold getS
      rw [List.find?_append, h0]
      simp
    · rw [if_neg e]
      unfold getS
      rw [List.find?_append]
      cases cc.find? fun p => decide (p.1 = z) with
      | some p => rfl
      | none =>
        have : decide (y = z) = false := decide_eq_false fun w => e w.symm
        simp [List.find?_cons, this]
def sumS (cc : Wc) : Int := (cc.map (·.2)).sum
theorem sum_add {y : Str} {o : Int} : ∀ (cc : Wc), (keyS cc).Nodup → sumS (addS cc y o) = sumS cc + o := by
  intro cc nd
  unfold addS putS
  by_cases h : y ∈ keyS cc
  · rw [if_pos (any_keyS.mpr h)]
    have key : ∀ (cc : Wc) (m : Int), (keyS cc).Nodup → y ∈ keyS cc → sumS (cc.map fun p => if p.1 = y then (p.1, m) else p) = sumS cc - getS cc y + m := by
      intro cc m
      induction cc with
      | nil => intro _ h; cases h
      | cons p cc ih =>
        intro nd h
        have nd' : (p.1 :: keyS cc).Nodup := nd
        rw [List.nodup_cons] at nd'
        by_cases e : p.1 = y
        · have hn : y ∉ keyS cc := by rw [← e]; exact nd'.1
          have hm : (cc.map fun p => if p.1 = y then (p.1, m) else p) = cc := by
            have : cc.map (fun p => if p.1 = y then (p.1, m) else p) = cc.map id := List.map_congr_left fun q hq => by
              rw [if_neg fun z => hn (List.mem_map.mpr ⟨q, hq, z⟩)]; rfl
            rw [this, List.map_id]
          have hg : getS (p :: cc) y = p.2 := by unfold getS; rw [List.find?_cons, decide_eq_true e]; rfl
          unfold sumS
          rw [List.map_cons, if_pos e, hm, hg]
          simp only [List.map_cons, List.sum_cons]
          omega
        · have hin : y ∈ keyS cc := by
            have h' : y ∈ p.1 :: keyS cc := h
            rcases List.mem_cons.mp h' with z | z
            · exact (e z.symm).elim
            · exact z
          have hg : getS (p :: cc) y = getS cc y := by unfold getS; rw [List.find?_cons, decide_eq_false e]
          have ih := ih nd'.2 hin
          unfold sumS at ih ⊢
          rw [List.map_cons, if_neg e, hg]
          simp only [List.map_cons, List.sum_cons]
          omega
    rw [key cc _ nd h]
    omega
  · rw [if_neg (fun w => h (any_keyS.mp w)), get_out h]
    unfold sumS
    rw [List.map_append, List.sum_append]
    simp
def wI (o : Int) (cc : Wc) : Itm → Wc
  | .ref _ => cc
  | .wd y => if 0 < o then addS cc y o else cc
def wV (cc : Wc) (p : Int × List Itm) : Wc := p.2.foldl (wI p.1) cc
/-- what the counts tell -/
structure Wok (cc : Wc) (f : Str → Int) (t : Int) (P : Str → Prop) : Prop where
  nd : (keyS cc).Nodup
  get : ∀ z, getS cc z = f z
  key : ∀ z, z ∈ keyS cc ↔ P z
  sum : sumS cc = t
theorem Wok.nil : Wok [] (fun _ => 0) 0 (fun _ => False) := ⟨List.nodup_nil, fun _ => rfl, fun z => ⟨fun h => (by cases h), fun h => h.elim⟩, rfl⟩
theorem Wok.congr {cc : Wc} {f f' : Str → Int} {t t' : Int} {P P' : Str → Prop} (h : Wok cc f t P) (hf : ∀ z, f z = f' z) (ht : t = t') (hP : ∀ z, P z ↔ P' z) : Wok cc f' t' P' :=
  ⟨h.nd, fun z => (h.get z).trans (hf z), fun z => (h.key z).trans (hP z), h.sum.trans ht⟩
def one (o : Option Str) (x : Itm) : Int := if counts o x = true then 1 else 0
theorem Wok.item {cc : Wc} {f : Str → Int} {t : Int} {P : Str → Prop} (h : Wok cc f t P) {o : Int} (ho : 0 ≤ o) (x : Itm) : Wok (wI o cc x) (fun z => f z + o * one (some z) x) (t + o * one none x) (fun z => P z ∨ (0 < o ∧ x = .wd z)) := by
  cases x with
  | ref n =>
    refine h.congr (fun z => ?_) ?_ (fun z => ?_)
    · have : one (some z) (.ref n) = 0 := rfl
      rw [this]; omega
    · have : one none (.ref n) = 0 := rfl
      rw [this]; omega
    · exact ⟨.inl, fun w => w.elim id fun q => by cases q.2⟩
  | wd y =>
    have h1 : one none (.wd y) = 1 := rfl
    have h2 : ∀ z, one (some z) (.wd y) = if y = z then 1 else 0 := fun z => by
      unfold one counts
      by_cases c : y = z
      · rw [if_pos c, if_pos (decide_eq_true c)]
      · rw [if_neg c, if_neg (by simp [c])]
    show Wok (if 0 < o then addS cc y o else cc) _ _ _
    by_cases c : 0 < o
    · rw [if_pos c]
      refine ⟨?_, fun z => ?_, fun z => ?_, ?_⟩
      · unfold addS
        rw [put_keys]
        split
        · exact h.nd
        · rename_i hn
          rw [List.nodup_append]
          refine ⟨h.nd, by simp, fun a ha b hb => ?_⟩
          rw [List.mem_singleton.mp hb]
          rintro rfl
          exact hn ha
      · unfold addS
        rw [get_put, h2]
        by_cases e : z = y
        · rw [if_pos e, if_pos e.symm, e, h.get]; omega
        · rw [if_neg e, if_neg fun w => e w.symm, h.get]; omega
      · unfold addS
        rw [put_keys]
        have e : (Itm.wd y = Itm.wd z) ↔ z = y := ⟨fun w => by cases w; rfl, fun w => by rw [w]⟩
        rw [e]
        split
        · rename_i hy
          rw [h.key]
          exact ⟨.inl, fun w => w.elim id fun q => by rw [q.2]; exact (h.key y).mp hy⟩
        · rw [List.mem_append, h.key, List.mem_singleton]
          exact ⟨fun w => w.elim .inl fun q => .inr ⟨c, q⟩, fun w => w.elim .inl fun q => .inr q.2⟩
      · rw [sum_add cc h.nd, h.sum, h1]; omega
    · have e : o = 0 := by omega
      subst e
      rw [if_neg c]
      refine h.congr (fun z => by omega) (by omega) fun z => ?_
      exact ⟨.inl, fun w => w.elim id fun q => (c q.1).elim⟩
theorem ones_filter (o : Option Str) : ∀ v : List Itm, (v.map (one o)).sum = ((v.filter (counts o)).length : Int)
  | [] => rfl
  | x :: v => by
    rw [List.map_cons, List.sum_cons, ones_filter o v]
    unfold one
    by_cases c : counts o x = true
    · rw [if_pos c, List.filter_cons_of_pos c, List.length_cons]; omega
    · rw [if_neg c, List.filter_cons_of_neg c]; omega
theorem Wok.verse {o : Int} (ho : 0 ≤ o) : ∀ (v : List Itm) {cc : Wc} {f : Str → Int} {t : Int} {P : Str → Prop}, Wok cc f t P →
    Wok (v.foldl (wI o) cc) (fun z => f z + o * (v.map (one (some z))).sum) (t + o * (v.map (one none)).sum) (fun z => P z ∨ (0 < o ∧ Itm.wd z ∈ v))
  | [], cc, f, t, P, h => h.congr (fun z => by simp) (by simp) (fun z => by simp)
  | x :: v, cc, f, t, P, h => by
    have := Wok.verse ho v (h.item ho x)
    rw [List.foldl_cons]
    refine this.congr (fun z => ?_) ?_ (fun z => ?_)
    · rw [List.map_cons, List.sum_cons, Int.mul_add]; omega
    · rw [List.map_cons, List.sum_cons, Int.mul_add]; omega
    · rw [List.mem_cons]
      constructor
      · rintro ((a | b) | c)
        · exact .inl a
        · exact .inr ⟨b.1, .inl b.2.symm⟩
        · exact .inr ⟨c.1, .inr c.2⟩
      · rintro (a | ⟨b, c | d⟩)
        · exact .inl (.inl a)
        · exact .inl (.inr ⟨b, c.symm⟩)
        · exact .inr ⟨b, d⟩
theorem Wok.row : ∀ (l : List (Int × List Itm)), (∀ p ∈ l, 0 ≤ p.1) → ∀ {cc : Wc} {f : Str → Int} {t : Int} {P : Str → Prop}, Wok cc f t P →
    Wok (l.foldl wV cc) (fun z => f z + (l.map fun p => p.1 * ((p.2.filter (counts (some z))).length : Int)).sum) (t + (l.map fun p => p.1 * ((p.2.filter (counts none)).length : Int)).sum) (fun z => P z ∨ ∃ p ∈ l, 0 < p.1 ∧ Itm.wd z ∈ p.2)
  | [], _, cc, f, t, P, h => h.congr (fun z => by simp) (by simp) (fun z => by simp)
  | p :: l, hl, cc, f, t, P, h => by
    have h1 := Wok.verse (hl p List.mem_cons_self) p.2 h
    have := Wok.row l (fun q hq => hl q (List.mem_cons_of_mem _ hq)) h1
    rw [List.foldl_cons]
    refine this.congr (fun z => ?_) ?_ (fun z => ?_)
    · rw [List.map_cons, List.sum_cons, ones_filter]; omega
    · rw [List.map_cons, List.sum_cons, ones_filter]; omega
    · constructor
      · rintro ((a | b) | ⟨q, hq, c⟩)
        · exact .inl a
        · exact .inr ⟨p, List.mem_cons_self, b⟩
        · exact .inr ⟨q, List.mem_cons_of_mem _ hq, c⟩
      · rintro (a | ⟨q, hq, c⟩)
        · exact .inl (.inl a)
        · rcases List.mem_cons.mp hq with e | e
          · rw [e] at c; exact .inl (.inr c)
          · exact .inr ⟨q, e, c⟩
end K09
set_option Elab.async false
set_option linter.all false
set_option maxRecDepth 100000
set_option maxHeartbeats 2000000
set_option exponentiation.threshold 5000
set_option Elab.async false
set_option linter.all false
set_option maxRecDepth 100000
set_option maxHeartbeats 2000000
set_option exponentiation.threshold 5000
set_option Elab.async false
set_option linter.all false
set_option maxRecDepth 100000
set_option maxHeartbeats 2000000
set_option exponentiation.threshold 5000
set_option Elab.async false
set_option linter.all false
set_option maxRecDepth 100000
set_option maxHeartbeats 2000000
set_option exponentiation.threshold 5000
set_option Elab.async false
set_option linter.all false
set_option maxRecDepth 100000
set_option maxHeartbeats 2000000
set_option exponentiation.threshold 5000
namespace K09
open PySem PySem.Spec D3 K20 K11
def cntR (n : Nat) (v : List Itm) : Int := (v.map fun x => if x = .ref (n : Int) then 1 else 0).sum
theorem item_st {u : Int} {N n : Nat} {w : Lw} {x : Itm} (hl : w.starts.length = N) (hn : n < N) (hx : ∀ m, x = .ref m → 0 ≤ m) : (itemStep u w x).starts.getD n 0 = w.starts.getD n 0 + u * (if x = .ref (n : Int) then 1 else 0) := by
  cases x with
  | wd y =>
    rw [item_wd, if_neg (by intro z; cases z)]; omega
  | ref m =>
    have hm := hx m rfl
    show (addAt w.starts m u).getD n 0 = _
    rw [List.getD_eq_getElem?_getD, List.getD_eq_getElem?_getD, addAt_get, List.getElem?_eq_getElem (by omega)]
    by_cases c : n = m.toNat
    · have e : Itm.ref m = Itm.ref (n : Int) := by congr 1; omega
      rw [if_pos e]
      simp [c]
    · have e : ¬ Itm.ref m = Itm.ref (n : Int) := fun z => by cases z; exact c (by omega)
      rw [if_neg e]
      simp [c]
theorem verse_st {u : Int} {N n : Nat} (hn : n < N) : ∀ (v : List Itm) (w : Lw), w.starts.length = N → (∀ m, Itm.ref m ∈ v → 0 ≤ m) → (v.foldl (itemStep u) w).starts.getD n 0 = w.starts.getD n 0 + u * cntR n v
  | [], w, _, _ => by
    show _ = _ + u * 0
    rw [Int.mul_zero, Int.add_zero]; rfl
  | x :: v, w, hl, hv => by
    have e : cntR n (x :: v) = (if x = .ref (n : Int) then 1 else 0) + cntR n v := by unfold cntR; rw [List.map_cons, List.sum_cons]
    rw [List.foldl_cons, verse_st hn v _ (by rw [item_len]; exact hl) fun m h => hv m (List.mem_cons_of_mem _ h), item_st hl hn fun m h => hv m (by rw [h]; exact List.mem_cons_self), e, Int.mul_add]
    omega
theorem verses_st {N n : Nat} (hn : n < N) : ∀ (l : List (Int × List Itm)) (w : Lw), w.starts.length = N → (∀ p ∈ l, ∀ m, Itm.ref m ∈ p.2 → 0 ≤ m) → (l.foldl verseStep w).starts.getD n 0 = w.starts.getD n 0 + (l.map fun p => p.1 * cntR n p.2).sum
  | [], w, _, _ => by simp
  | p :: l, w, hl, hv => by
    have e : verseStep w p = p.2.foldl (itemStep p.1) w := rfl
    rw [List.foldl_cons, verses_st hn l _ (by rw [e, items_len]; exact hl) fun q hq => hv q (List.mem_cons_of_mem _ hq), e, verse_st hn p.2 w hl (hv p List.mem_cons_self), List.map_cons, List.sum_cons]
    omega
abbrev sS (B : Bk) (ts : List Int) (s : Int) (k n : Nat) : Int := (bookK B ts s k).starts.getD n 0
theorem sS_zero {B : Bk} {ts : List Int} {s : Int} {n : Nat} (hn : n < B.length) : sS B ts s 0 n = if n = 0 then s else 0 := by
  show (startL B.length s).getD n 0 = _
  unfold startL
  rw [List.getD_eq_getElem?_getD, List.getElem?_set]
  by_cases z : n = 0
  · subst z; simp [hn]
  · rw [if_neg (fun y => z y.symm), if_neg z, List.getElem?_replicate, if_pos hn]; rfl
theorem sS_succ {B : Bk} (hB : BkOk B) {ts : List Int} {s : Int} {k n : Nat} {r : List (List Itm)} (hr : B[k]? = some r) (hn : n < B.length) :
    sS B ts s (k + 1) n = sS B ts s k n + (((usesL r.length (ts.getD k 0) (sS B ts s k k)).zip r).map fun p => p.1 * cntR n p.2).sum := by
  have hgd : B.getD k [] = r := by rw [List.getD_eq_getElem?_getD, hr]; rfl
  show (bookK B ts s (k + 1)).starts.getD n 0 = _
  rw [bookK_succ]
  unfold bookStep rowStep
  rw [hgd, verses_st hn _ _ (bookK_len k) fun p hp m hm => (hB.within r (List.mem_of_getElem? hr) p.2 (List.of_mem_zip (show (p.1, p.2) ∈ _ from hp)).2 m hm).1]
theorem uses_mul {n : Nat} (hn : 1 ≤ n) (t c : Int) : usesL n t (n * c) = List.replicate n c := by
  have hn0 : (0 : Int) < n := by omega
  unfold usesL
  refine List.ext_getElem? fun v => ?_
  rw [List.getElem?_map, List.getElem?_replicate]
  by_cases h : v < n
  · rw [List.getElem?_range h, if_pos h]
    show some (useOf n t (n * c) v) = some c
    congr 1
    unfold useOf
    have a0 := Int.emod_nonneg ((v : Int) - t) (Int.ne_of_gt hn0)
    rw [Int.mul_ediv_cancel_left _ (Int.ne_of_gt hn0), Int.mul_emod_right, decide_eq_false (by omega)]
    show c + 0 = c
    omega
  · rw [List.getElem?_eq_none (by rw [List.length_range]; omega), if_neg h]; rfl
theorem zip_rep (f : List Itm → Int) (c : Int) : ∀ r : List (List Itm), (((List.replicate r.length c).zip r).map fun p => p.1 * f p.2).sum = c * (r.map f).sum
  | [] => by simp
  | v :: r => by
    rw [List.length_cons, List.replicate_succ, List.zip_cons_cons, List.map_cons, List.map_cons, List.sum_cons, List.sum_cons, zip_rep f c r, Int.mul_add]
/-- every refrain below j has come around -/
def Good (B : Bk) (ts : List Int) (s : Int) (j : Nat) : Prop := ∀ i, i < j → ((B.getD i []).length : Int) ∣ sS B ts s i i
theorem scale {B : Bk} (hB : BkOk B) {ts ts' : List Int} {s m : Int} {j : Nat} (g : Good B ts s j) (hj : j ≤ B.length) : ∀ k, k ≤ j → ∀ n, n < B.length → sS B ts' (m * s) k n = m * sS B ts s k n
  | 0, _, n, hn => by
    rw [sS_zero hn, sS_zero hn]
    split <;> simp
  | k + 1, hk, n, hn => by
    have ih := scale hB (ts' := ts') (m := m) g hj k (by omega)
    obtain ⟨r, hr⟩ : ∃ r, B[k]? = some r := ⟨_, List.getElem?_eq_getElem (by omega)⟩
    have hgd : B.getD k [] = r := by rw [List.getD_eq_getElem?_getD, hr]; rfl
    have hrow := hB.row hr
    obtain ⟨c, hc⟩ := g k (by omega)
    rw [hgd] at hc
    have e1 : sS B ts' (m * s) k k = (r.length : Int) * (m * c) := by
      rw [ih k (by omega), hc, ← Int.mul_assoc, ← Int.mul_assoc, Int.mul_comm m]
    rw [sS_succ hB hr hn, sS_succ hB hr hn, ih n hn, e1, hc, uses_mul hrow.1, uses_mul hrow.1, zip_rep, zip_rep, Int.mul_add, Int.mul_assoc]
end K09
set_option Elab.async false
set_option linter.all false
set_option maxRecDepth 100000
set_option maxHeartbeats 2000000
set_option exponentiation.threshold 5000
set_option Elab.async false
set_option linter.all false
set_option maxRecDepth 100000
set_option maxHeartbeats 2000000
set_option exponentiation.threshold 5000
namespace K09
open PySem PySem.Spec D3 K20 K11
def Tt (n : Int) : Prop := ∃ a b : Nat, n = ((2 ^ a * 3 ^ b : Nat) : Int)
theorem Tt.one : Tt 1 := ⟨0, 0, rfl⟩
theorem Tt.small {n : Int} (h0 : 1 ≤ n) (h1 : n ≤ 4) : Tt n := by
  have : n = 1 ∨ n = 2 ∨ n = 3 ∨ n = 4 := by omega
  rcases this with rfl | rfl | rfl | rfl
  · exact ⟨0, 0, rfl⟩
  · exact ⟨1, 0, rfl⟩
  · exact ⟨0, 1, rfl⟩
  · exact ⟨2, 0, rfl⟩
theorem Tt.pos {n : Int} (h : Tt n) : 1 ≤ n := by
  obtain ⟨a, b, rfl⟩ := h
  have : 0 < 2 ^ a * 3 ^ b := Nat.mul_pos (Nat.pow_pos (by decide)) (Nat.pow_pos (by decide))
  omega
end K09
set_option Elab.async false
set_option linter.all false
set_option maxRecDepth 100000
set_option maxHeartbeats 2000000
set_option exponentiation.threshold 5000
namespace K09
open PySem PySem.Spec D3 K20 K11
theorem denL_strs {f : Nat → Option PyData} : ∀ ys : List Str, denL f (ys.map Dv.str) = some (ys.map PyData.str)
  | [] => by simp [denL]
  | y :: ys => by
    rw [List.map_cons, denL, denL_strs ys]
    rfl
theorem fO_strs {S : Store} {b : Nat} {ys : List Str} (h : getL S b = some (ys.map Dv.str)) : den (fO S 4) (.obj b) = some (.list (ys.map PyData.str)) := by
  show fO S 4 b = _
  rw [fO, h]
  show (denL (fO S 3) (ys.map Dv.str)).map PyData.list = _
  rw [denL_strs]; rfl
theorem shaped_strs : ∀ ys : List Str, (∀ y ∈ ys, PyData.canLay0 (.str y) = true) → SeqAt.shaped (.list (ys.map PyData.str)) = true := by
  intro ys h
  have h1 : ∀ ys : List Str, (∀ y ∈ ys, PyData.canLay0 (.str y) = true) → PyData.canLayAll0 (ys.map PyData.str) = true := fun ys => by
    induction ys with
    | nil => intro _; simp [PyData.canLayAll0]
    | cons n ns ih =>
      intro h
      rw [List.map_cons, PyData.canLayAll0, h n List.mem_cons_self, ih fun y hy => h y (List.mem_cons_of_mem _ hy)]; rfl
  have h2 : ∀ ys : List Str, PyData.depthAll (ys.map PyData.str) ≤ 1 := fun ys => by
    induction ys with
    | nil => simp [PyData.depthAll]
    | cons n ns ih => simp [PyData.depthAll, PyData.depth]; omega
  have h3 := h2 ys
  simp [SeqAt.shaped, PyData.canLay0, PyData.depth, h1 ys h]
  omega
theorem eqv_strs : ∀ ys : List Str, PyData.eqvAll (ys.map PyData.str) (ys.map PyData.str) = true
  | [] => by simp [PyData.eqvAll]
  | y :: ys => by
    rw [List.map_cons, PyData.eqvAll, eqv_strs ys]
    simp [PyData.eqv]
theorem dNe_strs {S : Store} {b c : Nat} {ys : List Str} {Q : KD} (hb : getL S b = some (ys.map Dv.str)) (hc : getL S c = some (ys.map Dv.str)) (hy : ∀ y ∈ ys, PyData.canLay0 (.str y) = true) (h : Q (.bl false) S) : dNe (.obj b) (.obj c) S Q := by
  refine ⟨_, _, fO_strs hb, fO_strs hc, shaped_strs _ hy, shaped_strs _ hy, ?_⟩
  have : PyData.eqv (.list (ys.map PyData.str)) (.list (ys.map PyData.str)) = true := by
    rw [PyData.eqv]; exact eqv_strs ys
  rw [this]
  exact h
theorem five_lay : ∀ y ∈ five, PyData.canLay0 (.str y) = true := by decide +kernel
end K09
set_option Elab.async false
set_option linter.all false
set_option maxRecDepth 100000
set_option maxHeartbeats 2000000
namespace K15
open PySem PySem.Spec D3 K20 K11
open K03 hiding SameD spAl alS same_refl
open PyProof.Rows (sortedS)
open K14 hiding t_Lalike
theorem row_of {B : Bk} (hB : BkOk B) (h5 : Five B) {k : Nat} {y r : List (List Itm)} (hy : B[k]? = some y) (hr : r = y ∨ r = y.take 1) : Row5 B.length k r := by
  have hy4 := hB.row hy
  have hsub : ∀ v ∈ r, v ∈ y := fun v hv => by
    rcases hr with rfl | rfl
    · exact hv
    · exact List.mem_of_mem_take hv
  refine ⟨?_, fun v hv => ?_⟩
  · rcases hr with rfl | rfl
    · exact hy4
    · rw [List.length_take]; omega
  have hv := hsub v hv
  obtain ⟨v1, v2, _⟩ := hB.verse hy hv
  refine ⟨⟨v1, v2⟩, fun x hx => ?_⟩
  cases x with
  | wd w => exact .inl ⟨w, h5 y (List.mem_of_getElem? hy) v hv w hx, rfl⟩
  | ref m => exact .inr ⟨m, rfl, hB.ref hy hv hx⟩
theorem thin_ok {B : Bk} (hB : BkOk B) (h5 : Five B) (most : Nat) : BkOk (thinB most B) ∧ Five (thinB most B) ∧ (thinB most B).length = B.length := by
  obtain ⟨C, h1, h2, h3⟩ := thin_rel (most := most) B 1 []
  have e : thinB most B = C := by unfold thinB; rw [h1]; rfl
  rw [e]
  obtain ⟨q1, q2⟩ := bkOk5 (B := C) (by rw [h2]; exact hB.pos) (by rw [h2]; exact hB.le) fun k r hk => by
    obtain ⟨y, hy⟩ : ∃ y, B[k]? = some y := ⟨_, List.getElem?_eq_getElem (by rw [← h2]; exact at_lt hk)⟩
    rw [h2]
    exact row_of hB h5 hy (h3 k r y hk hy)
  exact ⟨q1, q2, h2⟩
def spThin : Spd := fun ds S Q E => ∃ (B : Bk) (most : Nat), ds = [bkD B, .int most] ∧ BkOk B ∧ 1 ≤ most ∧ most < 1000000 ∧ ∀ S', Frm [] S S' → Q (bkD (thinB most B)) S'
theorem r_thin : ∀ ds S Qd Ed, spThin ds S Qd Ed → StClo S → t_Lthin (WEx S.length Ed) { nx := fun _ S' => Gc S.length Qd .non S', rt := Gc S.length Qd } (startD 6 ds) S := by
  rintro _ S Qd Ed ⟨B, most, rfl, hB, hm1, hm, h⟩ hc
  have hrow := BkOk.pos_row hB
  have h60 := hB.le
  unfold t_Lthin
  refine seqI ?_
  simp! only []
  have g0 : (S ++ [Mo.lst []])[S.length]? = some (.lst (([] : Bk).map rfD)) := get_at
  have f0 : Frm [] S (S ++ [Mo.lst []]) := .app
  generalize S ++ [Mo.lst []] = S0 at *
  have hl3 : S.length ≤ S.length := Nat.le_refl _
  generalize hle : S.length = l3 at *
  refine seqI ?_
  let st : Nat → Nat × Bk := fun k => (B.take k).foldl (thinS most) (1, [])
  refine sFor_inv (S1 := S0) (jSeq (bkD B) (B.map rfD)) (fun k σ S' => ∃ (o4 o5 : Option Dv), S'[l3]? = some (.lst ((st k).2.map rfD)) ∧ (st k).1 ≤ most ∧ (st k).2.length ≤ k ∧ Frm [] S S' ∧ σ = [some (bkD B), some (.int most), some (.int ((st k).1 : Nat)), some (.obj l3), o4, o5]) (hw_seq (fun R hR => ?_) rfl) ⟨_, _, g0, hm1, Nat.le_refl _, f0, rfl⟩ (fun _ _ _ _ _ => rfl) ?_ ?_
  · dsimp! only []
    exact hR
  · rintro k d σ S1 hd ⟨o4, o5, g, hp, hn, f, rfl⟩ K hK
    obtain ⟨r, hr, rfl⟩ := jSeq_get hd
    have hr4 := hrow r (List.mem_of_getElem? hr)
    have hkl := at_lt hr
    have hst : st (k + 1) = thinS most (st k) r := by
      show (B.take (k + 1)).foldl _ _ = _
      rw [take_succ0 hr, List.foldl_append]; rfl
    generalize st k = pk at *
    obtain ⟨p, A⟩ := pk
    have hp : p ≤ most := hp
    have hn : A.length ≤ k := hn
    have g : S1[l3]? = some (.lst (A.map rfD)) := g
    rw [hst] at hK
    simp! only []
    refine seqI ?_
    refine sAsg_gen (fun d S' => d = rfD (if p * r.length ≤ most then r else r.take 1) ∧ S' = S1) (fun R hR => ?_) ?_
    · simp! only [rfD]
      rw [List.length_map]
      refine ⟨.inl (.inr ⟨by omega, by omega⟩), ?_⟩
      by_cases c : p * r.length ≤ most
      · rw [if_pos (decide_eq_true (by rw [← Int.natCast_mul]; omega))]
        refine hR _ _ ⟨?_, rfl⟩
        rw [if_pos c]; rfl
      · rw [if_neg (by rw [decide_eq_true_eq, ← Int.natCast_mul]; omega)]
        rw [show (some (1 : Int)) = some (((1 : Nat)) : Int) from rfl, cut_to2]
        refine hR _ _ ⟨?_, rfl⟩
        rw [if_neg c, ← List.map_take]; rfl
    rintro d S' ⟨rfl, rfl⟩
    have hkp : p * (if p * r.length ≤ most then r else r.take 1).length ≤ most := by
      split
      · assumption
      · rw [List.length_take, Nat.min_eq_left hr4.1, Nat.mul_one]; exact hp
    have hk4 : (if p * r.length ≤ most then r else r.take 1).length ≤ 4 := by
      split
      · exact hr4.2
      · rw [List.length_take]; omega
    have hth : thinS most (p, A) r = (p * (if p * r.length ≤ most then r else r.take 1).length, A ++ [if p * r.length ≤ most then r else r.take 1]) := rfl
    rw [hth] at hK
    generalize (if p * r.length ≤ most then r else r.take 1) = kp at *
    dsimp only
    refine seqI ?_
    simp! only [rfD]
    rw [List.length_map]
    refine ⟨.inl (.inr ⟨by omega, by omega⟩), .inl ⟨_, g⟩, _, getL_iff.mpr g, by rw [List.length_map]; exact small_line (by omega), ?_⟩
    have f2 : Frm [l3] S' (S'.set l3 (.lst (A.map rfD ++ [rfD kp]))) := .set List.mem_cons_self
    refine hK _ _ (.inl ⟨_, _, ?_, hkp, by rw [List.length_append]; show A.length + 1 ≤ k + 1; omega, f.trans f2 fun j hj => .inr (by rw [List.mem_singleton.mp hj, hle]; exact hl3), by rw [Int.natCast_mul]⟩)
    rw [List.getElem?_set_self (at_lt g), List.map_append]; rfl
  · rintro σ S1 ⟨o4, o5, g, hp, hn, f, rfl⟩
    have e : (jSeq (bkD B) (B.map rfD)).items.length = B.length := jSeq_len
    rw [e] at g
    have e2 : (st B.length).2 = thinB most B := by
      show ((B.take B.length).foldl (thinS most) (1, [])).2 = _
      rw [List.take_length]; rfl
    rw [e2] at g
    simp! only []
    exact ⟨_, getL_iff.mpr g, .inl (h S1 f)⟩
end K15
set_option Elab.async false
set_option linter.all false
set_option maxRecDepth 100000
set_option maxHeartbeats 2000000
namespace K15
open PySem PySem.Spec D3 K20 K11
open K03 hiding SameD spAl alS same_refl
open PyProof.Rows (sortedS)
open K14 hiding t_Lalike
theorem in_strs {w : Str} : ∀ ys : List Str, inD (.str w) (ys.map Dv.str) = decide (w ∈ ys)
  | [] => rfl
  | y :: ys => by
    have ih := in_strs (w := w) ys
    unfold inD at ih ⊢
    rw [List.map_cons, List.any_cons, ih]
    have e : eqD (.str y) (.str w) = decide (y = w) := rfl
    rw [e, Bool.eq_iff_iff]
    simp only [Bool.or_eq_true, decide_eq_true_eq, List.mem_cons]
    exact ⟨fun h => h.imp Eq.symm id, fun h => h.imp Eq.symm id⟩
theorem flat_strs : ∀ ys : List Str, flatL (ys.map Dv.str) = true
  | [] => rfl
  | _ :: ys => flat_strs ys
theorem dIn_ok {u : Option Int} {t : Int} {S : Store} {Q : KD} (h : u = none ∨ u = some t) (q : Q (.bl false) S) : dIn true (oD u) (.tup [.non, .int t]) S Q := by
  rcases h with rfl | rfl
  · exact ⟨_, rfl, rfl, rfl, q⟩
  · refine ⟨_, rfl, rfl, rfl, ?_⟩
    have e : inD (oD (some t)) [.non, .int t] = true := by
      show (eqD .non (.int t) || (eqD (.int t) (.int t) || false)) = true
      have : eqD (.int t) (.int t) = decide (t = t) := rfl
      rw [this, decide_eq_true rfl, Bool.true_or, Bool.or_true]
    rw [e]
    exact q
theorem dNe_is {i : Int} {x : Str} {S : Store} {Q : KD} : dNe (.int i) (.str x) S Q = Q (.bl true) S := rfl
theorem dEq_is {i : Int} {x : Str} {S : Store} {Q : KD} : dEq (.int i) (.str x) S Q = Q (.bl false) S := rfl
theorem dNe_ss {x y : Str} {S : Store} {Q : KD} : dNe (.str x) (.str y) S Q = Q (.bl (!decide (x = y))) S := rfl
theorem cert0 {B : Bk} (hB : BkOk B) : certP B [] = B.map fun r => if r.length = 1 then some 0 else none := by
  have hg := grp hB _ [] rfl
  have hne : cands B [] ≠ [] := fun z => by cases z
  have hcd : certP B [] = (List.range B.length).map fun r => if sz B r = 1 then some 0 else none := by
    unfold certP
    refine List.map_congr_left fun r hr => ?_
    rw [← hg.certain hB hne (List.mem_range.mp hr)]
    show agree [known B (c0 B) r] = _
    have hk : known B (c0 B) r = if sz B r = 1 then some 0 else none := by
      unfold known
      split
      · rfl
      · exact rep_none
    rw [hk]
    unfold agree
    split <;> simp_all
  rw [hcd]
  refine List.ext_getElem? fun k => ?_
  rw [List.getElem?_map, List.getElem?_map]
  by_cases c : k < B.length
  · rw [List.getElem?_range c, List.getElem?_eq_getElem c]
    have hs : sz B k = (B[k]).length := sz_of (List.getElem?_eq_getElem c)
    show some (if sz B k = 1 then some 0 else none) = some (if (B[k]).length = 1 then some 0 else none)
    rw [hs]
  · rw [List.getElem?_eq_none (by rw [List.length_range]; omega), List.getElem?_eq_none (by omega)]; rfl
theorem not_many0 (B : Bk) : NotMany B [] := fun k hk => by
  have : k = 0 := by simpa using hk
  subst this
  show 1 ≤ 500
  omega
theorem all_fit {B : Bk} {T : List Int} (hT : TOk B T) : T ∈ fitT B [] := List.mem_filter.mpr ⟨all_iff.mpr hT, rfl⟩
theorem num0 {B : Bk} : (fitT B []).length = K14.prodL B := by
  have e : fitT B [] = allT B := List.filter_eq_self.mpr (fun T _ => rfl)
  rw [e]
  exact allT_len _ rfl
theorem r_law (C CW CM : Addr) (RN : List (Addr × Str)) (hC : RN.lookup CM = some ("TooManyCandidates" : Str)) : ∀ ds S Qd Ed, D3.spLaw 63 ds S Qd Ed → StClo S → t_law RN K11.spBegun spThin K11.spBook K11.spTurns spLFrom (spInfer CW CM) (K14.spAl 5) K11.spTake spLSing (WEx S.length Ed) { nx := fun _ S' => Gc S.length Qd .non S', rt := Gc S.length Qd } (startD 16 ds) S := by
  rintro _ S Qd Ed ⟨x, ns, rfl, hx, hl, _, h⟩ hc
  have q0 : ∀ {x : Dv} {l : List Dv}, L2.atI (x :: l) (0 : Int) = some x := fun {x l} => atI_nat (i := 0) rfl
  have q1 : ∀ {x y : Dv} {l : List Dv}, L2.atI (x :: y :: l) (1 : Int) = some y := fun {x y l} => atI_nat (i := 1) rfl
  have q2 : ∀ {x y z : Dv} {l : List Dv}, L2.atI (x :: y :: z :: l) (2 : Int) = some z := fun {x y z l} => atI_nat (i := 2) rfl
  unfold t_law
  refine seqI ?_
  simp! only []
  refine ⟨x, ns, rfl, hx, hl, fun z => ?_⟩
  have hh : Bx (S.length + 1) S.length (S ++ [.lst (ns.map Dv.int), .lst [.obj S.length, .int z]]) := ⟨z, ns, st_getk, st_get0⟩
  have hret : ∀ T, Gc S.length Qd (.bl true) T := fun T => .inl (h T)
  generalize S ++ [.lst (ns.map Dv.int), .lst [.obj S.length, .int z]] = S0 at *
  generalize ha : S.length + 1 = a at *
  generalize hb : S.length = b at *
  refine seqI ?_
  refine sFor_inv (S1 := S0) (jRg 3) (fun i σ S' => Bx a b S' ∧ ∃ o0 o2 o3 o4 o5 o6 o7 o8 o9 o10 o11 o12 o13 o14 o15 : Option Dv, σ = [o0, some (.obj a), o2, o3, o4, o5, o6, o7, o8, o9, o10, o11, o12, o13, o14, o15]) (hw_rg1 (fun R hR => ?_) (by decide)) ⟨hh, some x, _, _, _, _, _, _, _, _, _, _, _, _, _, _, rfl⟩ (fun _ _ _ _ _ => trivial) ?_ ?_
  · dsimp! only []
    exact hR
  · rintro i d σ S1 hd ⟨hx1, o0, o2, o3, o4, o5, o6, o7, o8, o9, o10, o11, o12, o13, o14, o15, rfl⟩ K hK
    obtain ⟨hi, rfl⟩ := jRg_get hd
    simp! only []
    refine seqI ?_
    simp! only []
    refine ⟨a, b, 30, rfl, hx1, by decide, by decide, fun B0 S3 hB0 hF0 hBl hu3 => ?_⟩
    obtain ⟨hB, hF, hBn⟩ := thin_ok hB0 hF0 3000
    refine ⟨B0, 3000, rfl, hB0, by decide, by decide, fun S4 f4 => ?_⟩
    have hx4 : Bx a b S4 := bx_frm hu3.bx f4 ⟨by simp, by simp⟩
    have hB30 : (thinB 3000 B0).length ≤ 30 := by omega
    generalize thinB 3000 B0 = B at *
    clear hB0 hF0 hBl hBn
    have hrow := BkOk.pos_row hB
    refine seqI ?_
    simp! only []
    refine ⟨a, b, B, rfl, hx4, hB, fun T S5 hTo hu5 => ?_⟩
    have hT := TOk.of hTo
    have hx5 : Bx a b (S5 ++ [Mo.lst []]) := bx_frm hu5.bx (Frm.app (F := [])) ⟨by simp, by simp⟩
    have g5 : (S5 ++ [Mo.lst []])[S5.length]? = some (.lst (([] : List Str).map Dv.str)) := get_at
    obtain ⟨la, lb⟩ := hu5.bx.lt
    have l5x : (S5 ++ [Mo.lst []]).length = S5.length + 1 := by rw [List.length_append]; rfl
    have n5a : S5.length ≠ a := by omega
    have n5b : S5.length ≠ b := by omega
    dsimp only
    refine seqI ?_
    simp! only []
    refine ⟨(T, []), rfl, by show 0 < 99999; decide, fun S6 d t e z as hLd f6 hge => ?_⟩
    have hx6 : Bx a b S6 := bx_frm hx5 f6 ⟨by simp, by simp⟩
    have g56 := f6.at g5 (by simp)
    have hs0 : SOk B (T, []) := SOk.nil hT
    have hn6 : ∀ i ∈ d :: t :: e :: z :: as, i ≠ a ∧ i ≠ b ∧ i ≠ S5.length := fun i hi => by
      have := hge i hi
      omega
    generalize S5.length = l5 at *
    clear g5 hx5 f6 hge l5x la lb
    refine seqI ?_
    refine sGen (fun σ' S' => ∃ o8 : Option Dv, S6 = S' ∧ σ' = [o0, some (.obj a), some (.int i), some (bkD B), some (tsD T), some (.obj l5), some (.obj d), some (.int (K14.prodL B : Nat)), o8, o9, o10, o11, o12, o13, o14, o15]) (fun K3 hK3 => ?_) ?_
    · refine sFor_inv (S1 := S6) (jSeq (bkD B) (B.map rfD)) (fun k σ S' => S' = S6 ∧ ∃ o8 : Option Dv, σ = [o0, some (.obj a), some (.int i), some (bkD B), some (tsD T), some (.obj l5), some (.obj d), some (.int (K14.prodL (B.take k) : Nat)), o8, o9, o10, o11, o12, o13, o14, o15]) (hw_seq (fun R hR => ?_) rfl) ⟨rfl, _, rfl⟩ (fun _ _ _ _ _ => rfl) ?_ ?_
      · dsimp! only []
        exact hR
      · rintro k d0 σ S7 hd0 ⟨rfl, o8, rfl⟩ K4 hK4
        obtain ⟨r, hr, rfl⟩ := jSeq_get hd0
        have hr4 := hrow r (List.mem_of_getElem? hr)
        rw [take_succ0 hr, K14.prodL_snoc] at hK4
        simp! only [rfD]
        rw [List.length_map]
        exact ⟨.inl (.inr ⟨by omega, by omega⟩), hK4 _ _ (.inl ⟨rfl, some (rfD r), by rw [Int.natCast_mul]; rfl⟩)⟩
      · rintro σ S7 ⟨rfl, o8, rfl⟩
        rw [jSeq_len, List.take_length]
        exact hK3 _ _ ⟨_, rfl, rfl⟩
    rintro _ _ ⟨o8, rfl, rfl⟩
    dsimp only
    refine seqI ?_
    refine sAsg_gen (fun d S' => d = osD (certP B []) ∧ Frm [] S6 S') (fun R hR => ?_) ?_
    · simp! only []
      refine eLc_inv (S1 := S6) (jSeq (bkD B) (B.map rfD)) (fun k acc S' => acc = (((B.take k).map fun r => if r.length = 1 then some (0 : Int) else none).map oD) ∧ S' = S6) (hw_seq (fun R hR => ?_) rfl) ⟨rfl, rfl⟩ (fun k acc S' hk ⟨h1, h2⟩ => ⟨rfl, ?_⟩) ?_ ?_
      · dsimp! only []
        exact hR
      · rw [h1, List.length_map, List.length_map, List.length_take]
        exact small_line (by omega)
      · rintro k d0 acc S7 hd0 ⟨rfl, rfl⟩ K1 K0 hK1 hK0
        obtain ⟨r, hr, rfl⟩ := jSeq_get hd0
        simp! only [rfD]
        rw [List.length_map]
        by_cases c : r.length = 1
        · rw [if_pos (decide_eq_true (by omega))]
          refine hK1 _ _ (.inl ⟨?_, rfl⟩)
          rw [take_succ0 hr, List.map_append, List.map_append]
          show _ = _ ++ [oD (if r.length = 1 then some 0 else none)]
          rw [if_pos c]; rfl
        · rw [if_neg (by rw [decide_eq_true_eq]; omega)]
          refine hK1 _ _ (.inl ⟨?_, rfl⟩)
          rw [take_succ0 hr, List.map_append, List.map_append]
          show _ = _ ++ [oD (if r.length = 1 then some 0 else none)]
          rw [if_neg c]; rfl
      · rintro acc S7 ⟨rfl, rfl⟩
        have e : (jSeq (bkD B) (B.map rfD)).items.length = B.length := jSeq_len
        rw [e, List.take_length]
        refine ⟨_, getL_iff.mpr get_at, hR _ _ ⟨?_, .app⟩⟩
        rw [cert0 hB]; rfl
    rintro d9 S7 ⟨rfl, f7⟩
    have hx7 : Bx a b S7 := bx_frm hx6 f7 ⟨by simp, by simp⟩
    have g57 := f7.at g56 (by simp)
    have hLd7 := hLd.frm f7 (fun i hi => by simp)
    clear hLd g56 hx6 f7
    dsimp only
    refine seqI ?_
    simp! only [eRes]
    have f8 := Frm.app (F := []) (S := S7) (T := [Mo.lst []])
    have g8 : (S7 ++ [Mo.lst []])[S7.length]? = some (.lst (([] : List Str).map Dv.str)) := get_at
    have hx8 : Bx a b (S7 ++ [Mo.lst []]) := bx_frm hx7 f8 ⟨by simp, by simp⟩
    have g58 := f8.at g57 (by simp)
    have hLd8 := hLd7.frm f8 (fun i hi => by simp)
    generalize S7 ++ [Mo.lst []] = S8 at *
    have hlt8 := hLd8.lt
    have hFl : ∀ j ∈ a :: b :: l5 :: d :: t :: e :: z :: as, j < S8.length := fun j hj => by
      obtain ⟨la, lb⟩ := hx8.lt
      have := at_lt g58
      simp only [List.mem_cons] at hj
      rcases hj with rfl | rfl | rfl | rfl | rfl | rfl | rfl | hj
      · exact la
      · exact lb
      · exact this
      · exact hlt8.1
      · exact hlt8.2.1
      · exact hlt8.2.2.1
      · exact hlt8.2.2.2.1
      · exact hlt8.2.2.2.2 j hj
    refine infer_fd hB hF (all_fit hT) (by show 0 ≤ 60; omega) g8 hFl (fun S9 d10 hfd _ f9 => ?_) (fun hnm => absurd (not_many0 B) hnm)
    have hx9 : Bx a b S9 := bx_frm hx8 f9 ⟨by simp, by simp⟩
    have g59 := f9.at g58 (by simp)
    have hLd9 := hLd8.frm f9 (fun i hi => by simp)
    clear hLd8 hlt8 hFl hx8 g8 f8 g58 f9 hLd7 g57 hx7
    refine seqI ?_
    refine sGen (fun σ' S' => S9 = S' ∧ σ' = [o0, some (.obj a), some (.int i), some (bkD B), some (tsD T), some (.obj l5), some (.obj d), some (.int (K14.prodL B : Nat)), o8, some (osD (certP B [])), some d10, o11, o12, o13, o14, o15]) (fun K3 hK3 => ?_) ?_
    · refine ifI ?_
      rcases id hfd with ⟨hnm, _⟩ | ⟨_, j, ys, rfl, _⟩
      · exact absurd (not_many0 B) hnm
      simp! only []
      have e2 : cutD [Dv.int ((fitT B []).length : Nat), osD (certP B []), Dv.obj j] none (some 2) = [.int ((fitT B []).length : Nat), osD (certP B [])] := cut_to2 _ 2
      rw [e2, num0]
      refine ⟨_, _, rfl, K14.same_refl 5 _ ?_, true, rfl, ?_⟩
      · show (decide (2 < 100000) && (K14.alS 4 (.int _) && (K14.alS 4 (osD (certP B [])) && true))) = true
        rw [al_os (by unfold certP; rw [List.length_map, List.length_range]; omega) 3]
        rfl
      rw [if_neg (by decide)]
      exact hK3 _ _ ⟨rfl, by rw [num0]⟩
    rintro _ _ ⟨rfl, rfl⟩
    dsimp only
    refine seqI ?_
    simp! only []
    refine ⟨a, b, 16, rfl, hx9, by decide, by decide, fun q S10 p0 p1 hu10 => ?_⟩
    have hx10 := hu10.bx
    have g510 := (bup_frm hu10).at g59 (by simp; exact ⟨n5a, n5b⟩)
    have hLd10 := hLd9.frm (bup_frm hu10) (fun i hi => by simp; exact ⟨(hn6 i hi).1, (hn6 i hi).2.1⟩)
    have hfd10 : FdAt B [] S10 (a :: b :: l5 :: d :: t :: e :: z :: as) d10 := hfd.keep (bup_frm hu10) (fun i hi => by simp at hi; rcases hi with rfl | rfl <;> simp) (fun i hi => .inl hi)
    obtain ⟨n, rfl⟩ : ∃ n : Nat, q = n := ⟨q.toNat, by omega⟩
    dsimp only
    clear hx9 g59 hLd9 hfd hu10
    refine sFor_inv (S1 := S10) (jRg n) (fun k σ S' => ∃ (ws : List Str) (as : List Nat) (d10 : Dv) (o12 o13 o14 o15 : Option Dv), ws.length = k ∧ sings B (T, []) ws = true ∧ Bx a b S' ∧ S'[l5]? = some (.lst (ws.map Dv.str)) ∧ Ld S' d t e z as (it B k (T, [])) (60 * k) ∧ (∀ i ∈ d :: t :: e :: z :: as, i ≠ a ∧ i ≠ b ∧ i ≠ l5) ∧ FdAt B ws S' (a :: b :: l5 :: d :: t :: e :: z :: as) d10 ∧ σ = [o0, some (.obj a), some (.int i), some (bkD B), some (tsD T), some (.obj l5), some (.obj d), some (.int (K14.prodL B : Nat)), o8, some (osD (certP B [])), some d10, some (.int n), o12, o13, o14, o15]) (hw_rg1 (fun R hR => ?_) (by omega)) ⟨[], as, d10, _, _, _, _, rfl, rfl, hx10, g510, hLd10, hn6, hfd10, rfl⟩ (fun _ _ _ _ _ => trivial) ?_ ?_
    · dsimp! only []
      exact hR
    · clear hfd10 hn6 hLd10 g510 hx10
      rintro k d0 σ S11 hd0 ⟨ws, as, d10, o12, o13, o14, o15, hwk, hsg, hx11, g511, hLd11, hn11, hfd11, rfl⟩ K4 hK4
      obtain ⟨hk, rfl⟩ := jRg_get hd0
      have hsm := hs0.it hB k
      obtain ⟨pth, hout⟩ := out_tw hB hsm
      have hTf : T ∈ fitT B ws := List.mem_filter.mpr ⟨all_iff.mpr hT, hsg⟩
      have hnw : nxtW B ws T = tw B (it B k (T, [])) := by unfold nxtW; rw [hwk]
      simp! only []
      refine seqI ?_
      simp! only []
      refine ⟨d, t, e, z, as, B, it B k (T, []), 60 * k, rfl, hLd11, hB, hsm, by omega, fun S12 as' hM => ?_⟩
      rw [hout]
      refine ⟨_, rfl, _, q0, ?_⟩
      have hlt11 := hLd11.lt
      have h5l := at_lt g511
      obtain ⟨la11, lb11⟩ := hx11.lt
      have hn12 : ∀ i ∈ d :: t :: e :: z :: as', i ≠ a ∧ i ≠ b ∧ i ≠ l5 := fun i hi => by
        simp only [List.mem_cons] at hi
        rcases hi with rfl | rfl | rfl | rfl | hi
        · exact hn11 _ (by simp)
        · exact hn11 _ (by simp)
        · exact hn11 _ (by simp)
        · exact hn11 _ (by simp)
        · rcases hM.s i hi with q | q
          · exact hn11 _ (by simp [q])
          · omega
      have hfd12 : FdAt B ws S12 (a :: b :: l5 :: d :: t :: e :: z :: as') d10 := hfd11.keep hM.f (fun i hi => by
        simp only [List.mem_cons] at hi ⊢
        rcases hi with h | h | h | h <;> simp [h]) (fun i hi => by
        simp only [List.mem_cons] at hi ⊢
        rcases hi with h | h | h | h | h | h | h | h
        · exact .inl (by simp [h])
        · exact .inl (by simp [h])
        · exact .inl (by simp [h])
        · exact .inl (by simp [h])
        · exact .inl (by simp [h])
        · exact .inl (by simp [h])
        · exact .inl (by simp [h])
        · rcases hM.s i h with q | q
          · exact .inl (by simp [q])
          · exact .inr q)
      have g512 := hM.f.at g511 fun q => (hn11 l5 (List.mem_cons_of_mem _ q)).2.2 rfl
      have hx12 : Bx a b S12 := bx_frm hx11 hM.f ⟨fun q => (hn11 a (List.mem_cons_of_mem _ q)).1 rfl, fun q => (hn11 b (List.mem_cons_of_mem _ q)).2.1 rfl⟩
      have hLd12 := hM.m
      rw [← it_succ, show 60 * k + 60 = 60 * (k + 1) by omega] at hLd12
      clear hfd11 hLd11 hlt11 hM hout pth
      generalize hwd : tw B (it B k (T, [])) = w at *
      refine seqI ?_
      refine sGen (fun σ' S' => S12 = S' ∧ σ' = [o0, some (.obj a), some (.int i), some (bkD B), some (tsD T), some (.obj l5), some (.obj d), some (.int (K14.prodL B : Nat)), o8, some (osD (certP B [])), some d10, some (.int n), some (.int k), some (.str w), o14, o15]) (fun K5 hK5 => ?_) ?_
      · refine ifI ?_
        rcases id hfd12 with ⟨hnm, rfl⟩ | ⟨hnm, j, ys, rfl, hj, gj, hyl, hso, hnd, hy5, hys⟩
        · simp! only []
          refine ⟨_, q0, ?_⟩
          rw [dNe_ss]
          refine ⟨false, by simp, ?_⟩
          rw [if_neg Bool.false_ne_true]
          exact hK5 _ _ ⟨rfl, rfl⟩
        · simp! only []
          refine ⟨_, q0, ?_⟩
          rw [dNe_is]
          refine ⟨true, rfl, ?_⟩
          rw [if_pos rfl]
          have hin : w ∈ ys := (hys w).mpr (List.mem_map.mpr ⟨T, hTf, hnw⟩)
          refine ⟨_, q2, _, getL_iff.mpr gj, rfl, flat_strs _, ?_⟩
          rw [in_strs, decide_eq_true hin]
          refine ⟨false, rfl, ?_⟩
          rw [if_neg Bool.false_ne_true]
          exact hK5 _ _ ⟨rfl, rfl⟩
      rintro _ _ ⟨rfl, rfl⟩
      dsimp only
      refine seqI ?_
      simp! only []
      refine ⟨.inl ⟨_, g512⟩, _, getL_iff.mpr g512, by rw [List.length_map]; exact small_line (by omega), ?_⟩
      have e13 : ws.map Dv.str ++ [Dv.str w] = (ws ++ [w]).map Dv.str := by rw [List.map_append]; rfl
      rw [e13]
      have f13 : Frm [l5] S12 (S12.set l5 (.lst ((ws ++ [w]).map Dv.str))) := .set List.mem_cons_self
      have g513 : (S12.set l5 (.lst ((ws ++ [w]).map Dv.str)))[l5]? = some (.lst ((ws ++ [w]).map Dv.str)) := List.getElem?_set_self (at_lt g512)
      have hx13 := bx_frm hx12 f13 ⟨by simp; exact fun q => n5a q.symm, by simp; exact fun q => n5b q.symm⟩
      have hLd13 := hLd12.frm f13 (fun i hi => by simp; exact (hn12 i hi).2.2)
      have hfd13 : FdAt B ws (S12.set l5 (.lst ((ws ++ [w]).map Dv.str))) (a :: b :: l5 :: d :: t :: e :: z :: as') d10 := hfd12.keep f13 (fun i hi => by rw [List.mem_singleton.mp hi]; simp) (fun i hi => .inl hi)
      have hwk' : (ws ++ [w]).length = k + 1 := by rw [List.length_append, hwk]; rfl
      have hsg' : sings B (T, []) (ws ++ [w]) = true := by
        rw [sings_snoc, hsg, hwk, hwd, Bool.true_and]; exact decide_eq_true rfl
      have hTf' : T ∈ fitT B (ws ++ [w]) := List.mem_filter.mpr ⟨all_iff.mpr hT, hsg'⟩
      clear hfd12 hLd12 hx12 g512
      generalize S12.set l5 (.lst ((ws ++ [w]).map Dv.str)) = S13 at *
      refine seqI ?_
      refine sAsg_gen (fun d14 S' => FdAt B (ws ++ [w]) S' (a :: b :: l5 :: d :: t :: e :: z :: as') d14 ∧ Frm [] S13 S') (fun R hR => ?_) ?_
      · simp! only [eRes]
        refine ⟨_, getL_iff.mpr g513, ?_⟩
        have fE := Frm.app (F := []) (S := S13) (T := [Mo.lst ((ws ++ [w]).map Dv.str)])
        have hlt := hLd13.lt
        obtain ⟨la, lb⟩ := hx13.lt
        have hl5 := at_lt g513
        have hFl : ∀ j ∈ a :: b :: l5 :: d :: t :: e :: z :: as', j < (S13 ++ [Mo.lst ((ws ++ [w]).map Dv.str)]).length := fun j hj => by
          rw [List.length_append]
          simp only [List.mem_cons] at hj
          rcases hj with h | h | h | h | h | h | h | h
          · omega
          · omega
          · omega
          · have := hlt.1; omega
          · have := hlt.2.1; omega
          · have := hlt.2.2.1; omega
          · have := hlt.2.2.2.1; omega
          · have := hlt.2.2.2.2 j h; omega
        refine infer_fd hB hF hTf' (by omega) get_at hFl (fun S14 d14 hfd _ f14 => hR _ _ ⟨hfd, fE.then f14⟩) (fun hnm S14 f14 => ?_)
        exact ⟨rfl, "TooManyCandidates", hC, hR _ _ ⟨.inl ⟨hnm, rfl⟩, fE.then f14⟩⟩
      rintro d14 S14 ⟨hfd14, f14⟩
      have g514 := f14.at g513 (by simp)
      have hx14 := bx_frm hx13 f14 ⟨by simp, by simp⟩
      have hLd14 := hLd13.frm f14 (fun i hi => by simp)
      have hfd14' : FdAt B ws S14 (a :: b :: l5 :: d :: t :: e :: z :: as') d10 := hfd13.keep f14 (by simp) (fun i hi => .inl hi)
      clear hfd13 hLd13 hx13 g513 f14
      dsimp only
      refine seqI ?_
      refine sGen (fun σ' S' => Frm [] S14 S' ∧ ∃ o15 : Option Dv, σ' = [o0, some (.obj a), some (.int i), some (bkD B), some (tsD T), some (.obj l5), some (.obj d), some (.int (K14.prodL B : Nat)), o8, some (osD (certP B [])), some d10, some (.int n), some (.int k), some (.str w), some d14, o15]) (fun K6 hK6 => ?_) ?_
      · rcases id hfd14' with ⟨hnm, rfl⟩ | ⟨hnm, j, ys, rfl, hj, gj, hyl, hso, hnd, hy5, hys⟩
        · rcases id hfd14 with ⟨_, rfl⟩ | ⟨hm2, _⟩
          · refine ifI ?_
            simp! only []
            refine ⟨_, q0, ?_⟩
            rw [dEq_str]
            refine ⟨_, rfl, ?_⟩
            rw [if_pos (by simp)]
            refine ifI ?_
            simp! only []
            refine dNe_nm ?_
            refine ⟨false, by simp, ?_⟩
            rw [if_neg Bool.false_ne_true]
            exact hK6 _ _ ⟨⟨Nat.le_refl _, fun i hi _ => rfl⟩, _, rfl⟩
          · exact absurd (many_sub hm2) hnm
        · rcases id hfd14 with ⟨_, rfl⟩ | ⟨hm2, j2, ys2, rfl, hj2, gj2, hyl2, hso2, hnd2, hy52, hys2⟩
          · refine ifI ?_
            simp! only []
            refine ⟨_, q0, ?_⟩
            rw [dEq_is]
            refine ⟨false, rfl, ?_⟩
            rw [if_neg Bool.false_ne_true]
            refine ifI ?_
            simp! only []
            refine ⟨_, q0, ?_⟩
            rw [dNe_ss]
            refine ⟨false, by simp, ?_⟩
            rw [if_neg Bool.false_ne_true]
            exact hK6 _ _ ⟨⟨Nat.le_refl _, fun i hi _ => rfl⟩, _, rfl⟩
          · refine ifI ?_
            simp! only []
            refine ⟨_, q0, ?_⟩
            rw [dEq_is]
            refine ⟨false, rfl, ?_⟩
            rw [if_neg Bool.false_ne_true]
            refine ifI ?_
            simp! only []
            refine ⟨_, q0, ?_⟩
            rw [dNe_is]
            refine ⟨true, rfl, ?_⟩
            rw [if_pos rfl]
            refine seqI (ifI ?_)
            simp! only [eSSet]
            have hP1 : 1 ≤ (fitT B (ws ++ [w])).length := List.length_pos_of_mem hTf'
            have hP2 := fit_le (B := B) (ws := ws) (w := w)
            refine ⟨_, q0, ?_⟩
            refine ⟨_, rfl, ?_⟩
            rw [if_pos (decide_eq_true (by omega))]
            refine ⟨_, q0, ?_⟩
            refine ⟨_, rfl, ?_⟩
            dsimp only
            have hle2 : decide (((fitT B (ws ++ [w])).length : Int) ≤ ((fitT B ws).length : Nat)) = true := decide_eq_true (by omega)
            rw [if_neg (by rw [hle2]; decide)]
            refine ⟨_, q2, _, q2, j, rfl, _, getL_iff.mpr gj, ys, strsOf_map _, by omega, fun zs hznd hzs => ⟨Nat.lt_of_le_of_lt (nodup_len hznd fun x hx => (hzs x).mp hx) hyl, fun hzso => ?_⟩⟩
            obtain rfl := sorted_unique _ _ hzso hso hznd hnd hzs
            refine K09.dNe_strs (getL_iff.mpr (get_old gj)) (getL_iff.mpr get_at) (fun y hy => K09.five_lay y (hy5 y hy)) ?_
            refine ⟨false, rfl, ?_⟩
            rw [if_neg Bool.false_ne_true]
            have f16 := Frm.app (F := []) (S := S14) (T := [Mo.lst (zs.map Dv.str)])
            generalize S14 ++ [Mo.lst (zs.map Dv.str)] = S16 at *
            have hcl1 : (certP B ws).length = B.length := by unfold certP; rw [List.length_map, List.length_range]
            have hcl2 : (certP B (ws ++ [w])).length = B.length := by unfold certP; rw [List.length_map, List.length_range]
            refine sFor_inv (S1 := S16) (jRg B.length) (fun r σ S' => S' = S16 ∧ ∃ o15 : Option Dv, σ = [o0, some (.obj a), some (.int i), some (bkD B), some (tsD T), some (.obj l5), some (.obj d), some (.int (K14.prodL B : Nat)), o8, some (osD (certP B [])), some (.tup [.int ((fitT B ws).length : Nat), osD (certP B ws), .obj j]), some (.int n), some (.int k), some (.str w), some (.tup [.int ((fitT B (ws ++ [w])).length : Nat), osD (certP B (ws ++ [w])), .obj j2]), o15]) (hw_rg1 (fun R hR => ?_) (by omega)) ⟨rfl, _, rfl⟩ (fun _ _ _ _ _ => trivial) ?_ ?_
            · simp! only [bkD]
              rw [List.length_map]
              exact hR
            · rintro r dr σ S17 hdr ⟨rfl, o15, rfl⟩ K7 hK7
              obtain ⟨hr, rfl⟩ := jRg_get hdr
              have hg1 : ∀ vs : List Str, (certP B vs).getD r none = agreeI ((fitT B vs).map fun T => T.getD r 0) := fun vs => by
                unfold certP
                rw [List.getD_eq_getElem?_getD, List.getElem?_map, List.getElem?_range hr]; rfl
              have htr := agree_true hTf' r
              have hkp := agree_keep (fun T => fit_sub (B := B) (ws := ws) (w := w) (T := T)) (fun z => by rw [z] at hTf'; cases hTf') (r := r) (P := fitT B ws) (P' := fitT B (ws ++ [w]))
              rw [← hg1, ← hg1] at hkp
              rw [← hg1] at htr
              have ha1 := os_at (l := certP B ws) (r := r) (by omega)
              have ha2 := os_at (l := certP B (ws ++ [w])) (r := r) (by omega)
              have hTr : L2.atI (T.map Dv.int) (r : Int) = some (.int (T.getD r 0)) := by
                have hTl := hT.1
                refine atI_nat ?_
                rw [List.getElem?_map, List.getD_eq_getElem?_getD, List.getElem?_eq_getElem (by omega)]; rfl
              simp! only []
              refine ifI ?_
              simp! only []
              refine ⟨_, q1, ?_⟩
              simp! only [osD, ha2, tsD, hTr]
              generalize (certP B ws).getD r none = u1 at *
              generalize (certP B (ws ++ [w])).getD r none = u2 at *
              refine dIn_ok htr ⟨false, rfl, ?_⟩
              rw [if_neg Bool.false_ne_true]
              refine ⟨_, q1, _, rfl, _, ha1, ?_⟩
              cases u1 with
              | none =>
                simp! only [oD]
                exact hK7 _ _ (.inl ⟨rfl, _, rfl⟩)
              | some v1 =>
                have hn2 := hkp (fun z => by cases z)
                cases u2 with
                | none => exact absurd rfl hn2
                | some v2 =>
                  simp! only [oD]
                  refine ⟨_, q1, _, rfl, _, ha2, ?_⟩
                  simp! only [oD]
                  exact hK7 _ _ (.inl ⟨rfl, _, rfl⟩)
            · rintro σ S17 ⟨rfl, o15, rfl⟩
              exact hK6 _ _ ⟨f16, _, rfl⟩
      rintro σ' S15 ⟨f15, o15', rfl⟩
      simp! only []
      refine hK4 _ _ (.inl ⟨ws ++ [w], as', d14, _, _, _, _, hwk', hsg', bx_frm hx14 f15 ⟨by simp, by simp⟩, f15.at g514 (by simp), hLd14.frm f15 (fun i hi => by simp), hn12, hfd14.keep f15 (by simp) (fun i hi => .inl hi), rfl⟩)
    · rintro σ S11 ⟨ws, as, d10, o12, o13, o14, o15, hwk, hsg, hx11, g511, hLd11, hn11, hfd11, rfl⟩
      exact hK _ _ (.inl ⟨hx11, _, _, _, _, _, _, _, _, _, _, _, _, _, _, _, rfl⟩)
  · rintro σ S1 ⟨hx1, o0, o2, o3, o4, o5, o6, o7, o8, o9, o10, o11, o12, o13, o14, o15, rfl⟩
    dsimp only
    simp! only []
    exact hret _
end K15
set_option Elab.async false
set_option linter.all false
set_option maxRecDepth 100000
set_option maxHeartbeats 2000000
namespace K15
open PySem PySem.Spec PyProof.Rows L2 D3
def topS (i : Nat) : Stmt := PySem.Challenge.pw_sungbyturns_k15_inference_in_large_books.main.body.getD i (.Pass ⟨0, 0, 0, 0⟩)
abbrev s_Lbegun : Stmt := topS 29
abbrev N_Lbegun : List Str := ["_law_script", "_law_stirred", "_law_cell"]
theorem sc_Lbegun : FnScope N_Lbegun ["_law_script"] (defScope s_Lbegun) := ⟨rfl, rfl, rfl, by decide +kernel, rfl, by decide +kernel, by decide +kernel⟩
abbrev s_Lthin : Stmt := topS 40
abbrev N_Lthin : List Str := ["_law_book_here", "_law_most", "_law_product", "_law_found", "_law_verses", "_law_kept"]
theorem sc_Lthin : FnScope N_Lthin ["_law_book_here", "_law_most"] (defScope s_Lthin) := ⟨rfl, rfl, rfl, by decide +kernel, rfl, by decide +kernel, by decide +kernel⟩
abbrev s_Ltake : Stmt := topS 30
abbrev N_Ltake : List Str := ["_law_box", "_law_size", "_law_figure"]
theorem sc_Ltake : FnScope N_Ltake ["_law_box", "_law_size"] (defScope s_Ltake) := ⟨rfl, rfl, rfl, by decide +kernel, rfl, by decide +kernel, by decide +kernel⟩
abbrev s_Lbook : Stmt := topS 33
abbrev N_Lbook : List Str := ["_law_box", "_law_most", "_law_size", "_law_book_here", "_law_words", "_law_k", "_law_verses", "_law_verse", "_law_items", "_law_item", "_law_later", "_law_step"]
theorem sc_Lbook : FnScope N_Lbook ["_law_box", "_law_most"] (defScope s_Lbook) := ⟨rfl, rfl, rfl, by decide +kernel, rfl, by decide +kernel, by decide +kernel⟩
abbrev s_Lturns : Stmt := topS 34
abbrev N_Lturns : List Str := ["_law_box", "_law_book_here", "_law_verses"]
theorem sc_Lturns : FnScope N_Lturns ["_law_box", "_law_book_here"] (defScope s_Lturns) := ⟨rfl, rfl, rfl, by decide +kernel, rfl, by decide +kernel, by decide +kernel⟩
abbrev s_Lfrom : Stmt := topS 37
abbrev N_Lfrom : List Str := ["_law_state_here", "_law_entry"]
theorem sc_Lfrom : FnScope N_Lfrom ["_law_state_here"] (defScope s_Lfrom) := ⟨rfl, rfl, rfl, by decide +kernel, rfl, by decide +kernel, by decide +kernel⟩
abbrev s_is_word : Stmt := topS 17
abbrev N_is_word : List Str := ["item"]
theorem sc_is_word : FnScope N_is_word ["item"] (defScope s_is_word) := ⟨rfl, rfl, rfl, by decide +kernel, rfl, by decide +kernel, by decide +kernel⟩
abbrev s_is_valid_item : Stmt := topS 18
abbrev N_is_valid_item : List Str := ["book", "refrain", "item", "letter"]
theorem sc_is_valid_item : FnScope N_is_valid_item ["book", "refrain", "item"] (defScope s_is_valid_item) := ⟨rfl, rfl, rfl, by decide +kernel, rfl, by decide +kernel, by decide +kernel⟩
abbrev s_first_invalid_verse : Stmt := topS 19
abbrev N_first_invalid_verse : List Str := ["book", "refrain", "verses", "index", "verse", "item"]
theorem sc_first_invalid_verse : FnScope N_first_invalid_verse ["book", "refrain"] (defScope s_first_invalid_verse) := ⟨rfl, rfl, rfl, by decide +kernel, rfl, by decide +kernel, by decide +kernel⟩
abbrev s_validate_book : Stmt := topS 20
abbrev N_validate_book : List Str := ["book", "refrain", "verse"]
theorem sc_validate_book : FnScope N_validate_book ["book"] (defScope s_validate_book) := ⟨rfl, rfl, rfl, by decide +kernel, rfl, by decide +kernel, by decide +kernel⟩
abbrev s_Candidate_init : Stmt := inClass (topS 24) 0
abbrev N_Candidate_init : List Str := ["self", "book", "first_turns", "current_turns", "entries"]
theorem sc_Candidate_init : FnScope N_Candidate_init ["self", "book", "first_turns", "current_turns", "entries"] (defScope s_Candidate_init) := ⟨rfl, rfl, rfl, by decide +kernel, rfl, by decide +kernel, by decide +kernel⟩
abbrev s_Candidate_possible_turns : Stmt := inClass (topS 24) 2
abbrev N_Candidate_possible_turns : List Str := ["self", "refrain"]
theorem sc_Candidate_possible_turns : FnScope N_Candidate_possible_turns ["self", "refrain"] (defScope s_Candidate_possible_turns) := ⟨rfl, rfl, rfl, by decide +kernel, rfl, by decide +kernel, by decide +kernel⟩
abbrev s_Candidate_opening_words : Stmt := inClass (topS 24) 4
abbrev N_Candidate_opening_words : List Str := ["self", "table", "refrain", "words", "turn", "item"]
theorem sc_Candidate_opening_words : FnScope N_Candidate_opening_words ["self"] (defScope s_Candidate_opening_words) := ⟨rfl, rfl, rfl, by decide +kernel, rfl, by decide +kernel, by decide +kernel⟩
abbrev s_Candidate_current_item : Stmt := inClass (topS 24) 3
abbrev N_Candidate_current_item : List Str := ["self", "refrain", "verse", "item"]
theorem sc_Candidate_current_item : FnScope N_Candidate_current_item ["self"] (defScope s_Candidate_current_item) := ⟨rfl, rfl, rfl, by decide +kernel, rfl, by decide +kernel, by decide +kernel⟩
abbrev s_Candidate_after_word : Stmt := inClass (topS 24) 7
abbrev N_Candidate_after_word : List Str := ["self", "entries", "is_finished", "refrain", "verse", "item"]
theorem sc_Candidate_after_word : FnScope N_Candidate_after_word ["self"] (defScope s_Candidate_after_word) := ⟨rfl, rfl, rfl, by decide +kernel, rfl, by decide +kernel, by decide +kernel⟩
abbrev s_Candidate_started_at : Stmt := inClass (topS 24) 1
abbrev N_Candidate_started_at : List Str := ["self", "refrain", "turn", "first_turns", "size", "current_turns"]
theorem sc_Candidate_started_at : FnScope N_Candidate_started_at ["self", "refrain", "turn"] (defScope s_Candidate_started_at) := ⟨rfl, rfl, rfl, by decide +kernel, rfl, by decide +kernel, by decide +kernel⟩
abbrev s_Candidate_after_hearing : Stmt := inClass (topS 24) 6
abbrev N_Candidate_after_hearing : List Str := ["self", "word", "result", "pending", "table", "candidate", "item", "turn"]
theorem sc_Candidate_after_hearing : FnScope N_Candidate_after_hearing ["self", "word"] (defScope s_Candidate_after_hearing) := ⟨rfl, rfl, rfl, by decide +kernel, rfl, by decide +kernel, by decide +kernel⟩
abbrev s_filter_candidates : Stmt := topS 25
abbrev N_filter_candidates : List Str := ["candidates", "word", "result", "candidate"]
theorem sc_filter_candidates : FnScope N_filter_candidates ["candidates", "word"] (defScope s_filter_candidates) := ⟨rfl, rfl, rfl, by decide +kernel, rfl, by decide +kernel, by decide +kernel⟩
abbrev s_Candidate_following_words : Stmt := inClass (topS 24) 5
abbrev N_Candidate_following_words : List Str := ["self", "item"]
theorem sc_Candidate_following_words : FnScope N_Candidate_following_words ["self"] (defScope s_Candidate_following_words) := ⟨rfl, rfl, rfl, by decide +kernel, rfl, by decide +kernel, by decide +kernel⟩
abbrev s_Candidate_size : Stmt := inClass (topS 24) 8
abbrev N_Candidate_size : List Str := ["self", "product", "turn", "verses"]
theorem sc_Candidate_size : FnScope N_Candidate_size ["self"] (defScope s_Candidate_size) := ⟨rfl, rfl, rfl, by decide +kernel, rfl, by decide +kernel, by decide +kernel⟩
abbrev s_Candidate_known_turn : Stmt := inClass (topS 24) 9
abbrev N_Candidate_known_turn : List Str := ["self", "refrain"]
theorem sc_Candidate_known_turn : FnScope N_Candidate_known_turn ["self", "refrain"] (defScope s_Candidate_known_turn) := ⟨rfl, rfl, rfl, by decide +kernel, rfl, by decide +kernel, by decide +kernel⟩
abbrev s_certain_turns : Stmt := topS 26
abbrev N_certain_turns : List Str := ["book", "candidates", "result", "refrain", "known", "candidate", "turn"]
theorem sc_certain_turns : FnScope N_certain_turns ["book", "candidates"] (defScope s_certain_turns) := ⟨rfl, rfl, rfl, by decide +kernel, rfl, by decide +kernel, by decide +kernel⟩
abbrev s_infer_turns : Stmt := topS 27
abbrev N_infer_turns : List Str := ["book", "words", "unknown", "candidates", "word", "following", "candidate"]
theorem sc_infer_turns : FnScope N_infer_turns ["book", "words"] (defScope s_infer_turns) := ⟨rfl, rfl, rfl, by decide +kernel, rfl, by decide +kernel, by decide +kernel⟩
abbrev s_Lalike : Stmt := topS 31
abbrev N_Lalike : List Str := ["_law_found", "_law_due", "_law_k"]
theorem sc_Lalike : FnScope N_Lalike ["_law_found", "_law_due"] (defScope s_Lalike) := ⟨rfl, rfl, rfl, by decide +kernel, rfl, by decide +kernel, by decide +kernel⟩
abbrev s_Lstart : Stmt := topS 36
abbrev N_Lstart : List Str := ["_law_book_here", "_law_s", "_law_refrain", "_law_verse"]
theorem sc_Lstart : FnScope N_Lstart ["_law_book_here", "_law_s", "_law_refrain"] (defScope s_Lstart) := ⟨rfl, rfl, rfl, by decide +kernel, rfl, by decide +kernel, by decide +kernel⟩
abbrev s_Lsing : Stmt := topS 35
abbrev N_Lsing : List Str := ["_law_book_here", "_law_s", "_law_refrain", "_law_verse", "_law_item", "_law_result_here", "_law_finished", "_law_entry"]
theorem sc_Lsing : FnScope N_Lsing ["_law_book_here", "_law_s"] (defScope s_Lsing) := ⟨rfl, rfl, rfl, by decide +kernel, rfl, by decide +kernel, by decide +kernel⟩
abbrev s_law : Stmt := topS 41
abbrev N_law : List Str := ["_law_script", "_law_box", "_law_turn", "_law_book_here", "_law_turns_here", "_law_words", "_law_s", "_law_product", "_law_verses", "_law_certain", "_law_found", "_law_size", "_law_number", "_law_word", "_law_later", "_law_k"]
theorem sc_law : FnScope N_law ["_law_script"] (defScope s_law) := ⟨rfl, rfl, rfl, by decide +kernel, rfl, by decide +kernel, by decide +kernel⟩
abbrev s_Lresult : Stmt := topS 32
abbrev N_Lresult : List Str := ["_law_call", "e", "_law_kinds", "_law_name"]
theorem sc_Lresult : FnScope N_Lresult ["_law_call"] (defScope s_Lresult) := ⟨rfl, rfl, rfl, by decide +kernel, rfl, by decide +kernel, by decide +kernel⟩
abbrev lam_law : Str := ((("law" : Str) ++ ".<locals>.") ++ "<lambda>")
structure Ad where
  c_Candidate : Addr
  f_Lbegun : Addr
  d_Lbegun : FuncData
  f_Lthin : Addr
  d_Lthin : FuncData
  f_Ltake : Addr
  d_Ltake : FuncData
  f_Lbook : Addr
  d_Lbook : FuncData
  f_Lturns : Addr
  d_Lturns : FuncData
  f_Lfrom : Addr
  d_Lfrom : FuncData
  f_is_word : Addr
  d_is_word : FuncData
  f_is_valid_item : Addr
  d_is_valid_item : FuncData
  f_first_invalid_verse : Addr
  d_first_invalid_verse : FuncData
  f_validate_book : Addr
  d_validate_book : FuncData
  f_Candidate_init : Addr
  d_Candidate_init : FuncData
  f_Candidate_possible_turns : Addr
  d_Candidate_possible_turns : FuncData
  f_Candidate_opening_words : Addr
  d_Candidate_opening_words : FuncData
  f_Candidate_current_item : Addr
  d_Candidate_current_item : FuncData
  f_Candidate_after_word : Addr
  d_Candidate_after_word : FuncData
  f_Candidate_started_at : Addr
  d_Candidate_started_at : FuncData
  f_Candidate_after_hearing : Addr
  d_Candidate_after_hearing : FuncData
  f_filter_candidates : Addr
  d_filter_candidates : FuncData
  f_Candidate_following_words : Addr
  d_Candidate_following_words : FuncData
  f_Candidate_size : Addr
  d_Candidate_size : FuncData
  f_Candidate_known_turn : Addr
  d_Candidate_known_turn : FuncData
  f_certain_turns : Addr
  d_certain_turns : FuncData
  f_infer_turns : Addr
  d_infer_turns : FuncData
  f_Lalike : Addr
  d_Lalike : FuncData
  f_Lstart : Addr
  d_Lstart : FuncData
  f_Lsing : Addr
  d_Lsing : FuncData
  f_law : Addr
  d_law : FuncData
  k_LETTERS : Value
  w_LETTERS : V
  k_MAX_CANDIDATES : Value
  w_MAX_CANDIDATES : V
  k_MAX_HEARD : Value
  w_MAX_HEARD : V
  k_MAX_ITEMS : Value
  w_MAX_ITEMS : V
  k_MAX_LETTERS : Value
  w_MAX_LETTERS : V
  k_MAX_REFRAINS : Value
  w_MAX_REFRAINS : V
  k_MAX_VERSES : Value
  w_MAX_VERSES : V
  c_BadBook : Addr
  c_BadCertificate : Addr
  c_BadCount : Addr
  c_BadRefrain : Addr
  c_BadState : Addr
  c_BadTurns : Addr
  c_RefrainBusy : Addr
  c_SongError : Addr
  c_TooManyCandidates : Addr
  c_TooManyWords : Addr
  f_Lresult : Addr
  d_Lresult : FuncData
  lc_law : Addr
  lp_law : Addr
structure Sps where
  Lbegun : Spd
  Lthin : Spd
  Ltake : Spd
  Lbook : Spd
  Lturns : Spd
  Lfrom : Spd
  is_word : Spd
  is_valid_item : Spd
  first_invalid_verse : Spd
  validate_book : Spd
  Candidate_init : Spd
  Candidate_possible_turns : Spd
  Candidate_opening_words : Spd
  Candidate_current_item : Spd
  Candidate_after_word : Spd
  Candidate_started_at : Spd
  Candidate_after_hearing : Spd
  filter_candidates : Spd
  Candidate_following_words : Spd
  Candidate_size : Spd
  Candidate_known_turn : Spd
  certain_turns : Spd
  infer_turns : Spd
  Lalike : Spd
  Lstart : Spd
  Lsing : Spd
  law : Spd
  Lalike_rec : Spd
abbrev clsL (ad : Ad) : List Addr := [ad.c_BadBook, ad.c_BadCertificate, ad.c_BadCount, ad.c_BadRefrain, ad.c_BadState, ad.c_BadTurns, ad.c_RefrainBusy, ad.c_TooManyCandidates, ad.c_TooManyWords]
abbrev rnOf (ad : Ad) : List (Addr × Str) := rnL (clsL ad)
abbrev csL (ad : Ad) : List (Addr × Addr) := [(ad.lc_law, ad.lp_law)]
abbrev ttL (ad : Ad) : List (Addr × Str) := [(ad.lp_law, lam_law)]
structure Txt (K : PySem.W.Frag) (mg : Str → Option Value) (ad : Ad) : Prop where
  no_ValueError : mg "ValueError" = none
  no_all : mg "all" = none
  no_bool : mg "bool" = none
  no_enumerate : mg "enumerate" = none
  no_int : mg "int" = none
  no_isinstance : mg "isinstance" = none
  no_len : mg "len" = none
  no_list : mg "list" = none
  no_max : mg "max" = none
  no_range : mg "range" = none
  no_set : mg "set" = none
  no_sorted : mg "sorted" = none
  no_str : mg "str" = none
  no_sum : mg "sum" = none
  no_tuple : mg "tuple" = none
  no_zip : mg "zip" = none
  gk_LETTERS : mg "LETTERS" = some ad.k_LETTERS
  v_LETTERS : RelV ad.w_LETTERS ad.k_LETTERS
  r_LETTERS : ∀ (TT : List (Addr × Str)) (π : List Addr) (H : Hp), Rep ⟨K, TT⟩ π H c_LETTERS ad.w_LETTERS
  gk_MAX_CANDIDATES : mg "MAX_CANDIDATES" = some ad.k_MAX_CANDIDATES
  v_MAX_CANDIDATES : RelV ad.w_MAX_CANDIDATES ad.k_MAX_CANDIDATES
  r_MAX_CANDIDATES : ∀ (TT : List (Addr × Str)) (π : List Addr) (H : Hp), Rep ⟨K, TT⟩ π H c_MAX_CANDIDATES ad.w_MAX_CANDIDATES
  gk_MAX_HEARD : mg "MAX_HEARD" = some ad.k_MAX_HEARD
  v_MAX_HEARD : RelV ad.w_MAX_HEARD ad.k_MAX_HEARD
  r_MAX_HEARD : ∀ (TT : List (Addr × Str)) (π : List Addr) (H : Hp), Rep ⟨K, TT⟩ π H c_MAX_HEARD ad.w_MAX_HEARD
  gk_MAX_ITEMS : mg "MAX_ITEMS" = some ad.k_MAX_ITEMS
  v_MAX_ITEMS : RelV ad.w_MAX_ITEMS ad.k_MAX_ITEMS
  r_MAX_ITEMS : ∀ (TT : List (Addr × Str)) (π : List Addr) (H : Hp), Rep ⟨K, TT⟩ π H c_MAX_ITEMS ad.w_MAX_ITEMS
  gk_MAX_LETTERS : mg "MAX_LETTERS" = some ad.k_MAX_LETTERS
  v_MAX_LETTERS : RelV ad.w_MAX_LETTERS ad.k_MAX_LETTERS
  r_MAX_LETTERS : ∀ (TT : List (Addr × Str)) (π : List Addr) (H : Hp), Rep ⟨K, TT⟩ π H c_MAX_LETTERS ad.w_MAX_LETTERS
  gk_MAX_REFRAINS : mg "MAX_REFRAINS" = some ad.k_MAX_REFRAINS
  v_MAX_REFRAINS : RelV ad.w_MAX_REFRAINS ad.k_MAX_REFRAINS
  r_MAX_REFRAINS : ∀ (TT : List (Addr × Str)) (π : List Addr) (H : Hp), Rep ⟨K, TT⟩ π H c_MAX_REFRAINS ad.w_MAX_REFRAINS
  gk_MAX_VERSES : mg "MAX_VERSES" = some ad.k_MAX_VERSES
  v_MAX_VERSES : RelV ad.w_MAX_VERSES ad.k_MAX_VERSES
  r_MAX_VERSES : ∀ (TT : List (Addr × Str)) (π : List Addr) (H : Hp), Rep ⟨K, TT⟩ π H c_MAX_VERSES ad.w_MAX_VERSES
  gc_Candidate : mg "Candidate" = some (.ref ad.c_Candidate)
  cl_Candidate : Cls K ad.c_Candidate
  gc_BadBook : mg "BadBook" = some (.ref ad.c_BadBook)
  gc_BadCertificate : mg "BadCertificate" = some (.ref ad.c_BadCertificate)
  gc_BadCount : mg "BadCount" = some (.ref ad.c_BadCount)
  gc_BadRefrain : mg "BadRefrain" = some (.ref ad.c_BadRefrain)
  gc_BadState : mg "BadState" = some (.ref ad.c_BadState)
  gc_BadTurns : mg "BadTurns" = some (.ref ad.c_BadTurns)
  gc_RefrainBusy : mg "RefrainBusy" = some (.ref ad.c_RefrainBusy)
  gc_SongError : mg "SongError" = some (.ref ad.c_SongError)
  gc_TooManyCandidates : mg "TooManyCandidates" = some (.ref ad.c_TooManyCandidates)
  gc_TooManyWords : mg "TooManyWords" = some (.ref ad.c_TooManyWords)
  x_TooManyCandidates : XcOk K mg "TooManyCandidates" ad.c_TooManyCandidates
  x_TooManyWords : XcOk K mg "TooManyWords" ad.c_TooManyWords
  res : resB K ad.c_SongError (clsL ad) = true
  F_Lresult : Fun K "_law_result" "_law_result" s_Lresult ad.f_Lresult ad.d_Lresult
  b_Lresult : Binds K ad.d_Lresult ["_law_call"] []
  g_Lresult : mg "_law_result" = some (.ref ad.f_Lresult)
  FC_law : FunC K "law" "law" s_law ad.f_law ad.d_law ad.lc_law
  k_Candidate : Mk K ad.c_Candidate ad.f_Candidate_init
  na_Candidate_book : NoAttr K ad.c_Candidate "book"
  na_Candidate_current_turns : NoAttr K ad.c_Candidate "current_turns"
  na_Candidate_entries : NoAttr K ad.c_Candidate "entries"
  na_Candidate_first_turns : NoAttr K ad.c_Candidate "first_turns"
  F_Lbegun : Fun K "_law_begun" "_law_begun" s_Lbegun ad.f_Lbegun ad.d_Lbegun
  b_Lbegun : Binds K ad.d_Lbegun ["_law_script"] []
  g_Lbegun : mg "_law_begun" = some (.ref ad.f_Lbegun)
  F_Lthin : Fun K "_law_thin" "_law_thin" s_Lthin ad.f_Lthin ad.d_Lthin
  b_Lthin : Binds K ad.d_Lthin ["_law_book_here", "_law_most"] []
  g_Lthin : mg "_law_thin" = some (.ref ad.f_Lthin)
  F_Ltake : Fun K "_law_take" "_law_take" s_Ltake ad.f_Ltake ad.d_Ltake
  b_Ltake : Binds K ad.d_Ltake ["_law_box", "_law_size"] []
  g_Ltake : mg "_law_take" = some (.ref ad.f_Ltake)
  F_Lbook : Fun K "_law_book" "_law_book" s_Lbook ad.f_Lbook ad.d_Lbook
  b_Lbook : Binds K ad.d_Lbook ["_law_box", "_law_most"] []
  g_Lbook : mg "_law_book" = some (.ref ad.f_Lbook)
  F_Lturns : Fun K "_law_turns" "_law_turns" s_Lturns ad.f_Lturns ad.d_Lturns
  b_Lturns : Binds K ad.d_Lturns ["_law_box", "_law_book_here"] []
  g_Lturns : mg "_law_turns" = some (.ref ad.f_Lturns)
  F_Lfrom : Fun K "_law_from" "_law_from" s_Lfrom ad.f_Lfrom ad.d_Lfrom
  b_Lfrom : Binds K ad.d_Lfrom ["_law_state_here"] []
  g_Lfrom : mg "_law_from" = some (.ref ad.f_Lfrom)
  F_is_word : Fun K "is_word" "is_word" s_is_word ad.f_is_word ad.d_is_word
  b_is_word : Binds K ad.d_is_word ["item"] []
  g_is_word : mg "is_word" = some (.ref ad.f_is_word)
  F_is_valid_item : Fun K "is_valid_item" "is_valid_item" s_is_valid_item ad.f_is_valid_item ad.d_is_valid_item
  b_is_valid_item : Binds K ad.d_is_valid_item ["book", "refrain", "item"] []
  g_is_valid_item : mg "is_valid_item" = some (.ref ad.f_is_valid_item)
  F_first_invalid_verse : Fun K "first_invalid_verse" "first_invalid_verse" s_first_invalid_verse ad.f_first_invalid_verse ad.d_first_invalid_verse
  b_first_invalid_verse : Binds K ad.d_first_invalid_verse ["book", "refrain"] []
  g_first_invalid_verse : mg "first_invalid_verse" = some (.ref ad.f_first_invalid_verse)
  F_validate_book : Fun K "validate_book" "validate_book" s_validate_book ad.f_validate_book ad.d_validate_book
  b_validate_book : Binds K ad.d_validate_book ["book"] []
  g_validate_book : mg "validate_book" = some (.ref ad.f_validate_book)
  F_Candidate_init : Fun K "__init__" "Candidate.__init__" s_Candidate_init ad.f_Candidate_init ad.d_Candidate_init
  b_Candidate_init : Binds K ad.d_Candidate_init ["self", "book", "first_turns", "current_turns", "entries"] []
  F_Candidate_possible_turns : Fun K "possible_turns" "Candidate.possible_turns" s_Candidate_possible_turns ad.f_Candidate_possible_turns ad.d_Candidate_possible_turns
  b_Candidate_possible_turns : Binds K ad.d_Candidate_possible_turns ["self", "refrain"] []
  m_Candidate_possible_turns : Meth K ad.c_Candidate "possible_turns" ad.f_Candidate_possible_turns
  F_Candidate_opening_words : Fun K "opening_words" "Candidate.opening_words" s_Candidate_opening_words ad.f_Candidate_opening_words ad.d_Candidate_opening_words
  b_Candidate_opening_words : Binds K ad.d_Candidate_opening_words ["self"] []
  m_Candidate_opening_words : Meth K ad.c_Candidate "opening_words" ad.f_Candidate_opening_words
  F_Candidate_current_item : Fun K "current_item" "Candidate.current_item" s_Candidate_current_item ad.f_Candidate_current_item ad.d_Candidate_current_item
  b_Candidate_current_item : Binds K ad.d_Candidate_current_item ["self"] []
  m_Candidate_current_item : Meth K ad.c_Candidate "current_item" ad.f_Candidate_current_item
  F_Candidate_after_word : Fun K "after_word" "Candidate.after_word" s_Candidate_after_word ad.f_Candidate_after_word ad.d_Candidate_after_word
  b_Candidate_after_word : Binds K ad.d_Candidate_after_word ["self"] []
  m_Candidate_after_word : Meth K ad.c_Candidate "after_word" ad.f_Candidate_after_word
  F_Candidate_started_at : Fun K "started_at" "Candidate.started_at" s_Candidate_started_at ad.f_Candidate_started_at ad.d_Candidate_started_at
  b_Candidate_started_at : Binds K ad.d_Candidate_started_at ["self", "refrain", "turn"] []
  m_Candidate_started_at : Meth K ad.c_Candidate "started_at" ad.f_Candidate_started_at
  F_Candidate_after_hearing : Fun K "after_hearing" "Candidate.after_hearing" s_Candidate_after_hearing ad.f_Candidate_after_hearing ad.d_Candidate_after_hearing
  b_Candidate_after_hearing : Binds K ad.d_Candidate_after_hearing ["self", "word"] []
  m_Candidate_after_hearing : Meth K ad.c_Candidate "after_hearing" ad.f_Candidate_after_hearing
  F_filter_candidates : Fun K "filter_candidates" "filter_candidates" s_filter_candidates ad.f_filter_candidates ad.d_filter_candidates
  b_filter_candidates : Binds K ad.d_filter_candidates ["candidates", "word"] []
  g_filter_candidates : mg "filter_candidates" = some (.ref ad.f_filter_candidates)
  F_Candidate_following_words : Fun K "following_words" "Candidate.following_words" s_Candidate_following_words ad.f_Candidate_following_words ad.d_Candidate_following_words
  b_Candidate_following_words : Binds K ad.d_Candidate_following_words ["self"] []
  m_Candidate_following_words : Meth K ad.c_Candidate "following_words" ad.f_Candidate_following_words
  F_Candidate_size : Fun K "size" "Candidate.size" s_Candidate_size ad.f_Candidate_size ad.d_Candidate_size
  b_Candidate_size : Binds K ad.d_Candidate_size ["self"] []
  m_Candidate_size : Meth K ad.c_Candidate "size" ad.f_Candidate_size
  F_Candidate_known_turn : Fun K "known_turn" "Candidate.known_turn" s_Candidate_known_turn ad.f_Candidate_known_turn ad.d_Candidate_known_turn
  b_Candidate_known_turn : Binds K ad.d_Candidate_known_turn ["self", "refrain"] []
  m_Candidate_known_turn : Meth K ad.c_Candidate "known_turn" ad.f_Candidate_known_turn
  F_certain_turns : Fun K "certain_turns" "certain_turns" s_certain_turns ad.f_certain_turns ad.d_certain_turns
  b_certain_turns : Binds K ad.d_certain_turns ["book", "candidates"] []
  g_certain_turns : mg "certain_turns" = some (.ref ad.f_certain_turns)
  F_infer_turns : Fun K "infer_turns" "infer_turns" s_infer_turns ad.f_infer_turns ad.d_infer_turns
  b_infer_turns : Binds K ad.d_infer_turns ["book", "words"] []
  g_infer_turns : mg "infer_turns" = some (.ref ad.f_infer_turns)
  F_Lalike : Fun K "_law_alike" "_law_alike" s_Lalike ad.f_Lalike ad.d_Lalike
  b_Lalike : Binds K ad.d_Lalike ["_law_found", "_law_due"] []
  g_Lalike : mg "_law_alike" = some (.ref ad.f_Lalike)
  F_Lstart : Fun K "_law_start" "_law_start" s_Lstart ad.f_Lstart ad.d_Lstart
  b_Lstart : Binds K ad.d_Lstart ["_law_book_here", "_law_s", "_law_refrain"] []
  g_Lstart : mg "_law_start" = some (.ref ad.f_Lstart)
  F_Lsing : Fun K "_law_sing" "_law_sing" s_Lsing ad.f_Lsing ad.d_Lsing
  b_Lsing : Binds K ad.d_Lsing ["_law_book_here", "_law_s"] []
  g_Lsing : mg "_law_sing" = some (.ref ad.f_Lsing)
  F_law : Fun K "law" "law" s_law ad.f_law ad.d_law
  b_law : Binds K ad.d_law ["_law_script"] []
section
variable {P : Program} {w : World} {K : PySem.W.Frag} {mg : Str → Option Value} {base : Heap} {ad : Ad} {sp : Sps} {TT : List (Addr × Str)}
theorem give_Lresult (X : Cx) (T : Txt X.K X.mg ad) (hu1 : ∀ env : Env, (X.A.deeper env).units + 64 < cLine) (cdg : Value) (q : Str) : LamX.GivesTo X N_Lresult "_law_result" (defScope s_Lresult) ad.f_Lresult cdg (defBody s_Lresult) "_law_call" q (TRes ⟨X.K, TT⟩ (rnOf ad)) :=
  res_gives (i := 1) (tres := tRes X.K ad.c_BadBook ad.c_BadCertificate ad.c_BadCount ad.c_BadRefrain ad.c_BadState ad.c_BadTurns ad.c_RefrainBusy ad.c_TooManyCandidates ad.c_TooManyWords) rfl T.gc_SongError sc_Lresult.nd rfl (fun _ => rfl) (res_table T.res).1 (res_table T.res).2 (fun s H b D oe pn H0 hz hf hC => by
    have nd := sc_Lresult.nd
    have hu64 : ((cxOf C8.CX0 X.prog X.w X.K X.mg X.base N_Lresult "_law_result" (defScope s_Lresult) ad.f_Lresult cdg X.A X.stack s H C8.E0).nox.suite b ((b, oe) :: pn)).A.units + 64 < cLine := hu1 (envOfC "_law_result" (defScope s_Lresult) s.heap.objs.size ad.f_Lresult cdg)
    exact (bCons (sSet' (i := 2) nd rfl (by first | exact .inl rfl | exact .inr rfl) (pLst (aCons' (pB (kIsE hC hz hf) (by rfl) T.no_isinstance (by decide +kernel) (aCons' (pv' 1) (aCons' (pGlob (v := .ref ad.c_BadBook) (by rfl) T.gc_BadBook rfl (fun _ _ => .adr _)) aNil'))) (aCons' (pB (kIsE hC hz hf) (by rfl) T.no_isinstance (by decide +kernel) (aCons' (pv' 1) (aCons' (pGlob (v := .ref ad.c_BadCertificate) (by rfl) T.gc_BadCertificate rfl (fun _ _ => .adr _)) aNil'))) (aCons' (pB (kIsE hC hz hf) (by rfl) T.no_isinstance (by decide +kernel) (aCons' (pv' 1) (aCons' (pGlob (v := .ref ad.c_BadCount) (by rfl) T.gc_BadCount rfl (fun _ _ => .adr _)) aNil'))) aNil')))))
    (bCons (sSet' (i := 2) nd rfl (by first | exact .inl rfl | exact .inr rfl) (pOp oAdd (pv' 2) (pLst (aCons' (pB (kIsE hC hz hf) (by rfl) T.no_isinstance (by decide +kernel) (aCons' (pv' 1) (aCons' (pGlob (v := .ref ad.c_BadRefrain) (by rfl) T.gc_BadRefrain rfl (fun _ _ => .adr _)) aNil'))) (aCons' (pB (kIsE hC hz hf) (by rfl) T.no_isinstance (by decide +kernel) (aCons' (pv' 1) (aCons' (pGlob (v := .ref ad.c_BadState) (by rfl) T.gc_BadState rfl (fun _ _ => .adr _)) aNil'))) (aCons' (pB (kIsE hC hz hf) (by rfl) T.no_isinstance (by decide +kernel) (aCons' (pv' 1) (aCons' (pGlob (v := .ref ad.c_BadTurns) (by rfl) T.gc_BadTurns rfl (fun _ _ => .adr _)) aNil'))) aNil'))))))
    (bCons (sSet' (i := 2) nd rfl (by first | exact .inl rfl | exact .inr rfl) (pOp oAdd (pv' 2) (pLst (aCons' (pB (kIsE hC hz hf) (by rfl) T.no_isinstance (by decide +kernel) (aCons' (pv' 1) (aCons' (pGlob (v := .ref ad.c_RefrainBusy) (by rfl) T.gc_RefrainBusy rfl (fun _ _ => .adr _)) aNil'))) (aCons' (pB (kIsE hC hz hf) (by rfl) T.no_isinstance (by decide +kernel) (aCons' (pv' 1) (aCons' (pGlob (v := .ref ad.c_TooManyCandidates) (by rfl) T.gc_TooManyCandidates rfl (fun _ _ => .adr _)) aNil'))) (aCons' (pB (kIsE hC hz hf) (by rfl) T.no_isinstance (by decide +kernel) (aCons' (pv' 1) (aCons' (pGlob (v := .ref ad.c_TooManyWords) (by rfl) T.gc_TooManyWords rfl (fun _ _ => .adr _)) aNil'))) aNil'))))))
    (bCons (sIf' (PW.pt (wOr (tCmp' (oNe (hu := hu64)) (pBM PySem.F.plainAttrs_list PySem.F.slot_list_count PySem.F.type_list_count (mCount hu64) (pv' 2) (aCons' pBl aNil')) pInt) (wOr1 (tNot' (tVal (pB (kIsE hC hz hf) (by rfl) T.no_isinstance (by decide +kernel) (aCons' (pv' 1) (aCons' (pTy (by rfl) T.no_ValueError (by decide +kernel)) aNil')))))))) (bOne (sRet' (pTup (aCons' pStr (aCons' pInt aNil'))))) bNil)
    (bCons (sSet' (i := 3) nd rfl (by first | exact .inl rfl | exact .inr rfl) (pIx oIx (pLst (aCons' pStr (aCons' pStr (aCons' pStr (aCons' pStr (aCons' pStr (aCons' pStr (aCons' pStr (aCons' pStr (aCons' pStr aNil')))))))))) (pBM PySem.F.plainAttrs_list PySem.F.slot_list_index PySem.F.type_list_index mIndexB (pv' 2) (aCons' pBl aNil'))))
    (bOne (sRet' (pIfE (tCmp' (oEq (hu := hu64)) (pv' 3) pStr) pNever (pTup (aCons' (pv' 3) aNil')))))))))))
theorem ok_Lbegun (T : Txt K mg ad) 
    (len : ∀ ds S Q E, sp.Lbegun ds S Q E → ds.length = 1)
    (hR : ∀ ds S Qd Ed, sp.Lbegun ds S Qd Ed → StClo S → t_Lbegun (WEx S.length Ed) { nx := fun _ S' => Gc S.length Qd .non S', rt := Gc S.length Qd } (startD 3 ds) S) :
    FnOk P w K mg base (L2.CX P w) (0 + 1) ad.f_Lbegun ad.d_Lbegun ["_law_script"] (LSp ⟨K, TT⟩ sp.Lbegun) :=
  okD T.F_Lbegun sc_Lbegun len (t_Lbegun) (fun π0 H0 Wd cdv A outer s H E hr tk => by
    have nd := sc_Lbegun.nd
    have hu64 := hr.units
    exact (bCons (sSet' (i := 1) nd rfl (by first | exact .inl rfl | exact .inr rfl) pInt)
    (bCons (sFor' (passes_of rfl) rfl (iSeq' (hl := (pv' 0))) (gName' (i := 2) nd rfl (by first | exact .inl rfl | exact .inr rfl)) (bOne (sSet' (i := 1) nd rfl (by first | exact .inl rfl | exact .inr rfl) (pOp oMod (pOp oAdd (pOp oAdd (pOp oMul (pv' 1) pInt) (pOp oMul (pv' 2) pInt)) pInt) pInt))))
    (bOne (sRet' (pLst (aCons' (pBT kList (by rfl) T.no_list (by decide +kernel) (aCons' (pv' 0) aNil')) (aCons' (pOp oMul (pv' 1) (pBT kInt (by rfl) T.no_int (by decide +kernel) (aCons' (pCmp oGt (pB kLen (by rfl) T.no_len (by decide +kernel) (aCons' (pv' 0) aNil')) pInt) aNil'))) aNil')))))))) hR
theorem ok_Lthin (T : Txt K mg ad) 
    (len : ∀ ds S Q E, sp.Lthin ds S Q E → ds.length = 2)
    (hR : ∀ ds S Qd Ed, sp.Lthin ds S Qd Ed → StClo S → t_Lthin (WEx S.length Ed) { nx := fun _ S' => Gc S.length Qd .non S', rt := Gc S.length Qd } (startD 6 ds) S) :
    FnOk P w K mg base (L2.CX P w) (0 + 1) ad.f_Lthin ad.d_Lthin ["_law_book_here", "_law_most"] (LSp ⟨K, TT⟩ sp.Lthin) :=
  okD T.F_Lthin sc_Lthin len (t_Lthin) (fun π0 H0 Wd cdv A outer s H E hr tk => by
    have nd := sc_Lthin.nd
    have hu64 := hr.units
    exact (bCons (sPar' (i := 2) (j := 3) rfl nd rfl rfl (by decide) rfl rfl (aCons' pInt (aCons' (pLst aNil') aNil')) (by rfl))
    (bCons (sFor' (passes_of rfl) rfl (iSeq' (hl := (pv' 0))) (gName' (i := 4) nd rfl (by first | exact .inl rfl | exact .inr rfl)) (bCons (sSet' (i := 5) nd rfl (by first | exact .inl rfl | exact .inr rfl) (pIfE (tCmp' oLe (pOp oMul (pv' 2) (pB kLen (by rfl) T.no_len (by decide +kernel) (aCons' (pv' 4) aNil'))) (pv' 1)) (pv' 4) (pSl oSlice (pv' 4) poNo (poSome pInt))))
    (bCons (sSet' (i := 2) nd rfl (by first | exact .inl rfl | exact .inr rfl) (pOp oMul (pv' 2) (pB kLen (by rfl) T.no_len (by decide +kernel) (aCons' (pv' 5) aNil'))))
    (bOne (sExpr' (pBM PySem.F.plainAttrs_list PySem.F.slot_list_append PySem.F.type_list_append mAppend (pv' 3) (aCons' (pv' 5) aNil')))))))
    (bOne (sRet' (pBT kTuple (by rfl) T.no_tuple (by decide +kernel) (aCons' (pv' 3) aNil'))))))) hR
theorem ok_Ltake (T : Txt K mg ad) 
    (len : ∀ ds S Q E, sp.Ltake ds S Q E → ds.length = 2)
    (hR : ∀ ds S Qd Ed, sp.Ltake ds S Qd Ed → StClo S → t_Ltake (WEx S.length Ed) { nx := fun _ S' => Gc S.length Qd .non S', rt := Gc S.length Qd } (startD 3 ds) S) :
    FnOk P w K mg base (L2.CX P w) (0 + 1) ad.f_Ltake ad.d_Ltake ["_law_box", "_law_size"] (LSp ⟨K, TT⟩ sp.Ltake) :=
  okD T.F_Ltake sc_Ltake len (t_Ltake) (fun π0 H0 Wd cdv A outer s H E hr tk => by
    have nd := sc_Ltake.nd
    have hu64 := hr.units
    exact (bCons (sIf' (tCmp' (oEq (hu := hu64)) (pIx oIx (pv' 0) pInt) (pLst aNil')) (bCons (sAsg' (pOp oMod (pBT kInt (by rfl) T.no_int (by decide +kernel) (aCons' (pOp oMul (pIx oIx (pv' 0) pInt) pInt) aNil')) pInt) (gSub' (pv' 0) pInt stSetL))
    (bOne (sRet' (pOp oMod (pOp oDiv (pIx oIx (pv' 0) pInt) pInt) (pv' 1))))) bNil)
    (bCons (sSet' (i := 2) nd rfl (by first | exact .inl rfl | exact .inr rfl) (pIx oIx (pIx oIx (pv' 0) pInt) pInt))
    (bCons (sAsg' (pOp oDiv (pv' 2) (pv' 1)) (gSub' (pIx oIx (pv' 0) pInt) pInt stSetL))
    (bCons (sIf' (PW.pt (wOr (tCmp' (oEq (hu := hu64)) (pIx oIx (pIx oIx (pv' 0) pInt) pInt) pInt) (wOr1 (tCmp' (oEq (hu := hu64)) (pIx oIx (pIx oIx (pv' 0) pInt) pInt) (pUn oNeg pInt))))) (bOne (sExpr' (pBM PySem.F.plainAttrs_list PySem.F.slot_list_pop PySem.F.type_list_pop mPop (pIx oIx (pv' 0) pInt) (aCons' pInt aNil')))) bNil)
    (bOne (sRet' (pOp oMod (pBT kInt (by rfl) T.no_int (by decide +kernel) (aCons' (pv' 2) aNil')) (pv' 1))))))))) hR
theorem ok_Lbook (T : Txt K mg ad) (G_Ltake : FnOk P w K mg base (L2.CX P w) 1 ad.f_Ltake ad.d_Ltake ["_law_box", "_law_size"] (LSp ⟨K, TT⟩ sp.Ltake))
    (len : ∀ ds S Q E, sp.Lbook ds S Q E → ds.length = 2)
    (hR : ∀ ds S Qd Ed, sp.Lbook ds S Qd Ed → StClo S → t_Lbook sp.Ltake (WEx S.length Ed) { nx := fun _ S' => Gc S.length Qd .non S', rt := Gc S.length Qd } (startD 12 ds) S) :
    FnOk P w K mg base (L2.CX P w) (1 + 1) ad.f_Lbook ad.d_Lbook ["_law_box", "_law_most"] (LSp ⟨K, TT⟩ sp.Lbook) :=
  okD T.F_Lbook sc_Lbook len (t_Lbook sp.Ltake) (fun π0 H0 Wd cdv A outer s H E hr tk => by
    have nd := sc_Lbook.nd
    have hu64 := hr.units
    exact (bCons (sPar' (i := 2) (j := 3) rfl nd rfl rfl (by decide) rfl rfl (aCons' (pOp oAdd pInt (pCall G_Ltake (hr.mono (by decide)) (by rfl) T.g_Ltake T.F_Ltake.kp T.b_Ltake tk (aCons' (pv' 0) (aCons' (pv' 1) aNil')))) (aCons' (pLst aNil') aNil')) (by rfl))
    (bCons (sSet' (i := 4) nd rfl (by first | exact .inl rfl | exact .inr rfl) (pLst (aCons' pStr (aCons' pStr (aCons' pStr (aCons' pStr (aCons' pStr (aCons' pStr aNil'))))))))
    (bCons (sFor' (passes_of rfl) rfl (iRg1' (by rfl) T.no_range (aCons' (pv' 2) aNil')) (gName' (i := 5) nd rfl (by first | exact .inl rfl | exact .inr rfl)) (bCons (sSet' (i := 6) nd rfl (by first | exact .inl rfl | exact .inr rfl) (pLst aNil'))
    (bCons (sFor' (passes_of rfl) rfl (iRg1' (by rfl) T.no_range (aCons' (pIx oIx (pLst (aCons' pInt (aCons' pInt (aCons' pInt (aCons' pInt (aCons' pInt aNil')))))) (pCall G_Ltake (hr.mono (by decide)) (by rfl) T.g_Ltake T.F_Ltake.kp T.b_Ltake tk (aCons' (pv' 0) (aCons' pInt aNil')))) aNil')) (gName' (i := 7) nd rfl (by first | exact .inl rfl | exact .inr rfl)) (bCons (sSet' (i := 8) nd rfl (by first | exact .inl rfl | exact .inr rfl) (pLst aNil'))
    (bCons (sFor' (passes_of rfl) rfl (iRg1' (by rfl) T.no_range (aCons' (pIx oIx (pLst (aCons' pInt (aCons' pInt (aCons' pInt (aCons' pInt (aCons' pInt aNil')))))) (pCall G_Ltake (hr.mono (by decide)) (by rfl) T.g_Ltake T.F_Ltake.kp T.b_Ltake tk (aCons' (pv' 0) (aCons' pInt aNil')))) aNil')) (gName' (i := 9) nd rfl (by first | exact .inl rfl | exact .inr rfl)) (bCons (sSet' (i := 10) nd rfl (by first | exact .inl rfl | exact .inr rfl) (pOp oSub (pOp oSub (pv' 2) (pv' 5)) pInt))
    (bCons (sSet' (i := 11) nd rfl (by first | exact .inl rfl | exact .inr rfl) (pIx oIx (pLst (aCons' (pOp oAdd pInt (pCall G_Ltake (hr.mono (by decide)) (by rfl) T.g_Ltake T.F_Ltake.kp T.b_Ltake tk (aCons' (pv' 0) (aCons' (pB (kMax rfl) (by rfl) T.no_max (by decide +kernel) (aCons' pInt (aCons' (pv' 10) aNil'))) aNil')))) (aCons' pInt aNil'))) (pCall G_Ltake (hr.mono (by decide)) (by rfl) T.g_Ltake T.F_Ltake.kp T.b_Ltake tk (aCons' (pv' 0) (aCons' pInt aNil')))))
    (bOne (sExpr' (pBM PySem.F.plainAttrs_list PySem.F.slot_list_append PySem.F.type_list_append mAppend (pv' 8) (aCons' (pIfE (PW.pt (wAnd (tCmp' oGt (pv' 10) pInt) (wAnd1 (tCmp' oGt (pCall G_Ltake (hr.mono (by decide)) (by rfl) T.g_Ltake T.F_Ltake.kp T.b_Ltake tk (aCons' (pv' 0) (aCons' pInt aNil'))) pInt)))) (pOp oAdd (pv' 5) (pv' 11)) (pIx oIx (pv' 4) (pCall G_Ltake (hr.mono (by decide)) (by rfl) T.g_Ltake T.F_Ltake.kp T.b_Ltake tk (aCons' (pv' 0) (aCons' pInt aNil'))))) aNil')))))))
    (bOne (sExpr' (pBM PySem.F.plainAttrs_list PySem.F.slot_list_append PySem.F.type_list_append mAppend (pv' 6) (aCons' (pBT kTuple (by rfl) T.no_tuple (by decide +kernel) (aCons' (pv' 8) aNil')) aNil')))))))
    (bOne (sExpr' (pBM PySem.F.plainAttrs_list PySem.F.slot_list_append PySem.F.type_list_append mAppend (pv' 3) (aCons' (pBT kTuple (by rfl) T.no_tuple (by decide +kernel) (aCons' (pv' 6) aNil')) aNil')))))))
    (bOne (sRet' (pBT kTuple (by rfl) T.no_tuple (by decide +kernel) (aCons' (pv' 3) aNil')))))))) hR
theorem ok_Lturns (T : Txt K mg ad) (G_Ltake : FnOk P w K mg base (L2.CX P w) 1 ad.f_Ltake ad.d_Ltake ["_law_box", "_law_size"] (LSp ⟨K, TT⟩ sp.Ltake))
    (len : ∀ ds S Q E, sp.Lturns ds S Q E → ds.length = 2)
    (hR : ∀ ds S Qd Ed, sp.Lturns ds S Qd Ed → StClo S → t_Lturns sp.Ltake (WEx S.length Ed) { nx := fun _ S' => Gc S.length Qd .non S', rt := Gc S.length Qd } (startD 3 ds) S) :
    FnOk P w K mg base (L2.CX P w) (1 + 1) ad.f_Lturns ad.d_Lturns ["_law_box", "_law_book_here"] (LSp ⟨K, TT⟩ sp.Lturns) :=
  okD T.F_Lturns sc_Lturns len (t_Lturns sp.Ltake) (fun π0 H0 Wd cdv A outer s H E hr tk => by
    have nd := sc_Lturns.nd
    have hu64 := hr.units
    exact (bOne (sRet' (pBT kTuple (by rfl) T.no_tuple (by decide +kernel) (aCons' (pLc (own := [("_law_verses", 2)]) (g := (Tg.one 2)) (hc := rfl) (hN := nd) (hi := (iSeq' (hl := (pv' 1)))) (ok := (blkOk_by (own := [("_law_verses", 2)]) (N := N_Lturns) (sc := defScope s_Lturns) (by decide +kernel))) (hv := by decide) (hg := (fun _ _ _ _ _ => gOne (i := 2) nd rfl (.inl rfl))) (ht := (fun _ _ _ _ _ => ifNo)) (he := fun _ _ _ _ _ => (pCall G_Ltake (hr.mono (by decide)) (by rfl) T.g_Ltake T.F_Ltake.kp T.b_Ltake tkNo (aCons' (pv' 0) (aCons' (pB kLen (by rfl) T.no_len (by decide +kernel) (aCons' (pv' 2) aNil')) aNil'))))) aNil'))))) hR
theorem ok_Lfrom (T : Txt K mg ad) 
    (len : ∀ ds S Q E, sp.Lfrom ds S Q E → ds.length = 1)
    (hR : ∀ ds S Qd Ed, sp.Lfrom ds S Qd Ed → StClo S → t_Lfrom (WEx S.length Ed) { nx := fun _ S' => Gc S.length Qd .non S', rt := Gc S.length Qd } (startD 2 ds) S) :
    FnOk P w K mg base (L2.CX P w) (0 + 1) ad.f_Lfrom ad.d_Lfrom ["_law_state_here"] (LSp ⟨K, TT⟩ sp.Lfrom) :=
  okD T.F_Lfrom sc_Lfrom len (t_Lfrom) (fun π0 H0 Wd cdv A outer s H E hr tk => by
    have nd := sc_Lfrom.nd
    have hu64 := hr.units
    exact (bOne (sRet' (pDisp (psCons' pStr (pBT kList (by rfl) T.no_list (by decide +kernel) (aCons' (pIx oIx (pv' 0) pInt) aNil')) (psCons' pStr (pLc (own := [("_law_entry", 1)]) (g := (Tg.one 1)) (hc := rfl) (hN := nd) (hi := (iSeq' (hl := (pIx oIx (pv' 0) pInt)))) (ok := (blkOk_by (own := [("_law_entry", 1)]) (N := N_Lfrom) (sc := defScope s_Lfrom) (by decide +kernel))) (hv := by decide) (hg := (fun _ _ _ _ _ => gOne (i := 1) nd rfl (.inl rfl))) (ht := (fun _ _ _ _ _ => ifNo)) (he := fun _ _ _ _ _ => (pBT kList (by rfl) T.no_list (by decide +kernel) (aCons' (pv' 1) aNil')))) (psCons' pStr (pLst aNil') psNil'))))))) hR
theorem ok_is_word (T : Txt K mg ad) 
    (len : ∀ ds S Q E, sp.is_word ds S Q E → ds.length = 1)
    (hR : ∀ ds S Qd Ed, sp.is_word ds S Qd Ed → StClo S → t_is_word (WEx S.length Ed) { nx := fun _ S' => Gc S.length Qd .non S', rt := Gc S.length Qd } (startD 1 ds) S) :
    FnOk P w K mg base (L2.CX P w) (0 + 1) ad.f_is_word ad.d_is_word ["item"] (LSp ⟨K, TT⟩ sp.is_word) :=
  okD T.F_is_word sc_is_word len (t_is_word) (fun π0 H0 Wd cdv A outer s H E hr tk => by
    have nd := sc_is_word.nd
    have hu64 := hr.units
    exact (bOne (sRet' (pB kIsi (by rfl) T.no_isinstance (by decide +kernel) (aCons' (pv' 0) (aCons' (pTy (by rfl) T.no_str (by decide +kernel)) aNil')))))) hR
theorem ok_is_valid_item (T : Txt K mg ad) (G_is_word : FnOk P w K mg base (L2.CX P w) 1 ad.f_is_word ad.d_is_word ["item"] (LSp ⟨K, TT⟩ sp.is_word))
    (len : ∀ ds S Q E, sp.is_valid_item ds S Q E → ds.length = 3)
    (hR : ∀ ds S Qd Ed, sp.is_valid_item ds S Qd Ed → StClo S → t_is_valid_item sp.is_word (WEx S.length Ed) { nx := fun _ S' => Gc S.length Qd .non S', rt := Gc S.length Qd } (startD 4 ds) S) :
    FnOk P w K mg base (L2.CX P w) (1 + 1) ad.f_is_valid_item ad.d_is_valid_item ["book", "refrain", "item"] (LSp ⟨K, TT⟩ sp.is_valid_item) :=
  okD T.F_is_valid_item sc_is_valid_item len (t_is_valid_item sp.is_word) (fun π0 H0 Wd cdv A outer s H E hr tk => by
    have nd := sc_is_valid_item.nd
    have hu64 := hr.units
    exact (bCons (sIf' (tVal (pCall G_is_word (hr.mono (by decide)) (by rfl) T.g_is_word T.F_is_word.kp T.b_is_word tk (aCons' (pv' 2) aNil'))) (bOne (sRet' (pAnd (pChain oLe oLe pInt (pB kLen (by rfl) T.no_len (by decide +kernel) (aCons' (pv' 2) aNil')) (pGlob (by rfl) T.gk_MAX_LETTERS T.v_MAX_LETTERS (T.r_MAX_LETTERS _))) (pOne (pB (kAll rfl) (by rfl) T.no_all (by decide +kernel) (aCons' (pLc (own := [("letter", 3)]) (g := (Tg.one 3)) (hc := rfl) (hN := nd) (hi := (iStr' (pv' 2))) (ok := (blkOk_by (own := [("letter", 3)]) (N := N_is_valid_item) (sc := defScope s_is_valid_item) (by decide +kernel))) (hv := by decide) (hg := (fun _ _ _ _ _ => gOne (i := 3) nd rfl (.inl rfl))) (ht := (fun _ _ _ _ _ => ifNo)) (he := fun _ _ _ _ _ => (pCmp oIn (pv' 3) (pGlob (by rfl) T.gk_LETTERS T.v_LETTERS (T.r_LETTERS _))))) aNil')))))) bNil)
    (bOne (sRet' (pChain oLt oLt (pv' 1) (pv' 2) (pB kLen (by rfl) T.no_len (by decide +kernel) (aCons' (pv' 0) aNil'))))))) hR
theorem ok_first_invalid_verse (T : Txt K mg ad) (G_is_valid_item : FnOk P w K mg base (L2.CX P w) 2 ad.f_is_valid_item ad.d_is_valid_item ["book", "refrain", "item"] (LSp ⟨K, TT⟩ sp.is_valid_item))
    (len : ∀ ds S Q E, sp.first_invalid_verse ds S Q E → ds.length = 2)
    (hR : ∀ ds S Qd Ed, sp.first_invalid_verse ds S Qd Ed → StClo S → t_first_invalid_verse sp.is_valid_item (WEx S.length Ed) { nx := fun _ S' => Gc S.length Qd .non S', rt := Gc S.length Qd } (startD 6 ds) S) :
    FnOk P w K mg base (L2.CX P w) (2 + 1) ad.f_first_invalid_verse ad.d_first_invalid_verse ["book", "refrain"] (LSp ⟨K, TT⟩ sp.first_invalid_verse) :=
  okD T.F_first_invalid_verse sc_first_invalid_verse len (t_first_invalid_verse sp.is_valid_item) (fun π0 H0 Wd cdv A outer s H E hr tk => by
    have nd := sc_first_invalid_verse.nd
    have hu64 := hr.units
    exact (bCons (sSet' (i := 2) nd rfl (by first | exact .inl rfl | exact .inr rfl) (pIx oIx (pv' 0) (pv' 1)))
    (bCons (sIf' (tNot' (tChain' oLe oLe pInt (pB kLen (by rfl) T.no_len (by decide +kernel) (aCons' (pv' 2) aNil')) (pGlob (by rfl) T.gk_MAX_VERSES T.v_MAX_VERSES (T.r_MAX_VERSES _)))) (bOne (sRet' (pUn oNeg pInt))) bNil)
    (bCons (sFor' (passes_of rfl) rfl (iEnum' (hg := by rfl) (hm := T.no_enumerate) (ha := (aCons' (pv' 2) aNil'))) (gUnp' (hc := rfl) (h := (gsCons' (gName' (i := 3) nd rfl (by first | exact .inl rfl | exact .inr rfl)) (gsCons' (gName' (i := 4) nd rfl (by first | exact .inl rfl | exact .inr rfl)) gsNil')))) (bOne (sIf' (PW.pt (wOr (tNot' (tChain' oLe oLe pInt (pB kLen (by rfl) T.no_len (by decide +kernel) (aCons' (pv' 4) aNil')) (pGlob (by rfl) T.gk_MAX_ITEMS T.v_MAX_ITEMS (T.r_MAX_ITEMS _)))) (wOr1 (tNot' (tVal (pB (kAll rfl) (by rfl) T.no_all (by decide +kernel) (aCons' (pLc (own := [("item", 5)]) (g := (Tg.one 5)) (hc := rfl) (hN := nd) (hi := (iSeq' (hl := (pv' 4)))) (ok := (blkOk_by (own := [("item", 5)]) (N := N_first_invalid_verse) (sc := defScope s_first_invalid_verse) (by decide +kernel))) (hv := by decide) (hg := (fun _ _ _ _ _ => gOne (i := 5) nd rfl (.inl rfl))) (ht := (fun _ _ _ _ _ => ifNo)) (he := fun _ _ _ _ _ => (pCall G_is_valid_item (hr.mono (by decide)) (by rfl) T.g_is_valid_item T.F_is_valid_item.kp T.b_is_valid_item tkNo (aCons' (pv' 0) (aCons' (pv' 1) (aCons' (pv' 5) aNil')))))) aNil'))))))) (bOne (sRet' (pv' 3))) bNil)))
    (bOne (sRet' pNon)))))) hR
theorem ok_validate_book (T : Txt K mg ad) (G_first_invalid_verse : FnOk P w K mg base (L2.CX P w) 3 ad.f_first_invalid_verse ad.d_first_invalid_verse ["book", "refrain"] (LSp ⟨K, TT⟩ sp.first_invalid_verse))
    (len : ∀ ds S Q E, sp.validate_book ds S Q E → ds.length = 1)
    (hR : ∀ ds S Qd Ed, sp.validate_book ds S Qd Ed → StClo S → t_validate_book sp.first_invalid_verse (WEx S.length Ed) { nx := fun _ S' => Gc S.length Qd .non S', rt := Gc S.length Qd } (startD 3 ds) S) :
    FnOk P w K mg base (L2.CX P w) (3 + 1) ad.f_validate_book ad.d_validate_book ["book"] (LSp ⟨K, TT⟩ sp.validate_book) :=
  okD T.F_validate_book sc_validate_book len (t_validate_book sp.first_invalid_verse) (fun π0 H0 Wd cdv A outer s H E hr tk => by
    have nd := sc_validate_book.nd
    have hu64 := hr.units
    exact (bCons (sIf' (tCmp' (oEq (hu := hu64)) (pB kLen (by rfl) T.no_len (by decide +kernel) (aCons' (pv' 0) aNil')) pInt) (bOne sNever') bNil)
    (bOne (sFor' (passes_of rfl) rfl (iRg1' (by rfl) T.no_range (aCons' (pB kLen (by rfl) T.no_len (by decide +kernel) (aCons' (pv' 0) aNil')) aNil')) (gName' (i := 1) nd rfl (by first | exact .inl rfl | exact .inr rfl)) (bCons (sSet' (i := 2) nd rfl (by first | exact .inl rfl | exact .inr rfl) (pIfE (tCmp' (oEq (hu := hu64)) (pv' 1) (pGlob (by rfl) T.gk_MAX_REFRAINS T.v_MAX_REFRAINS (T.r_MAX_REFRAINS _))) (pUn oNeg pInt) (pCall G_first_invalid_verse (hr.mono (by decide)) (by rfl) T.g_first_invalid_verse T.F_first_invalid_verse.kp T.b_first_invalid_verse tk (aCons' (pv' 0) (aCons' (pv' 1) aNil')))))
    (bOne (sIf' (tCmp' oIsNot (pv' 2) pNon) (bOne sNever') bNil))))))) hR
theorem ok_Candidate_init (T : Txt K mg ad) 
    (len : ∀ ds S Q E, sp.Candidate_init ds S Q E → ds.length = 5)
    (hR : ∀ ds S Qd Ed, sp.Candidate_init ds S Qd Ed → StClo S → t_Candidate_init ad.c_Candidate (WEx S.length Ed) { nx := fun _ S' => Gc S.length Qd .non S', rt := Gc S.length Qd } (startD 5 ds) S) :
    FnOk P w K mg base (L2.CX P w) (0 + 1) ad.f_Candidate_init ad.d_Candidate_init ["self", "book", "first_turns", "current_turns", "entries"] (LSp ⟨K, TT⟩ sp.Candidate_init) :=
  okD T.F_Candidate_init sc_Candidate_init len (t_Candidate_init ad.c_Candidate) (fun π0 H0 Wd cdv A outer s H E hr tk => by
    have nd := sc_Candidate_init.nd
    have hu64 := hr.units
    exact (bCons (sFld' T.cl_Candidate T.na_Candidate_book (pv' 0) (pv' 1))
    (bCons (sFld' T.cl_Candidate T.na_Candidate_first_turns (pv' 0) (pv' 2))
    (bCons (sFld' T.cl_Candidate T.na_Candidate_current_turns (pv' 0) (pv' 3))
    (bOne (sFld' T.cl_Candidate T.na_Candidate_entries (pv' 0) (pv' 4))))))) hR
theorem ok_Candidate_possible_turns (T : Txt K mg ad) 
    (len : ∀ ds S Q E, sp.Candidate_possible_turns ds S Q E → ds.length = 2)
    (hR : ∀ ds S Qd Ed, sp.Candidate_possible_turns ds S Qd Ed → StClo S → t_Candidate_possible_turns ad.c_Candidate (WEx S.length Ed) { nx := fun _ S' => Gc S.length Qd .non S', rt := Gc S.length Qd } (startD 2 ds) S) :
    FnOk P w K mg base (L2.CX P w) (0 + 1) ad.f_Candidate_possible_turns ad.d_Candidate_possible_turns ["self", "refrain"] (LSp ⟨K, TT⟩ sp.Candidate_possible_turns) :=
  okD T.F_Candidate_possible_turns sc_Candidate_possible_turns len (t_Candidate_possible_turns ad.c_Candidate) (fun π0 H0 Wd cdv A outer s H E hr tk => by
    have nd := sc_Candidate_possible_turns.nd
    have hu64 := hr.units
    exact (bCons (sIf' (tCmp' oIsNot (pIx oIx (pFld T.cl_Candidate T.na_Candidate_first_turns (pv' 0)) (pv' 1)) pNon) (bOne (sRet' (pLst (aCons' (pIx oIx (pFld T.cl_Candidate T.na_Candidate_current_turns (pv' 0)) (pv' 1)) aNil')))) bNil)
    (bOne (sRet' (pLRg rfl (by rfl) T.no_list (by rfl) T.no_range (pB kLen (by rfl) T.no_len (by decide +kernel) (aCons' (pIx oIx (pFld T.cl_Candidate T.na_Candidate_book (pv' 0)) (pv' 1)) aNil'))))))) hR
theorem ok_Candidate_opening_words (T : Txt K mg ad) (G_Candidate_possible_turns : FnOk P w K mg base (L2.CX P w) 1 ad.f_Candidate_possible_turns ad.d_Candidate_possible_turns ["self", "refrain"] (LSp ⟨K, TT⟩ sp.Candidate_possible_turns)) (G_is_word : FnOk P w K mg base (L2.CX P w) 1 ad.f_is_word ad.d_is_word ["item"] (LSp ⟨K, TT⟩ sp.is_word))
    (len : ∀ ds S Q E, sp.Candidate_opening_words ds S Q E → ds.length = 1)
    (hR : ∀ ds S Qd Ed, sp.Candidate_opening_words ds S Qd Ed → StClo S → t_Candidate_opening_words ad.c_Candidate sp.Candidate_possible_turns sp.is_word (WEx S.length Ed) { nx := fun _ S' => Gc S.length Qd .non S', rt := Gc S.length Qd } (startD 6 ds) S) :
    FnOk P w K mg base (L2.CX P w) (1 + 1) ad.f_Candidate_opening_words ad.d_Candidate_opening_words ["self"] (LSp ⟨K, TT⟩ sp.Candidate_opening_words) :=
  okD T.F_Candidate_opening_words sc_Candidate_opening_words len (t_Candidate_opening_words ad.c_Candidate sp.Candidate_possible_turns sp.is_word) (fun π0 H0 Wd cdv A outer s H E hr tk => by
    have nd := sc_Candidate_opening_words.nd
    have hu64 := hr.units
    exact (bCons (sSet' (i := 1) nd rfl (by first | exact .inl rfl | exact .inr rfl) (pOp oMul (pLst (aCons' pKNew aNil')) (pB kLen (by rfl) T.no_len (by decide +kernel) (aCons' (pFld T.cl_Candidate T.na_Candidate_book (pv' 0)) aNil'))))
    (bCons (sFor' (passes_of rfl) rfl (iRg3' (by rfl) T.no_range (aCons' (pOp oSub (pB kLen (by rfl) T.no_len (by decide +kernel) (aCons' (pFld T.cl_Candidate T.na_Candidate_book (pv' 0)) aNil')) pInt) (aCons' (pUn oNeg pInt) (aCons' (pUn oNeg pInt) aNil')))) (gName' (i := 2) nd rfl (by first | exact .inl rfl | exact .inr rfl)) (bCons (sSet' (i := 3) nd rfl (by first | exact .inl rfl | exact .inr rfl) pKNew)
    (bCons (sFor' (passes_of rfl) rfl (iSeq' (hl := (pMeth (pv' 0) T.cl_Candidate T.m_Candidate_possible_turns G_Candidate_possible_turns (hr.mono (by decide)) T.b_Candidate_possible_turns tk (aCons' (pv' 2) aNil')))) (gName' (i := 4) nd rfl (by first | exact .inl rfl | exact .inr rfl)) (bCons (sSet' (i := 5) nd rfl (by first | exact .inl rfl | exact .inr rfl) (pIx oIx (pIx oIx (pIx oIx (pFld T.cl_Candidate T.na_Candidate_book (pv' 0)) (pv' 2)) (pv' 4)) pInt))
    (bOne (sExpr' (pBM PySem.F.plainAttrs_dict PySem.F.slot_dict_update PySem.F.type_dict_update mUpdate (pv' 3) (aCons' (pIfE (tVal (pCall G_is_word (hr.mono (by decide)) (by rfl) T.g_is_word T.F_is_word.kp T.b_is_word tk (aCons' (pv' 5) aNil'))) (pDisp (psCons' (pv' 5) pBl psNil')) (pIx oIx (pv' 1) (pv' 5))) aNil'))))))
    (bOne (sAsg' (pv' 3) (gSub' (pv' 1) (pv' 2) stSetL))))))
    (bOne (sRet' (pv' 1)))))) hR
theorem ok_Candidate_current_item (T : Txt K mg ad) 
    (len : ∀ ds S Q E, sp.Candidate_current_item ds S Q E → ds.length = 1)
    (hR : ∀ ds S Qd Ed, sp.Candidate_current_item ds S Qd Ed → StClo S → t_Candidate_current_item ad.c_Candidate (WEx S.length Ed) { nx := fun _ S' => Gc S.length Qd .non S', rt := Gc S.length Qd } (startD 4 ds) S) :
    FnOk P w K mg base (L2.CX P w) (0 + 1) ad.f_Candidate_current_item ad.d_Candidate_current_item ["self"] (LSp ⟨K, TT⟩ sp.Candidate_current_item) :=
  okD T.F_Candidate_current_item sc_Candidate_current_item len (t_Candidate_current_item ad.c_Candidate) (fun π0 H0 Wd cdv A outer s H E hr tk => by
    have nd := sc_Candidate_current_item.nd
    have hu64 := hr.units
    exact (bCons (sIf' (tCmp' (oEq (hu := hu64)) (pFld T.cl_Candidate T.na_Candidate_entries (pv' 0)) (pTup aNil')) (bOne (sRet' pInt)) bNil)
    (bCons (sAsg' (pIx oIx (pFld T.cl_Candidate T.na_Candidate_entries (pv' 0)) (pUn oNeg pInt)) (gUnp' (hc := rfl) (h := (gsCons' (gName' (i := 1) nd rfl (by first | exact .inl rfl | exact .inr rfl)) (gsCons' (gName' (i := 2) nd rfl (by first | exact .inl rfl | exact .inr rfl)) (gsCons' (gName' (i := 3) nd rfl (by first | exact .inl rfl | exact .inr rfl)) gsNil'))))))
    (bOne (sRet' (pIx oIx (pIx oIx (pIx oIx (pFld T.cl_Candidate T.na_Candidate_book (pv' 0)) (pv' 1)) (pv' 2)) (pv' 3))))))) hR
theorem ok_Candidate_after_word (T : Txt K mg ad) (G_Candidate_init : FnOk P w K mg base (L2.CX P w) 1 ad.f_Candidate_init ad.d_Candidate_init ["self", "book", "first_turns", "current_turns", "entries"] (LSp ⟨K, TT⟩ sp.Candidate_init))
    (len : ∀ ds S Q E, sp.Candidate_after_word ds S Q E → ds.length = 1)
    (hR : ∀ ds S Qd Ed, sp.Candidate_after_word ds S Qd Ed → StClo S → t_Candidate_after_word ad.c_Candidate sp.Candidate_init (WEx S.length Ed) { nx := fun _ S' => Gc S.length Qd .non S', rt := Gc S.length Qd } (startD 6 ds) S) :
    FnOk P w K mg base (L2.CX P w) (2 + 1) ad.f_Candidate_after_word ad.d_Candidate_after_word ["self"] (LSp ⟨K, TT⟩ sp.Candidate_after_word) :=
  okD T.F_Candidate_after_word sc_Candidate_after_word len (t_Candidate_after_word ad.c_Candidate sp.Candidate_init) (fun π0 H0 Wd cdv A outer s H E hr tk => by
    have nd := sc_Candidate_after_word.nd
    have hu64 := hr.units
    exact (bCons (sPar' (i := 1) (j := 2) rfl nd rfl rfl (by decide) rfl rfl (aCons' (pBT kList (by rfl) T.no_list (by decide +kernel) (aCons' (pFld T.cl_Candidate T.na_Candidate_entries (pv' 0)) aNil')) (aCons' pBl aNil')) (by rfl))
    (bCons (sWhile' (passes_of rfl) (PW.pt (wAnd (tVal (pv' 2)) (wAnd1 (tCmp' (oNeE (hu := hu64)) (pv' 1) (pLst aNil'))))) (bCons (sAsg' (pBM0 PySem.F.plainAttrs_list PySem.F.slot_list_pop PySem.F.type_list_pop mPop (pv' 1)) (gUnp' (hc := rfl) (h := (gsCons' (gName' (i := 3) nd rfl (by first | exact .inl rfl | exact .inr rfl)) (gsCons' (gName' (i := 4) nd rfl (by first | exact .inl rfl | exact .inr rfl)) (gsCons' (gName' (i := 5) nd rfl (by first | exact .inl rfl | exact .inr rfl)) gsNil'))))))
    (bCons (sSet' (i := 2) nd rfl (by first | exact .inl rfl | exact .inr rfl) (pCmp (oEq (hu := hu64)) (pOp oAdd (pv' 5) pInt) (pB kLen (by rfl) T.no_len (by decide +kernel) (aCons' (pIx oIx (pIx oIx (pFld T.cl_Candidate T.na_Candidate_book (pv' 0)) (pv' 3)) (pv' 4)) aNil'))))
    (bOne (sIf' (tNot' (tVal (pv' 2))) (bOne (sExpr' (pBM PySem.F.plainAttrs_list PySem.F.slot_list_append PySem.F.type_list_append mAppend (pv' 1) (aCons' (pTup (aCons' (pv' 3) (aCons' (pv' 4) (aCons' (pOp oAdd (pv' 5) pInt) aNil')))) aNil')))) bNil)))))
    (bOne (sRet' (pMake T.k_Candidate G_Candidate_init (hr.mono (by decide)) (by rfl) T.gc_Candidate T.b_Candidate_init (aCons' (pFld T.cl_Candidate T.na_Candidate_book (pv' 0)) (aCons' (pFld T.cl_Candidate T.na_Candidate_first_turns (pv' 0)) (aCons' (pFld T.cl_Candidate T.na_Candidate_current_turns (pv' 0)) (aCons' (pBT kTuple (by rfl) T.no_tuple (by decide +kernel) (aCons' (pv' 1) aNil')) aNil')))))))))) hR
theorem ok_Candidate_started_at (T : Txt K mg ad) (G_Candidate_init : FnOk P w K mg base (L2.CX P w) 1 ad.f_Candidate_init ad.d_Candidate_init ["self", "book", "first_turns", "current_turns", "entries"] (LSp ⟨K, TT⟩ sp.Candidate_init))
    (len : ∀ ds S Q E, sp.Candidate_started_at ds S Q E → ds.length = 3)
    (hR : ∀ ds S Qd Ed, sp.Candidate_started_at ds S Qd Ed → StClo S → t_Candidate_started_at ad.c_Candidate sp.Candidate_init (WEx S.length Ed) { nx := fun _ S' => Gc S.length Qd .non S', rt := Gc S.length Qd } (startD 6 ds) S) :
    FnOk P w K mg base (L2.CX P w) (2 + 1) ad.f_Candidate_started_at ad.d_Candidate_started_at ["self", "refrain", "turn"] (LSp ⟨K, TT⟩ sp.Candidate_started_at) :=
  okD T.F_Candidate_started_at sc_Candidate_started_at len (t_Candidate_started_at ad.c_Candidate sp.Candidate_init) (fun π0 H0 Wd cdv A outer s H E hr tk => by
    have nd := sc_Candidate_started_at.nd
    have hu64 := hr.units
    exact (bCons (sSet' (i := 3) nd rfl (by first | exact .inl rfl | exact .inr rfl) (pFld T.cl_Candidate T.na_Candidate_first_turns (pv' 0)))
    (bCons (sIf' (tCmp' oIs (pIx oIx (pv' 3) (pv' 1)) pNon) (bOne (sSet' (i := 3) nd rfl (by first | exact .inl rfl | exact .inr rfl) (pOp oAdd (pOp oAdd (pSl oSlice (pv' 3) poNo (poSome (pv' 1))) (pTup (aCons' (pv' 2) aNil'))) (pSl oSlice (pv' 3) (poSome (pOp oAdd (pv' 1) pInt)) poNo)))) bNil)
    (bCons (sSet' (i := 4) nd rfl (by first | exact .inl rfl | exact .inr rfl) (pB kLen (by rfl) T.no_len (by decide +kernel) (aCons' (pIx oIx (pFld T.cl_Candidate T.na_Candidate_book (pv' 0)) (pv' 1)) aNil')))
    (bCons (sSet' (i := 5) nd rfl (by first | exact .inl rfl | exact .inr rfl) (pOp oAdd (pOp oAdd (pSl oSlice (pFld T.cl_Candidate T.na_Candidate_current_turns (pv' 0)) poNo (poSome (pv' 1))) (pTup (aCons' (pOp oMod (pOp oAdd (pv' 2) pInt) (pv' 4)) aNil'))) (pSl oSlice (pFld T.cl_Candidate T.na_Candidate_current_turns (pv' 0)) (poSome (pOp oAdd (pv' 1) pInt)) poNo)))
    (bOne (sRet' (pMake T.k_Candidate G_Candidate_init (hr.mono (by decide)) (by rfl) T.gc_Candidate T.b_Candidate_init (aCons' (pFld T.cl_Candidate T.na_Candidate_book (pv' 0)) (aCons' (pv' 3) (aCons' (pv' 5) (aCons' (pOp oAdd (pFld T.cl_Candidate T.na_Candidate_entries (pv' 0)) (pTup (aCons' (pTup (aCons' (pv' 1) (aCons' (pv' 2) (aCons' pInt aNil')))) aNil'))) aNil')))))))))))) hR
theorem ok_Candidate_after_hearing (T : Txt K mg ad) (G_Candidate_opening_words : FnOk P w K mg base (L2.CX P w) 2 ad.f_Candidate_opening_words ad.d_Candidate_opening_words ["self"] (LSp ⟨K, TT⟩ sp.Candidate_opening_words)) (G_Candidate_current_item : FnOk P w K mg base (L2.CX P w) 1 ad.f_Candidate_current_item ad.d_Candidate_current_item ["self"] (LSp ⟨K, TT⟩ sp.Candidate_current_item)) (G_is_word : FnOk P w K mg base (L2.CX P w) 1 ad.f_is_word ad.d_is_word ["item"] (LSp ⟨K, TT⟩ sp.is_word)) (G_Candidate_after_word : FnOk P w K mg base (L2.CX P w) 3 ad.f_Candidate_after_word ad.d_Candidate_after_word ["self"] (LSp ⟨K, TT⟩ sp.Candidate_after_word)) (G_Candidate_possible_turns : FnOk P w K mg base (L2.CX P w) 1 ad.f_Candidate_possible_turns ad.d_Candidate_possible_turns ["self", "refrain"] (LSp ⟨K, TT⟩ sp.Candidate_possible_turns)) (G_Candidate_started_at : FnOk P w K mg base (L2.CX P w) 3 ad.f_Candidate_started_at ad.d_Candidate_started_at ["self", "refrain", "turn"] (LSp ⟨K, TT⟩ sp.Candidate_started_at))
    (len : ∀ ds S Q E, sp.Candidate_after_hearing ds S Q E → ds.length = 2)
    (hR : ∀ ds S Qd Ed, sp.Candidate_after_hearing ds S Qd Ed → StClo S → t_Candidate_after_hearing ad.c_Candidate sp.Candidate_opening_words sp.Candidate_current_item sp.is_word sp.Candidate_after_word sp.Candidate_possible_turns sp.Candidate_started_at (WEx S.length Ed) { nx := fun _ S' => Gc S.length Qd .non S', rt := Gc S.length Qd } (startD 8 ds) S) :
    FnOk P w K mg base (L2.CX P w) (3 + 1) ad.f_Candidate_after_hearing ad.d_Candidate_after_hearing ["self", "word"] (LSp ⟨K, TT⟩ sp.Candidate_after_hearing) :=
  okD T.F_Candidate_after_hearing sc_Candidate_after_hearing len (t_Candidate_after_hearing ad.c_Candidate sp.Candidate_opening_words sp.Candidate_current_item sp.is_word sp.Candidate_after_word sp.Candidate_possible_turns sp.Candidate_started_at) (fun π0 H0 Wd cdv A outer s H E hr tk => by
    have nd := sc_Candidate_after_hearing.nd
    have hu64 := hr.units
    exact (bCons (sPar3' (i := 2) (j := 3) (l := 4) rfl nd rfl rfl rfl (by decide) (by decide) (by decide) rfl rfl rfl (aCons' (pLst aNil') (aCons' (pLst (aCons' (pv' 0) aNil')) (aCons' (pMeth0 (pv' 0) T.cl_Candidate T.m_Candidate_opening_words G_Candidate_opening_words (hr.mono (by decide)) T.b_Candidate_opening_words tk) aNil'))) (by rfl))
    (bCons (sWhile' (passes_of rfl) (PW.pt (wAnd (tCmp' (oNeE (hu := hu64)) (pv' 3) (pLst aNil')) (wAnd1 (tCmp' oLe (pB kLen (by rfl) T.no_len (by decide +kernel) (aCons' (pv' 2) aNil')) (pGlob (by rfl) T.gk_MAX_CANDIDATES T.v_MAX_CANDIDATES (T.r_MAX_CANDIDATES _)))))) (bCons (sSet' (i := 5) nd rfl (by first | exact .inl rfl | exact .inr rfl) (pBM0 PySem.F.plainAttrs_list PySem.F.slot_list_pop PySem.F.type_list_pop mPop (pv' 3)))
    (bCons (sSet' (i := 6) nd rfl (by first | exact .inl rfl | exact .inr rfl) (pMeth0 (pv' 5) T.cl_Candidate T.m_Candidate_current_item G_Candidate_current_item (hr.mono (by decide)) T.b_Candidate_current_item tk))
    (bOne (sIf' (tVal (pCall G_is_word (hr.mono (by decide)) (by rfl) T.g_is_word T.F_is_word.kp T.b_is_word tk (aCons' (pv' 6) aNil'))) (bOne (sIf' (tCmp' (oEq (hu := hu64)) (pv' 6) (pv' 1)) (bOne (sExpr' (pBM PySem.F.plainAttrs_list PySem.F.slot_list_append PySem.F.type_list_append mAppend (pv' 2) (aCons' (pMeth0 (pv' 5) T.cl_Candidate T.m_Candidate_after_word G_Candidate_after_word (hr.mono (by decide)) T.b_Candidate_after_word tk) aNil')))) bNil)) (bOne (sIf' (tCmp' (oKIn hu64) (pv' 1) (pIx oIx (pv' 4) (pv' 6))) (bOne (sExpr' (pBM PySem.F.plainAttrs_list PySem.F.slot_list_extend PySem.F.type_list_extend mExtend (pv' 3) (aCons' (pLc (own := [("turn", 7)]) (g := (Tg.one 7)) (hc := rfl) (hN := nd) (hi := (iSeq' (hl := (pMeth (pv' 5) T.cl_Candidate T.m_Candidate_possible_turns G_Candidate_possible_turns (hr.mono (by decide)) T.b_Candidate_possible_turns tk (aCons' (pv' 6) aNil'))))) (ok := (blkOk_by (own := [("turn", 7)]) (N := N_Candidate_after_hearing) (sc := defScope s_Candidate_after_hearing) (by decide +kernel))) (hv := by decide) (hg := (fun _ _ _ _ _ => gOne (i := 7) nd rfl (.inl rfl))) (ht := (fun _ _ _ _ _ => ifNo)) (he := fun _ _ _ _ _ => (pMeth (pv' 5) T.cl_Candidate T.m_Candidate_started_at G_Candidate_started_at (hr.mono (by decide)) T.b_Candidate_started_at tkNo (aCons' (pv' 6) (aCons' (pv' 7) aNil'))))) aNil')))) bNil)))))))
    (bOne (sRet' (pv' 2)))))) hR
theorem ok_filter_candidates (T : Txt K mg ad) (G_Candidate_after_hearing : FnOk P w K mg base (L2.CX P w) 4 ad.f_Candidate_after_hearing ad.d_Candidate_after_hearing ["self", "word"] (LSp ⟨K, TT⟩ sp.Candidate_after_hearing))
    (len : ∀ ds S Q E, sp.filter_candidates ds S Q E → ds.length = 2)
    (hR : ∀ ds S Qd Ed, sp.filter_candidates ds S Qd Ed → StClo S → t_filter_candidates ad.c_Candidate ad.c_TooManyCandidates sp.Candidate_after_hearing (WEx S.length Ed) { nx := fun _ S' => Gc S.length Qd .non S', rt := Gc S.length Qd } (startD 4 ds) S) :
    FnOk P w K mg base (L2.CX P w) (4 + 1) ad.f_filter_candidates ad.d_filter_candidates ["candidates", "word"] (LSp ⟨K, TT⟩ sp.filter_candidates) :=
  okD T.F_filter_candidates sc_filter_candidates len (t_filter_candidates ad.c_Candidate ad.c_TooManyCandidates sp.Candidate_after_hearing) (fun π0 H0 Wd cdv A outer s H E hr tk => by
    have nd := sc_filter_candidates.nd
    have hu64 := hr.units
    exact (bCons (sSet' (i := 2) nd rfl (by first | exact .inl rfl | exact .inr rfl) (pLst aNil'))
    (bCons (sFor' (passes_of rfl) rfl (iSeq' (hl := (pv' 0))) (gName' (i := 3) nd rfl (by first | exact .inl rfl | exact .inr rfl)) (bCons (sExpr' (pBM PySem.F.plainAttrs_list PySem.F.slot_list_extend PySem.F.type_list_extend mExtend (pv' 2) (aCons' (pMeth (pv' 3) T.cl_Candidate T.m_Candidate_after_hearing G_Candidate_after_hearing (hr.mono (by decide)) T.b_Candidate_after_hearing tk (aCons' (pv' 1) aNil')) aNil')))
    (bOne (sIf' (tCmp' oGt (pB kLen (by rfl) T.no_len (by decide +kernel) (aCons' (pv' 2) aNil')) (pGlob (by rfl) T.gk_MAX_CANDIDATES T.v_MAX_CANDIDATES (T.r_MAX_CANDIDATES _))) (bOne (sRaise' tk T.x_TooManyCandidates)) bNil))))
    (bOne (sRet' (pv' 2)))))) hR
theorem ok_Candidate_following_words (T : Txt K mg ad) (G_Candidate_current_item : FnOk P w K mg base (L2.CX P w) 1 ad.f_Candidate_current_item ad.d_Candidate_current_item ["self"] (LSp ⟨K, TT⟩ sp.Candidate_current_item)) (G_is_word : FnOk P w K mg base (L2.CX P w) 1 ad.f_is_word ad.d_is_word ["item"] (LSp ⟨K, TT⟩ sp.is_word)) (G_Candidate_opening_words : FnOk P w K mg base (L2.CX P w) 2 ad.f_Candidate_opening_words ad.d_Candidate_opening_words ["self"] (LSp ⟨K, TT⟩ sp.Candidate_opening_words))
    (len : ∀ ds S Q E, sp.Candidate_following_words ds S Q E → ds.length = 1)
    (hR : ∀ ds S Qd Ed, sp.Candidate_following_words ds S Qd Ed → StClo S → t_Candidate_following_words ad.c_Candidate sp.Candidate_current_item sp.is_word sp.Candidate_opening_words (WEx S.length Ed) { nx := fun _ S' => Gc S.length Qd .non S', rt := Gc S.length Qd } (startD 2 ds) S) :
    FnOk P w K mg base (L2.CX P w) (2 + 1) ad.f_Candidate_following_words ad.d_Candidate_following_words ["self"] (LSp ⟨K, TT⟩ sp.Candidate_following_words) :=
  okD T.F_Candidate_following_words sc_Candidate_following_words len (t_Candidate_following_words ad.c_Candidate sp.Candidate_current_item sp.is_word sp.Candidate_opening_words) (fun π0 H0 Wd cdv A outer s H E hr tk => by
    have nd := sc_Candidate_following_words.nd
    have hu64 := hr.units
    exact (bCons (sSet' (i := 1) nd rfl (by first | exact .inl rfl | exact .inr rfl) (pMeth0 (pv' 0) T.cl_Candidate T.m_Candidate_current_item G_Candidate_current_item (hr.mono (by decide)) T.b_Candidate_current_item tk))
    (bOne (sRet' (pIfE (tVal (pCall G_is_word (hr.mono (by decide)) (by rfl) T.g_is_word T.F_is_word.kp T.b_is_word tk (aCons' (pv' 1) aNil'))) (pLst (aCons' (pv' 1) aNil')) (pB (kSortedK rfl) (by rfl) T.no_sorted (by decide +kernel) (aCons' (pIx oIx (pMeth0 (pv' 0) T.cl_Candidate T.m_Candidate_opening_words G_Candidate_opening_words (hr.mono (by decide)) T.b_Candidate_opening_words tk) (pv' 1)) aNil'))))))) hR
theorem ok_Candidate_size (T : Txt K mg ad) 
    (len : ∀ ds S Q E, sp.Candidate_size ds S Q E → ds.length = 1)
    (hR : ∀ ds S Qd Ed, sp.Candidate_size ds S Qd Ed → StClo S → t_Candidate_size ad.c_Candidate (WEx S.length Ed) { nx := fun _ S' => Gc S.length Qd .non S', rt := Gc S.length Qd } (startD 4 ds) S) :
    FnOk P w K mg base (L2.CX P w) (0 + 1) ad.f_Candidate_size ad.d_Candidate_size ["self"] (LSp ⟨K, TT⟩ sp.Candidate_size) :=
  okD T.F_Candidate_size sc_Candidate_size len (t_Candidate_size ad.c_Candidate) (fun π0 H0 Wd cdv A outer s H E hr tk => by
    have nd := sc_Candidate_size.nd
    have hu64 := hr.units
    exact (bCons (sSet' (i := 1) nd rfl (by first | exact .inl rfl | exact .inr rfl) pInt)
    (bCons (sFor' (passes_of rfl) rfl (iZip' (hg := by rfl) (hm := T.no_zip) (ha := (aCons' (pFld T.cl_Candidate T.na_Candidate_first_turns (pv' 0)) (aCons' (pFld T.cl_Candidate T.na_Candidate_book (pv' 0)) aNil')))) (gUnp' (hc := rfl) (h := (gsCons' (gName' (i := 2) nd rfl (by first | exact .inl rfl | exact .inr rfl)) (gsCons' (gName' (i := 3) nd rfl (by first | exact .inl rfl | exact .inr rfl)) gsNil')))) (bOne (sIf' (tCmp' oIs (pv' 2) pNon) (bOne (sAug' (i := 1) nd rfl (by first | exact .inl rfl | exact .inr rfl) (pB kLen (by rfl) T.no_len (by decide +kernel) (aCons' (pv' 3) aNil')) pMulA)) bNil)))
    (bOne (sRet' (pv' 1)))))) hR
theorem ok_Candidate_known_turn (T : Txt K mg ad) 
    (len : ∀ ds S Q E, sp.Candidate_known_turn ds S Q E → ds.length = 2)
    (hR : ∀ ds S Qd Ed, sp.Candidate_known_turn ds S Qd Ed → StClo S → t_Candidate_known_turn ad.c_Candidate (WEx S.length Ed) { nx := fun _ S' => Gc S.length Qd .non S', rt := Gc S.length Qd } (startD 2 ds) S) :
    FnOk P w K mg base (L2.CX P w) (0 + 1) ad.f_Candidate_known_turn ad.d_Candidate_known_turn ["self", "refrain"] (LSp ⟨K, TT⟩ sp.Candidate_known_turn) :=
  okD T.F_Candidate_known_turn sc_Candidate_known_turn len (t_Candidate_known_turn ad.c_Candidate) (fun π0 H0 Wd cdv A outer s H E hr tk => by
    have nd := sc_Candidate_known_turn.nd
    have hu64 := hr.units
    exact (bOne (sRet' (pIfE (tCmp' (oEq (hu := hu64)) (pB kLen (by rfl) T.no_len (by decide +kernel) (aCons' (pIx oIx (pFld T.cl_Candidate T.na_Candidate_book (pv' 0)) (pv' 1)) aNil')) pInt) pInt (pIx oIx (pFld T.cl_Candidate T.na_Candidate_first_turns (pv' 0)) (pv' 1)))))) hR
theorem ok_certain_turns (T : Txt K mg ad) (G_Candidate_known_turn : FnOk P w K mg base (L2.CX P w) 1 ad.f_Candidate_known_turn ad.d_Candidate_known_turn ["self", "refrain"] (LSp ⟨K, TT⟩ sp.Candidate_known_turn))
    (len : ∀ ds S Q E, sp.certain_turns ds S Q E → ds.length = 2)
    (hR : ∀ ds S Qd Ed, sp.certain_turns ds S Qd Ed → StClo S → t_certain_turns ad.c_Candidate sp.Candidate_known_turn (WEx S.length Ed) { nx := fun _ S' => Gc S.length Qd .non S', rt := Gc S.length Qd } (startD 7 ds) S) :
    FnOk P w K mg base (L2.CX P w) (1 + 1) ad.f_certain_turns ad.d_certain_turns ["book", "candidates"] (LSp ⟨K, TT⟩ sp.certain_turns) :=
  okD T.F_certain_turns sc_certain_turns len (t_certain_turns ad.c_Candidate sp.Candidate_known_turn) (fun π0 H0 Wd cdv A outer s H E hr tk => by
    have nd := sc_certain_turns.nd
    have hu64 := hr.units
    exact (bCons (sSet' (i := 2) nd rfl (by first | exact .inl rfl | exact .inr rfl) (pLst aNil'))
    (bCons (sFor' (passes_of rfl) rfl (iRg1' (by rfl) T.no_range (aCons' (pB kLen (by rfl) T.no_len (by decide +kernel) (aCons' (pv' 0) aNil')) aNil')) (gName' (i := 3) nd rfl (by first | exact .inl rfl | exact .inr rfl)) (bCons (sSet' (i := 4) nd rfl (by first | exact .inl rfl | exact .inr rfl) (pLc (own := [("candidate", 5)]) (g := (Tg.one 5)) (hc := rfl) (hN := nd) (hi := (iSeq' (hl := (pv' 1)))) (ok := (blkOk_by (own := [("candidate", 5)]) (N := N_certain_turns) (sc := defScope s_certain_turns) (by decide +kernel))) (hv := by decide) (hg := (fun _ _ _ _ _ => gOne (i := 5) nd rfl (.inl rfl))) (ht := (fun _ _ _ _ _ => ifNo)) (he := fun _ _ _ _ _ => (pMeth (pv' 5) T.cl_Candidate T.m_Candidate_known_turn G_Candidate_known_turn (hr.mono (by decide)) T.b_Candidate_known_turn tkNo (aCons' (pv' 3) aNil')))))
    (bOne (sExpr' (pBM PySem.F.plainAttrs_list PySem.F.slot_list_append PySem.F.type_list_append mAppend (pv' 2) (aCons' (pIfE (tVal (pB (kAll rfl) (by rfl) T.no_all (by decide +kernel) (aCons' (pLc (own := [("turn", 6)]) (g := (Tg.one 6)) (hc := rfl) (hN := nd) (hi := (iSeq' (hl := (pv' 4)))) (ok := (blkOk_by (own := [("turn", 6)]) (N := N_certain_turns) (sc := defScope s_certain_turns) (by decide +kernel))) (hv := by decide) (hg := (fun _ _ _ _ _ => gOne (i := 6) nd rfl (.inl rfl))) (ht := (fun _ _ _ _ _ => ifNo)) (he := fun _ _ _ _ _ => (pCmp (oEq (hu := hu64)) (pv' 6) (pIx oIx (pv' 4) pInt)))) aNil'))) (pIx oIx (pv' 4) pInt) pNon) aNil'))))))
    (bOne (sRet' (pBT kTuple (by rfl) T.no_tuple (by decide +kernel) (aCons' (pv' 2) aNil'))))))) hR
theorem ok_infer_turns (T : Txt K mg ad) (G_validate_book : FnOk P w K mg base (L2.CX P w) 4 ad.f_validate_book ad.d_validate_book ["book"] (LSp ⟨K, TT⟩ sp.validate_book)) (G_Candidate_init : FnOk P w K mg base (L2.CX P w) 1 ad.f_Candidate_init ad.d_Candidate_init ["self", "book", "first_turns", "current_turns", "entries"] (LSp ⟨K, TT⟩ sp.Candidate_init)) (G_filter_candidates : FnOk P w K mg base (L2.CX P w) 5 ad.f_filter_candidates ad.d_filter_candidates ["candidates", "word"] (LSp ⟨K, TT⟩ sp.filter_candidates)) (G_Candidate_following_words : FnOk P w K mg base (L2.CX P w) 3 ad.f_Candidate_following_words ad.d_Candidate_following_words ["self"] (LSp ⟨K, TT⟩ sp.Candidate_following_words)) (G_Candidate_size : FnOk P w K mg base (L2.CX P w) 1 ad.f_Candidate_size ad.d_Candidate_size ["self"] (LSp ⟨K, TT⟩ sp.Candidate_size)) (G_certain_turns : FnOk P w K mg base (L2.CX P w) 2 ad.f_certain_turns ad.d_certain_turns ["book", "candidates"] (LSp ⟨K, TT⟩ sp.certain_turns))
    (len : ∀ ds S Q E, sp.infer_turns ds S Q E → ds.length = 2)
    (hR : ∀ ds S Qd Ed, sp.infer_turns ds S Qd Ed → StClo S → t_infer_turns ad.c_Candidate ad.c_TooManyWords sp.validate_book sp.Candidate_init sp.filter_candidates sp.Candidate_following_words sp.Candidate_size sp.certain_turns (WEx S.length Ed) { nx := fun _ S' => Gc S.length Qd .non S', rt := Gc S.length Qd } (startD 7 ds) S) :
    FnOk P w K mg base (L2.CX P w) (5 + 1) ad.f_infer_turns ad.d_infer_turns ["book", "words"] (LSp ⟨K, TT⟩ sp.infer_turns) :=
  okD T.F_infer_turns sc_infer_turns len (t_infer_turns ad.c_Candidate ad.c_TooManyWords sp.validate_book sp.Candidate_init sp.filter_candidates sp.Candidate_following_words sp.Candidate_size sp.certain_turns) (fun π0 H0 Wd cdv A outer s H E hr tk => by
    have nd := sc_infer_turns.nd
    have hu64 := hr.units
    exact (bCons (sExpr' (pCall G_validate_book (hr.mono (by decide)) (by rfl) T.g_validate_book T.F_validate_book.kp T.b_validate_book tk (aCons' (pv' 0) aNil')))
    (bCons (sIf' (tCmp' oGt (pB kLen (by rfl) T.no_len (by decide +kernel) (aCons' (pv' 1) aNil')) (pGlob (by rfl) T.gk_MAX_HEARD T.v_MAX_HEARD (T.r_MAX_HEARD _))) (bOne (sRaise' tk T.x_TooManyWords)) bNil)
    (bCons (sSet' (i := 2) nd rfl (by first | exact .inl rfl | exact .inr rfl) (pOp oMulT (pTup (aCons' pNon aNil')) (pB kLen (by rfl) T.no_len (by decide +kernel) (aCons' (pv' 0) aNil'))))
    (bCons (sSet' (i := 3) nd rfl (by first | exact .inl rfl | exact .inr rfl) (pLst (aCons' (pMake T.k_Candidate G_Candidate_init (hr.mono (by decide)) (by rfl) T.gc_Candidate T.b_Candidate_init (aCons' (pv' 0) (aCons' (pv' 2) (aCons' (pv' 2) (aCons' (pTup aNil') aNil'))))) aNil')))
    (bCons (sFor' (passes_of rfl) rfl (iSeq' (hl := (pv' 1))) (gName' (i := 4) nd rfl (by first | exact .inl rfl | exact .inr rfl)) (bOne (sSet' (i := 3) nd rfl (by first | exact .inl rfl | exact .inr rfl) (pCall G_filter_candidates (hr.mono (by decide)) (by rfl) T.g_filter_candidates T.F_filter_candidates.kp T.b_filter_candidates tk (aCons' (pv' 3) (aCons' (pv' 4) aNil'))))))
    (bCons (sIf' (tCmp' (oEqE (hu := hu64)) (pv' 3) (pLst aNil')) (bOne (sRet' (pTup (aCons' pInt (aCons' pNon (aCons' (pLst aNil') aNil')))))) bNil)
    (bCons (sSet' (i := 5) nd rfl (by first | exact .inl rfl | exact .inr rfl) pKNew)
    (bCons (sFor' (passes_of rfl) rfl (iSeq' (hl := (pv' 3))) (gName' (i := 6) nd rfl (by first | exact .inl rfl | exact .inr rfl)) (bOne (sExpr' (pBM PySem.F.plainAttrs_dict PySem.F.slot_dict_update PySem.F.type_dict_update mUpdate (pv' 5) (aCons' (pLc (own := [("word", 4)]) (g := (Tg.one 4)) (hc := rfl) (hN := nd) (hi := (iSeq' (hl := (pMeth0 (pv' 6) T.cl_Candidate T.m_Candidate_following_words G_Candidate_following_words (hr.mono (by decide)) T.b_Candidate_following_words tk)))) (ok := (blkOk_by (own := [("word", 4)]) (N := N_infer_turns) (sc := defScope s_infer_turns) (by decide +kernel))) (hv := by decide) (hg := (fun _ _ _ _ _ => gOne (i := 4) nd rfl (.inl rfl))) (ht := (fun _ _ _ _ _ => ifNo)) (he := fun _ _ _ _ _ => (pTup (aCons' (pv' 4) (aCons' pBl aNil'))))) aNil')))))
    (bOne (sRet' (pTup (aCons' (pB (kSum rfl) (by rfl) T.no_sum (by decide +kernel) (aCons' (pLc (own := [("candidate", 6)]) (g := (Tg.one 6)) (hc := rfl) (hN := nd) (hi := (iSeq' (hl := (pv' 3)))) (ok := (blkOk_by (own := [("candidate", 6)]) (N := N_infer_turns) (sc := defScope s_infer_turns) (by decide +kernel))) (hv := by decide) (hg := (fun _ _ _ _ _ => gOne (i := 6) nd rfl (.inl rfl))) (ht := (fun _ _ _ _ _ => ifNo)) (he := fun _ _ _ _ _ => (pMeth0 (pv' 6) T.cl_Candidate T.m_Candidate_size G_Candidate_size (hr.mono (by decide)) T.b_Candidate_size tkNo))) aNil')) (aCons' (pCall G_certain_turns (hr.mono (by decide)) (by rfl) T.g_certain_turns T.F_certain_turns.kp T.b_certain_turns tk (aCons' (pv' 0) (aCons' (pv' 3) aNil'))) (aCons' (pB (kSortedK rfl) (by rfl) T.no_sorted (by decide +kernel) (aCons' (pv' 5) aNil')) aNil'))))))))))))))) hR
theorem ok_Lalike {k : Nat} (hk : 0 ≤ k) (T : Txt K mg ad) (G_Lalike_rec : FnOk P w K mg base (L2.CX P w) k ad.f_Lalike ad.d_Lalike ["_law_found", "_law_due"] (LSp ⟨K, TT⟩ sp.Lalike_rec))
    (len : ∀ ds S Q E, sp.Lalike ds S Q E → ds.length = 2)
    (hR : ∀ ds S Qd Ed, sp.Lalike ds S Qd Ed → StClo S → t_Lalike sp.Lalike_rec (WEx S.length Ed) { nx := fun _ S' => Gc S.length Qd .non S', rt := Gc S.length Qd } (startD 3 ds) S) :
    FnOk P w K mg base (L2.CX P w) (k + 1) ad.f_Lalike ad.d_Lalike ["_law_found", "_law_due"] (LSp ⟨K, TT⟩ sp.Lalike) :=
  okD T.F_Lalike sc_Lalike len (t_Lalike sp.Lalike_rec) (fun π0 H0 Wd cdv A outer s H E hr tk => by
    have nd := sc_Lalike.nd
    have hu64 := hr.units
    exact (bCons (sIf' (tCmp' oIs (pv' 1) pNon) (bOne (sRet' (pCmp oIs (pv' 0) pNon))) bNil)
    (bCons (sIf' (tVal (pB kIsi (by rfl) T.no_isinstance (by decide +kernel) (aCons' (pv' 1) (aCons' (pTy (by rfl) T.no_bool (by decide +kernel)) aNil')))) (bOne (sRet' (pAnd (pB kIsi (by rfl) T.no_isinstance (by decide +kernel) (aCons' (pv' 0) (aCons' (pTy (by rfl) T.no_bool (by decide +kernel)) aNil'))) (pOne (pCmp (oEq (hu := hu64)) (pv' 0) (pv' 1)))))) bNil)
    (bCons (sIf' (tVal (pB kIsi (by rfl) T.no_isinstance (by decide +kernel) (aCons' (pv' 1) (aCons' (pTy (by rfl) T.no_int (by decide +kernel)) aNil')))) (bOne (sRet' (pAnd (pB kIsi (by rfl) T.no_isinstance (by decide +kernel) (aCons' (pv' 0) (aCons' (pTy (by rfl) T.no_int (by decide +kernel)) aNil'))) (pAnd (pNot (pB kIsi (by rfl) T.no_isinstance (by decide +kernel) (aCons' (pv' 0) (aCons' (pTy (by rfl) T.no_bool (by decide +kernel)) aNil')))) (pOne (pCmp (oEq (hu := hu64)) (pv' 0) (pv' 1))))))) bNil)
    (bCons (sIf' (tVal (pB kIsi (by rfl) T.no_isinstance (by decide +kernel) (aCons' (pv' 1) (aCons' (pTy (by rfl) T.no_str (by decide +kernel)) aNil')))) (bOne (sRet' (pAnd (pB kIsi (by rfl) T.no_isinstance (by decide +kernel) (aCons' (pv' 0) (aCons' (pTy (by rfl) T.no_str (by decide +kernel)) aNil'))) (pOne (pCmp (oEq (hu := hu64)) (pv' 0) (pv' 1)))))) bNil)
    (bCons (sIf' (PW.pt (wOr (tCmp' (oNe (hu := hu64)) (pB kIsi (by rfl) T.no_isinstance (by decide +kernel) (aCons' (pv' 1) (aCons' (pTy (by rfl) T.no_tuple (by decide +kernel)) aNil'))) (pB kIsi (by rfl) T.no_isinstance (by decide +kernel) (aCons' (pv' 0) (aCons' (pTy (by rfl) T.no_tuple (by decide +kernel)) aNil')))) (wOr1 (tCmp' (oNe (hu := hu64)) (pB kIsi (by rfl) T.no_isinstance (by decide +kernel) (aCons' (pv' 1) (aCons' (pTy (by rfl) T.no_list (by decide +kernel)) aNil'))) (pB kIsi (by rfl) T.no_isinstance (by decide +kernel) (aCons' (pv' 0) (aCons' (pTy (by rfl) T.no_list (by decide +kernel)) aNil'))))))) (bOne (sRet' pBl)) bNil)
    (bCons (sIf' (tCmp' (oNe (hu := hu64)) (pB kLen (by rfl) T.no_len (by decide +kernel) (aCons' (pv' 0) aNil')) (pB kLen (by rfl) T.no_len (by decide +kernel) (aCons' (pv' 1) aNil'))) (bOne (sRet' pBl)) bNil)
    (bCons (sFor' (passes_of rfl) rfl (iRg1' (by rfl) T.no_range (aCons' (pB kLen (by rfl) T.no_len (by decide +kernel) (aCons' (pv' 1) aNil')) aNil')) (gName' (i := 2) nd rfl (by first | exact .inl rfl | exact .inr rfl)) (bOne (sIf' (tNot' (tVal (pCall G_Lalike_rec (hr.mono (by omega)) (by rfl) T.g_Lalike T.F_Lalike.kp T.b_Lalike tk (aCons' (pIx oIx (pv' 0) (pv' 2)) (aCons' (pIx oIx (pv' 1) (pv' 2)) aNil'))))) (bOne (sRet' pBl)) bNil)))
    (bOne (sRet' pBl)))))))))) hR
theorem ok_Lstart (T : Txt K mg ad) 
    (len : ∀ ds S Q E, sp.Lstart ds S Q E → ds.length = 3)
    (hR : ∀ ds S Qd Ed, sp.Lstart ds S Qd Ed → StClo S → t_Lstart (WEx S.length Ed) { nx := fun _ S' => Gc S.length Qd .non S', rt := Gc S.length Qd } (startD 4 ds) S) :
    FnOk P w K mg base (L2.CX P w) (0 + 1) ad.f_Lstart ad.d_Lstart ["_law_book_here", "_law_s", "_law_refrain"] (LSp ⟨K, TT⟩ sp.Lstart) :=
  okD T.F_Lstart sc_Lstart len (t_Lstart) (fun π0 H0 Wd cdv A outer s H E hr tk => by
    have nd := sc_Lstart.nd
    have hu64 := hr.units
    exact (bCons (sSet' (i := 3) nd rfl (by first | exact .inl rfl | exact .inr rfl) (pIx oIx (pKGet hu64 (pv' 1) pStr) (pv' 2)))
    (bCons (sAsg' (pIfE (tCmp' (oEq (hu := hu64)) (pOp oAdd (pv' 3) pInt) (pB kLen (by rfl) T.no_len (by decide +kernel) (aCons' (pIx oIx (pv' 0) (pv' 2)) aNil'))) pInt (pOp oAdd (pv' 3) pInt)) (gSub' (pKGet hu64 (pv' 1) pStr) (pv' 2) stSetL))
    (bCons (sExpr' (pBM PySem.F.plainAttrs_list PySem.F.slot_list_append PySem.F.type_list_append mAppend (pKGet hu64 (pv' 1) pStr) (aCons' (pLst (aCons' (pv' 2) (aCons' (pv' 3) (aCons' pInt aNil')))) aNil')))
    (bOne (sExpr' (pBM PySem.F.plainAttrs_list PySem.F.slot_list_append PySem.F.type_list_append mAppend (pKGet hu64 (pv' 1) pStr) (aCons' (pTup (aCons' (pv' 2) (aCons' (pv' 3) aNil'))) aNil')))))))) hR
theorem ok_Lsing (T : Txt K mg ad) (G_Lstart : FnOk P w K mg base (L2.CX P w) 1 ad.f_Lstart ad.d_Lstart ["_law_book_here", "_law_s", "_law_refrain"] (LSp ⟨K, TT⟩ sp.Lstart))
    (len : ∀ ds S Q E, sp.Lsing ds S Q E → ds.length = 2)
    (hR : ∀ ds S Qd Ed, sp.Lsing ds S Qd Ed → StClo S → t_Lsing sp.Lstart (WEx S.length Ed) { nx := fun _ S' => Gc S.length Qd .non S', rt := Gc S.length Qd } (startD 8 ds) S) :
    FnOk P w K mg base (L2.CX P w) (1 + 1) ad.f_Lsing ad.d_Lsing ["_law_book_here", "_law_s"] (LSp ⟨K, TT⟩ sp.Lsing) :=
  okD T.F_Lsing sc_Lsing len (t_Lsing sp.Lstart) (fun π0 H0 Wd cdv A outer s H E hr tk => by
    have nd := sc_Lsing.nd
    have hu64 := hr.units
    exact (bCons (sIf' (tCmp' (oEq (hu := hu64)) (pKGet hu64 (pv' 1) pStr) (pLst aNil')) (bOne (sExpr' (pCall G_Lstart (hr.mono (by decide)) (by rfl) T.g_Lstart T.F_Lstart.kp T.b_Lstart tk (aCons' (pv' 0) (aCons' (pv' 1) (aCons' pInt aNil')))))) bNil)
    (bCons (sAsg' (pIx oIx (pKGet hu64 (pv' 1) pStr) (pUn oNeg pInt)) (gUnp' (hc := rfl) (h := (gsCons' (gName' (i := 2) nd rfl (by first | exact .inl rfl | exact .inr rfl)) (gsCons' (gName' (i := 3) nd rfl (by first | exact .inl rfl | exact .inr rfl)) (gsCons' (gName' (i := 4) nd rfl (by first | exact .inl rfl | exact .inr rfl)) gsNil'))))))
    (bCons (sWhile' (passes_of rfl) (tNot' (tVal (pB kIsi (by rfl) T.no_isinstance (by decide +kernel) (aCons' (pIx oIx (pIx oIx (pIx oIx (pv' 0) (pv' 2)) (pv' 3)) (pv' 4)) (aCons' (pTy (by rfl) T.no_str (by decide +kernel)) aNil'))))) (bCons (sExpr' (pCall G_Lstart (hr.mono (by decide)) (by rfl) T.g_Lstart T.F_Lstart.kp T.b_Lstart tk (aCons' (pv' 0) (aCons' (pv' 1) (aCons' (pIx oIx (pIx oIx (pIx oIx (pv' 0) (pv' 2)) (pv' 3)) (pv' 4)) aNil')))))
    (bOne (sAsg' (pIx oIx (pKGet hu64 (pv' 1) pStr) (pUn oNeg pInt)) (gUnp' (hc := rfl) (h := (gsCons' (gName' (i := 2) nd rfl (by first | exact .inl rfl | exact .inr rfl)) (gsCons' (gName' (i := 3) nd rfl (by first | exact .inl rfl | exact .inr rfl)) (gsCons' (gName' (i := 4) nd rfl (by first | exact .inl rfl | exact .inr rfl)) gsNil')))))))))
    (bCons (sSet' (i := 5) nd rfl (by first | exact .inl rfl | exact .inr rfl) (pTup (aCons' (pIx oIx (pIx oIx (pIx oIx (pv' 0) (pv' 2)) (pv' 3)) (pv' 4)) (aCons' (pBT kTuple (by rfl) T.no_tuple (by decide +kernel) (aCons' (pLc (own := [("_law_entry", 7)]) (g := (Tg.one 7)) (hc := rfl) (hN := nd) (hi := (iSeq' (hl := (pKGet hu64 (pv' 1) pStr)))) (ok := (blkOk_by (own := [("_law_entry", 7)]) (N := N_Lsing) (sc := defScope s_Lsing) (by decide +kernel))) (hv := by decide) (hg := (fun _ _ _ _ _ => gOne (i := 7) nd rfl (.inl rfl))) (ht := (fun _ _ _ _ _ => ifNo)) (he := fun _ _ _ _ _ => (pBT kTuple (by rfl) T.no_tuple (by decide +kernel) (aCons' (pv' 7) aNil')))) aNil')) aNil'))))
    (bCons (sSet' (i := 6) nd rfl (by first | exact .inl rfl | exact .inr rfl) pBl)
    (bCons (sWhile' (passes_of rfl) (PW.pt (wAnd (tVal (pv' 6)) (wAnd1 (tCmp' (oNe (hu := hu64)) (pKGet hu64 (pv' 1) pStr) (pLst aNil'))))) (bCons (sAsg' (pBM0 PySem.F.plainAttrs_list PySem.F.slot_list_pop PySem.F.type_list_pop mPop (pKGet hu64 (pv' 1) pStr)) (gUnp' (hc := rfl) (h := (gsCons' (gName' (i := 2) nd rfl (by first | exact .inl rfl | exact .inr rfl)) (gsCons' (gName' (i := 3) nd rfl (by first | exact .inl rfl | exact .inr rfl)) (gsCons' (gName' (i := 4) nd rfl (by first | exact .inl rfl | exact .inr rfl)) gsNil'))))))
    (bCons (sSet' (i := 6) nd rfl (by first | exact .inl rfl | exact .inr rfl) (pCmp (oEq (hu := hu64)) (pOp oAdd (pv' 4) pInt) (pB kLen (by rfl) T.no_len (by decide +kernel) (aCons' (pIx oIx (pIx oIx (pv' 0) (pv' 2)) (pv' 3)) aNil'))))
    (bOne (sIf' (tNot' (tVal (pv' 6))) (bOne (sExpr' (pBM PySem.F.plainAttrs_list PySem.F.slot_list_append PySem.F.type_list_append mAppend (pKGet hu64 (pv' 1) pStr) (aCons' (pLst (aCons' (pv' 2) (aCons' (pv' 3) (aCons' (pOp oAdd (pv' 4) pInt) aNil')))) aNil')))) bNil)))))
    (bOne (sRet' (pv' 5)))))))))) hR
theorem ok_law (T : Txt K mg ad) (hTB : LamX.TabB base mg ad.lc_law ad.lp_law) (hmT : (ad.lp_law, lam_law) ∈ TT) (huT : ∀ p ∈ TT, p.1 = ad.lp_law → p.2 = lam_law) (G_Lbegun : FnOk P w K mg base (L2.CX P w) 1 ad.f_Lbegun ad.d_Lbegun ["_law_script"] (LSp ⟨K, TT⟩ sp.Lbegun)) (G_Lthin : FnOk P w K mg base (L2.CX P w) 1 ad.f_Lthin ad.d_Lthin ["_law_book_here", "_law_most"] (LSp ⟨K, TT⟩ sp.Lthin)) (G_Lbook : FnOk P w K mg base (L2.CX P w) 2 ad.f_Lbook ad.d_Lbook ["_law_box", "_law_most"] (LSp ⟨K, TT⟩ sp.Lbook)) (G_Lturns : FnOk P w K mg base (L2.CX P w) 2 ad.f_Lturns ad.d_Lturns ["_law_box", "_law_book_here"] (LSp ⟨K, TT⟩ sp.Lturns)) (G_Lfrom : FnOk P w K mg base (L2.CX P w) 1 ad.f_Lfrom ad.d_Lfrom ["_law_state_here"] (LSp ⟨K, TT⟩ sp.Lfrom)) (G_infer_turns : FnOk P w K mg base (L2.CX P w) 6 ad.f_infer_turns ad.d_infer_turns ["book", "words"] (LSp ⟨K, TT⟩ sp.infer_turns)) (G_Lalike : FnOk P w K mg base (L2.CX P w) 6 ad.f_Lalike ad.d_Lalike ["_law_found", "_law_due"] (LSp ⟨K, TT⟩ sp.Lalike)) (G_Ltake : FnOk P w K mg base (L2.CX P w) 1 ad.f_Ltake ad.d_Ltake ["_law_box", "_law_size"] (LSp ⟨K, TT⟩ sp.Ltake)) (G_Lsing : FnOk P w K mg base (L2.CX P w) 2 ad.f_Lsing ad.d_Lsing ["_law_book_here", "_law_s"] (LSp ⟨K, TT⟩ sp.Lsing))
    (len : ∀ ds S Q E, sp.law ds S Q E → ds.length = 1)
    (hR : ∀ ds S Qd Ed, sp.law ds S Qd Ed → StClo S → t_law (rnOf ad) sp.Lbegun sp.Lthin sp.Lbook sp.Lturns sp.Lfrom sp.infer_turns sp.Lalike sp.Ltake sp.Lsing (WEx S.length Ed) { nx := fun _ S' => Gc S.length Qd .non S', rt := Gc S.length Qd } (startD 16 ds) S) :
    FnOk P w K mg base (L2.CX P w) (8 + 1) ad.f_law ad.d_law ["_law_script"] (LSp ⟨K, TT⟩ sp.law) :=
  okDc T.FC_law sc_law len (t_law (rnOf ad) sp.Lbegun sp.Lthin sp.Lbook sp.Lturns sp.Lfrom sp.infer_turns sp.Lalike sp.Ltake sp.Lsing) (fun π0 H0 Wd A outer s H E hr tk => by
    have nd := sc_law.nd
    have hu64 := hr.units
    have hu1 := fun env => ((hr.mono (by decide : 1 ≤ 8)).deeper env).units
    exact (bCons (sSet' (i := 1) nd rfl (by first | exact .inl rfl | exact .inr rfl) (pCall G_Lbegun (hr.mono (by decide)) (by rfl) T.g_Lbegun T.F_Lbegun.kp T.b_Lbegun tk (aCons' (pv' 0) aNil')))
    (bCons (sFor' (passes_of rfl) rfl (iRg1' (by rfl) T.no_range (aCons' pInt aNil')) (gName' (i := 2) nd rfl (by first | exact .inl rfl | exact .inr rfl)) (bCons (sSet' (i := 3) nd rfl (by first | exact .inl rfl | exact .inr rfl) (pCall G_Lthin (hr.mono (by decide)) (by rfl) T.g_Lthin T.F_Lthin.kp T.b_Lthin tk (aCons' (pCall G_Lbook (hr.mono (by decide)) (by rfl) T.g_Lbook T.F_Lbook.kp T.b_Lbook tk (aCons' (pv' 1) (aCons' pInt aNil'))) (aCons' pInt aNil'))))
    (bCons (sAsg' (pTup (aCons' (pCall G_Lturns (hr.mono (by decide)) (by rfl) T.g_Lturns T.F_Lturns.kp T.b_Lturns tk (aCons' (pv' 1) (aCons' (pv' 3) aNil'))) (aCons' (pLst aNil') aNil'))) (gUnp' (hc := rfl) (h := (gsCons' (gName' (i := 4) nd rfl (by first | exact .inl rfl | exact .inr rfl)) (gsCons' (gName' (i := 5) nd rfl (by first | exact .inl rfl | exact .inr rfl)) gsNil')))))
    (bCons (sPar' (i := 6) (j := 7) rfl nd rfl rfl (by decide) rfl rfl (aCons' (pCall G_Lfrom (hr.mono (by decide)) (by rfl) T.g_Lfrom T.F_Lfrom.kp T.b_Lfrom tk (aCons' (pTup (aCons' (pv' 4) (aCons' (pTup aNil') aNil'))) aNil')) (aCons' pInt aNil')) (by rfl))
    (bCons (sFor' (passes_of rfl) rfl (iSeq' (hl := (pv' 3))) (gName' (i := 8) nd rfl (by first | exact .inl rfl | exact .inr rfl)) (bOne (sSet' (i := 7) nd rfl (by first | exact .inl rfl | exact .inr rfl) (pOp oMul (pv' 7) (pB kLen (by rfl) T.no_len (by decide +kernel) (aCons' (pv' 8) aNil'))))))
    (bCons (sSet' (i := 9) nd rfl (by first | exact .inl rfl | exact .inr rfl) (pBT kTuple (by rfl) T.no_tuple (by decide +kernel) (aCons' (pLc (own := [("_law_verses", 8)]) (g := (Tg.one 8)) (hc := rfl) (hN := nd) (hi := (iSeq' (hl := (pv' 3)))) (ok := (blkOk_by (own := [("_law_verses", 8)]) (N := N_law) (sc := defScope s_law) (by decide +kernel))) (hv := by decide) (hg := (fun _ _ _ _ _ => gOne (i := 8) nd rfl (.inl rfl))) (ht := (fun _ _ _ _ _ => ifNo)) (he := fun _ _ _ _ _ => (pIfE (tCmp' (oEq (hu := hu64)) (pB kLen (by rfl) T.no_len (by decide +kernel) (aCons' (pv' 8) aNil')) pInt) pInt pNon))) aNil')))
    (bCons (sSet' (i := 10) nd rfl (by first | exact .inl rfl | exact .inr rfl) (pRes (k := 6) (RN := rnOf ad) T.F_Lresult T.b_Lresult sc_Lresult (by rfl) T.g_Lresult rfl (by first | exact .inl rfl | exact .inr (.inl rfl)) (fun cdg => give_Lresult _ T hu1 cdg _) hTB rfl hmT huT (hr.mono (by decide)) (LamX.lamS_by (sc := defScope s_law) (by decide +kernel)) (fun π0 H0 Wd A outer s H E f c' hr tk => (by have hu64 := hr.units; exact (pCall G_infer_turns (hr.mono (by decide)) (by rfl) T.g_infer_turns T.F_infer_turns.kp T.b_infer_turns tk (aCons' (pv' 3) (aCons' (pLst aNil') aNil')))))))
    (bCons (sIf' (tNot' (tVal (pCall G_Lalike (hr.mono (by decide)) (by rfl) T.g_Lalike T.F_Lalike.kp T.b_Lalike tk (aCons' (pSl oSlice (pv' 10) poNo (poSome pInt)) (aCons' (pTup (aCons' (pv' 7) (aCons' (pv' 9) aNil'))) aNil'))))) (bOne (sRet' pBl)) bNil)
    (bCons (sSet' (i := 11) nd rfl (by first | exact .inl rfl | exact .inr rfl) (pCall G_Ltake (hr.mono (by decide)) (by rfl) T.g_Ltake T.F_Ltake.kp T.b_Ltake tk (aCons' (pv' 1) (aCons' pInt aNil'))))
    (bOne (sFor' (passes_of rfl) rfl (iRg1' (by rfl) T.no_range (aCons' (pv' 11) aNil')) (gName' (i := 12) nd rfl (by first | exact .inl rfl | exact .inr rfl)) (bCons (sSet' (i := 13) nd rfl (by first | exact .inl rfl | exact .inr rfl) (pIx oIx (pCall G_Lsing (hr.mono (by decide)) (by rfl) T.g_Lsing T.F_Lsing.kp T.b_Lsing tk (aCons' (pv' 3) (aCons' (pv' 6) aNil'))) pInt))
    (bCons (sIf' (PW.pt (wAnd (tCmp' (oNe (hu := hu64)) (pIx oIx (pv' 10) pInt) pStr) (wAnd1 (tCmp' oNotIn (pv' 13) (pIx oIx (pv' 10) pInt))))) (bOne (sRet' pBl)) bNil)
    (bCons (sExpr' (pBM PySem.F.plainAttrs_list PySem.F.slot_list_append PySem.F.type_list_append mAppend (pv' 5) (aCons' (pv' 13) aNil')))
    (bCons (sSet' (i := 14) nd rfl (by first | exact .inl rfl | exact .inr rfl) (pRes (k := 6) (RN := rnOf ad) T.F_Lresult T.b_Lresult sc_Lresult (by rfl) T.g_Lresult rfl (by first | exact .inl rfl | exact .inr (.inl rfl)) (fun cdg => give_Lresult _ T hu1 cdg _) hTB rfl hmT huT (hr.mono (by decide)) (LamX.lamS_by (sc := defScope s_law) (by decide +kernel)) (fun π0 H0 Wd A outer s H E f c' hr tk => (by have hu64 := hr.units; exact (pCall G_infer_turns (hr.mono (by decide)) (by rfl) T.g_infer_turns T.F_infer_turns.kp T.b_infer_turns tk (aCons' (pv' 3) (aCons' (pBT kList (by rfl) T.no_list (by decide +kernel) (aCons' (pv' 5) aNil')) aNil')))))))
    (bCons (sIf' (tCmp' (oEq (hu := hu64)) (pIx oIx (pv' 10) pInt) pStr) (bOne (sIf' (tCmp' (oNe (hu := hu64)) (pv' 14) (pv' 10)) (bOne (sRet' pBl)) bNil)) (bOne (sIf' (tCmp' (oNe (hu := hu64)) (pIx oIx (pv' 14) pInt) pStr) (bCons (sIf' (PW.pt (wOr (tNot' (tChain' oLe oLe pInt (pIx oIx (pv' 14) pInt) (pIx oIx (pv' 10) pInt))) (wOr1 (tCmp' (oNe (hu := hu64)) (pIx oIx (pv' 10) pInt) (pSSet (by rfl) (by rfl) (by rfl) T.no_sorted (by rfl) T.no_set (pIx oIx (pv' 10) pInt)))))) (bOne (sRet' pBl)) bNil)
    (bOne (sFor' (passes_of rfl) rfl (iRg1' (by rfl) T.no_range (aCons' (pB kLen (by rfl) T.no_len (by decide +kernel) (aCons' (pv' 3) aNil')) aNil')) (gName' (i := 15) nd rfl (by first | exact .inl rfl | exact .inr rfl)) (bOne (sIf' (PW.pt (wOr (tCmp' oNotIn (pIx oIx (pIx oIx (pv' 14) pInt) (pv' 15)) (pTup (aCons' pNon (aCons' (pIx oIx (pv' 4) (pv' 15)) aNil')))) (wOr1 (PW.pt (wAnd (tCmp' oIsNot (pIx oIx (pIx oIx (pv' 10) pInt) (pv' 15)) pNon) (wAnd1 (tCmp' oIs (pIx oIx (pIx oIx (pv' 14) pInt) (pv' 15)) pNon))))))) (bOne (sRet' pBl)) bNil))))) bNil)))
    (bOne (sSet' (i := 10) nd rfl (by first | exact .inl rfl | exact .inr rfl) (pv' 14)))))))))))))))))))
    (bOne (sRet' pBl))))) hR
end
end K15
set_option Elab.async false
set_option linter.all false
set_option maxRecDepth 100000
set_option maxHeartbeats 2000000
namespace K15
open PySem PySem.Spec PyProof.Rows L2 D3
def spNone : Spd := fun _ _ _ _ => False
theorem ok_none {P : Program} {w : World} {K : PySem.W.Frag} {mg : Str → Option Value} {base : Heap} {TT : List (Addr × Str)} {k : Nat} {f : Addr} {fd : FuncData} {ps : List Str} : FnOk P w K mg base (L2.CX P w) k f fd ps (LSp ⟨K, TT⟩ spNone) := by
  constructor
  all_goals intros
  all_goals (rename_i h; obtain ⟨_, _, _, _, _, _, _, z, _⟩ := h; exact z.elim)
def sps (ad : Ad) : Sps := { Lbegun := K11.spBegun, Lthin := K15.spThin, Ltake := K11.spTake, Lbook := K11.spBook, Lturns := K11.spTurns, Lfrom := K03.spLFrom, is_word := K20.spIsWord, is_valid_item := K20.spIsValidItem, first_invalid_verse := K20.spFirstBad, validate_book := K20.spValidateBook, Candidate_init := K14.spCInit ad.c_Candidate, Candidate_possible_turns := K14.spPoss ad.c_Candidate, Candidate_opening_words := K14.spOpen ad.c_Candidate, Candidate_current_item := K14.spCur ad.c_Candidate, Candidate_after_word := K14.spAftW ad.c_Candidate, Candidate_started_at := K14.spStartC ad.c_Candidate, Candidate_after_hearing := K14.spHear ad.c_Candidate, filter_candidates := K14.spFilter ad.c_Candidate ad.c_TooManyCandidates, Candidate_following_words := K14.spFoll ad.c_Candidate, Candidate_size := K14.spSizeC ad.c_Candidate, Candidate_known_turn := K14.spKnown ad.c_Candidate, certain_turns := K14.spCert ad.c_Candidate, infer_turns := K14.spInfer ad.c_TooManyWords ad.c_TooManyCandidates, Lalike := K14.spAl 5, Lstart := K03.spLStart, Lsing := K03.spLSing, law := D3.spLaw 63, Lalike_rec := spNone }
theorem law_ok {P : Program} {w : World} {K : PySem.W.Frag} {mg : Str → Option Value} {base : Heap} {ad : Ad} (T : Txt K mg ad) (hTB : ∀ p ∈ csL ad, LamX.TabB base mg p.1 p.2) : FnOk P w K mg base (L2.CX P w) 9 ad.f_law ad.d_law ["_law_script"] (LSp ⟨K, ttL ad⟩ (spLaw 63)) := by
  have G_Lbegun : FnOk P w K mg base (L2.CX P w) 1 ad.f_Lbegun ad.d_Lbegun ["_law_script"] (LSp ⟨K, ttL ad⟩ (K11.spBegun)) := ok_Lbegun (sp := sps ad) T  (by intro ds S Q E h; obtain ⟨_, _, rfl, _⟩ := h; rfl) (K11.r_begun)
  have G_Lthin : FnOk P w K mg base (L2.CX P w) 1 ad.f_Lthin ad.d_Lthin ["_law_book_here", "_law_most"] (LSp ⟨K, ttL ad⟩ (K15.spThin)) := ok_Lthin (sp := sps ad) T  (by intro ds S Q E h; obtain ⟨_, _, rfl, _⟩ := h; rfl) (K15.r_thin)
  have G_Ltake : FnOk P w K mg base (L2.CX P w) 1 ad.f_Ltake ad.d_Ltake ["_law_box", "_law_size"] (LSp ⟨K, ttL ad⟩ (K11.spTake)) := ok_Ltake (sp := sps ad) T  (by intro ds S Q E h; obtain ⟨_, _, _, rfl, _⟩ := h; rfl) (K11.r_take)
  have G_Lbook : FnOk P w K mg base (L2.CX P w) 2 ad.f_Lbook ad.d_Lbook ["_law_box", "_law_most"] (LSp ⟨K, ttL ad⟩ (K11.spBook)) := ok_Lbook (sp := sps ad) T G_Ltake (by intro ds S Q E h; obtain ⟨_, _, _, rfl, _⟩ := h; rfl) (K11.r_book)
  have G_Lturns : FnOk P w K mg base (L2.CX P w) 2 ad.f_Lturns ad.d_Lturns ["_law_box", "_law_book_here"] (LSp ⟨K, ttL ad⟩ (K11.spTurns)) := ok_Lturns (sp := sps ad) T G_Ltake (by intro ds S Q E h; obtain ⟨_, _, _, rfl, _⟩ := h; rfl) (K11.r_turns)
  have G_Lfrom : FnOk P w K mg base (L2.CX P w) 1 ad.f_Lfrom ad.d_Lfrom ["_law_state_here"] (LSp ⟨K, ttL ad⟩ (K03.spLFrom)) := ok_Lfrom (sp := sps ad) T  (by intro ds S Q E h; obtain ⟨_, rfl, _⟩ := h; rfl) (K03.r_lfrom)
  have G_is_word : FnOk P w K mg base (L2.CX P w) 1 ad.f_is_word ad.d_is_word ["item"] (LSp ⟨K, ttL ad⟩ (K20.spIsWord)) := ok_is_word (sp := sps ad) T  (by intro ds S Q E h; obtain ⟨_, rfl, _⟩ := h; rfl) (K20.r_is_word)
  have G_is_valid_item : FnOk P w K mg base (L2.CX P w) 2 ad.f_is_valid_item ad.d_is_valid_item ["book", "refrain", "item"] (LSp ⟨K, ttL ad⟩ (K20.spIsValidItem)) := ok_is_valid_item (sp := sps ad) T G_is_word (by intro ds S Q E h; obtain ⟨_, _, _, rfl, _⟩ := h; rfl) (K20.r_is_valid_item)
  have G_first_invalid_verse : FnOk P w K mg base (L2.CX P w) 3 ad.f_first_invalid_verse ad.d_first_invalid_verse ["book", "refrain"] (LSp ⟨K, ttL ad⟩ (K20.spFirstBad)) := ok_first_invalid_verse (sp := sps ad) T G_is_valid_item (by intro ds S Q E h; obtain ⟨_, _, _, rfl, _⟩ := h; rfl) (K20.r_first_invalid_verse)
  have G_validate_book : FnOk P w K mg base (L2.CX P w) 4 ad.f_validate_book ad.d_validate_book ["book"] (LSp ⟨K, ttL ad⟩ (K20.spValidateBook)) := ok_validate_book (sp := sps ad) T G_first_invalid_verse (by intro ds S Q E h; obtain ⟨_, rfl, _⟩ := h; rfl) (K20.r_validate_book)
  have G_Candidate_init : FnOk P w K mg base (L2.CX P w) 1 ad.f_Candidate_init ad.d_Candidate_init ["self", "book", "first_turns", "current_turns", "entries"] (LSp ⟨K, ttL ad⟩ (K14.spCInit ad.c_Candidate)) := ok_Candidate_init (sp := sps ad) T  (by intro ds S Q E h; obtain ⟨_, _, _, rfl, _⟩ := h; rfl) (K14.r_cinit _)
  have G_Candidate_possible_turns : FnOk P w K mg base (L2.CX P w) 1 ad.f_Candidate_possible_turns ad.d_Candidate_possible_turns ["self", "refrain"] (LSp ⟨K, ttL ad⟩ (K14.spPoss ad.c_Candidate)) := ok_Candidate_possible_turns (sp := sps ad) T  (by intro ds S Q E h; obtain ⟨_, _, _, _, rfl, _⟩ := h; rfl) (K14.r_poss _)
  have G_Candidate_opening_words : FnOk P w K mg base (L2.CX P w) 2 ad.f_Candidate_opening_words ad.d_Candidate_opening_words ["self"] (LSp ⟨K, ttL ad⟩ (K14.spOpen ad.c_Candidate)) := ok_Candidate_opening_words (sp := sps ad) T G_Candidate_possible_turns G_is_word (by intro ds S Q E h; obtain ⟨_, _, _, _, rfl, _⟩ := h; rfl) (K14.r_open _)
  have G_Candidate_current_item : FnOk P w K mg base (L2.CX P w) 1 ad.f_Candidate_current_item ad.d_Candidate_current_item ["self"] (LSp ⟨K, ttL ad⟩ (K14.spCur ad.c_Candidate)) := ok_Candidate_current_item (sp := sps ad) T  (by intro ds S Q E h; obtain ⟨_, _, _, rfl, _⟩ := h; rfl) (K14.r_cur _)
  have G_Candidate_after_word : FnOk P w K mg base (L2.CX P w) 3 ad.f_Candidate_after_word ad.d_Candidate_after_word ["self"] (LSp ⟨K, ttL ad⟩ (K14.spAftW ad.c_Candidate)) := ok_Candidate_after_word (sp := sps ad) T G_Candidate_init (by intro ds S Q E h; obtain ⟨_, _, _, rfl, _⟩ := h; rfl) (K14.r_aftW _)
  have G_Candidate_started_at : FnOk P w K mg base (L2.CX P w) 3 ad.f_Candidate_started_at ad.d_Candidate_started_at ["self", "refrain", "turn"] (LSp ⟨K, ttL ad⟩ (K14.spStartC ad.c_Candidate)) := ok_Candidate_started_at (sp := sps ad) T G_Candidate_init (by intro ds S Q E h; obtain ⟨_, _, _, _, _, rfl, _⟩ := h; rfl) (K14.r_startC _)
  have G_Candidate_after_hearing : FnOk P w K mg base (L2.CX P w) 4 ad.f_Candidate_after_hearing ad.d_Candidate_after_hearing ["self", "word"] (LSp ⟨K, ttL ad⟩ (K14.spHear ad.c_Candidate)) := ok_Candidate_after_hearing (sp := sps ad) T G_Candidate_opening_words G_Candidate_current_item G_is_word G_Candidate_after_word G_Candidate_possible_turns G_Candidate_started_at (by intro ds S Q E h; obtain ⟨_, _, _, _, _, rfl, _⟩ := h; rfl) (K14.r_hear _)
  have G_filter_candidates : FnOk P w K mg base (L2.CX P w) 5 ad.f_filter_candidates ad.d_filter_candidates ["candidates", "word"] (LSp ⟨K, ttL ad⟩ (K14.spFilter ad.c_Candidate ad.c_TooManyCandidates)) := ok_filter_candidates (sp := sps ad) T G_Candidate_after_hearing (by intro ds S Q E h; obtain ⟨_, _, _, _, _, _, rfl, _⟩ := h; rfl) (K14.r_filter _ _)
  have G_Candidate_following_words : FnOk P w K mg base (L2.CX P w) 3 ad.f_Candidate_following_words ad.d_Candidate_following_words ["self"] (LSp ⟨K, ttL ad⟩ (K14.spFoll ad.c_Candidate)) := ok_Candidate_following_words (sp := sps ad) T G_Candidate_current_item G_is_word G_Candidate_opening_words (by intro ds S Q E h; obtain ⟨_, _, _, _, rfl, _⟩ := h; rfl) (K14.r_foll _)
  have G_Candidate_size : FnOk P w K mg base (L2.CX P w) 1 ad.f_Candidate_size ad.d_Candidate_size ["self"] (LSp ⟨K, ttL ad⟩ (K14.spSizeC ad.c_Candidate)) := ok_Candidate_size (sp := sps ad) T  (by intro ds S Q E h; obtain ⟨_, _, _, rfl, _⟩ := h; rfl) (K14.r_sizeC _)
  have G_Candidate_known_turn : FnOk P w K mg base (L2.CX P w) 1 ad.f_Candidate_known_turn ad.d_Candidate_known_turn ["self", "refrain"] (LSp ⟨K, ttL ad⟩ (K14.spKnown ad.c_Candidate)) := ok_Candidate_known_turn (sp := sps ad) T  (by intro ds S Q E h; obtain ⟨_, _, _, _, rfl, _⟩ := h; rfl) (K14.r_known _)
  have G_certain_turns : FnOk P w K mg base (L2.CX P w) 2 ad.f_certain_turns ad.d_certain_turns ["book", "candidates"] (LSp ⟨K, ttL ad⟩ (K14.spCert ad.c_Candidate)) := ok_certain_turns (sp := sps ad) T G_Candidate_known_turn (by intro ds S Q E h; obtain ⟨_, _, _, _, rfl, _⟩ := h; rfl) (K14.r_cert _)
  have G_infer_turns : FnOk P w K mg base (L2.CX P w) 6 ad.f_infer_turns ad.d_infer_turns ["book", "words"] (LSp ⟨K, ttL ad⟩ (K14.spInfer ad.c_TooManyWords ad.c_TooManyCandidates)) := ok_infer_turns (sp := sps ad) T G_validate_book G_Candidate_init G_filter_candidates G_Candidate_following_words G_Candidate_size G_certain_turns (by intro ds S Q E h; obtain ⟨_, _, _, _, rfl, _⟩ := h; rfl) (K14.r_infer ad.c_Candidate _ _)
  have H_Lalike_0 : FnOk P w K mg base (L2.CX P w) 1 ad.f_Lalike ad.d_Lalike ["_law_found", "_law_due"] (LSp ⟨K, ttL ad⟩ (K14.spAl 0)) := ok_Lalike (sp := { sps ad with Lalike := K14.spAl 0, Lalike_rec := spNone }) (k := 0) (Nat.zero_le _) T ok_none (by intro ds S Q E h; obtain ⟨_, _, rfl, _⟩ := h; rfl) (K14.r_al0 _)
  have H_Lalike_1 : FnOk P w K mg base (L2.CX P w) 2 ad.f_Lalike ad.d_Lalike ["_law_found", "_law_due"] (LSp ⟨K, ttL ad⟩ (K14.spAl 1)) := ok_Lalike (sp := { sps ad with Lalike := K14.spAl 1, Lalike_rec := K14.spAl 0 }) (k := 1) (Nat.zero_le _) T H_Lalike_0 (by intro ds S Q E h; obtain ⟨_, _, rfl, _⟩ := h; rfl) (K14.r_al 1)
  have H_Lalike_2 : FnOk P w K mg base (L2.CX P w) 3 ad.f_Lalike ad.d_Lalike ["_law_found", "_law_due"] (LSp ⟨K, ttL ad⟩ (K14.spAl 2)) := ok_Lalike (sp := { sps ad with Lalike := K14.spAl 2, Lalike_rec := K14.spAl 1 }) (k := 2) (Nat.zero_le _) T H_Lalike_1 (by intro ds S Q E h; obtain ⟨_, _, rfl, _⟩ := h; rfl) (K14.r_al 2)
  have H_Lalike_3 : FnOk P w K mg base (L2.CX P w) 4 ad.f_Lalike ad.d_Lalike ["_law_found", "_law_due"] (LSp ⟨K, ttL ad⟩ (K14.spAl 3)) := ok_Lalike (sp := { sps ad with Lalike := K14.spAl 3, Lalike_rec := K14.spAl 2 }) (k := 3) (Nat.zero_le _) T H_Lalike_2 (by intro ds S Q E h; obtain ⟨_, _, rfl, _⟩ := h; rfl) (K14.r_al 3)
  have H_Lalike_4 : FnOk P w K mg base (L2.CX P w) 5 ad.f_Lalike ad.d_Lalike ["_law_found", "_law_due"] (LSp ⟨K, ttL ad⟩ (K14.spAl 4)) := ok_Lalike (sp := { sps ad with Lalike := K14.spAl 4, Lalike_rec := K14.spAl 3 }) (k := 4) (Nat.zero_le _) T H_Lalike_3 (by intro ds S Q E h; obtain ⟨_, _, rfl, _⟩ := h; rfl) (K14.r_al 4)
  have H_Lalike_5 : FnOk P w K mg base (L2.CX P w) 6 ad.f_Lalike ad.d_Lalike ["_law_found", "_law_due"] (LSp ⟨K, ttL ad⟩ (K14.spAl 5)) := ok_Lalike (sp := { sps ad with Lalike := K14.spAl 5, Lalike_rec := K14.spAl 4 }) (k := 5) (Nat.zero_le _) T H_Lalike_4 (by intro ds S Q E h; obtain ⟨_, _, rfl, _⟩ := h; rfl) (K14.r_al 5)
  have G_Lalike := H_Lalike_5
  have G_Lstart : FnOk P w K mg base (L2.CX P w) 1 ad.f_Lstart ad.d_Lstart ["_law_book_here", "_law_s", "_law_refrain"] (LSp ⟨K, ttL ad⟩ (K03.spLStart)) := ok_Lstart (sp := sps ad) T  (by intro ds S Q E h; obtain ⟨_, _, _, _, _, _, _, _, _, rfl, _⟩ := h; rfl) (K03.r_lstart)
  have G_Lsing : FnOk P w K mg base (L2.CX P w) 2 ad.f_Lsing ad.d_Lsing ["_law_book_here", "_law_s"] (LSp ⟨K, ttL ad⟩ (K03.spLSing)) := ok_Lsing (sp := sps ad) T G_Lstart (by intro ds S Q E h; obtain ⟨_, _, _, _, _, _, _, _, rfl, _⟩ := h; rfl) (K03.r_lsing)
  have G_law : FnOk P w K mg base (L2.CX P w) 9 ad.f_law ad.d_law ["_law_script"] (LSp ⟨K, ttL ad⟩ (D3.spLaw 63)) := ok_law (sp := sps ad) T (hTB (ad.lc_law, ad.lp_law) (by unfold csL; simp)) (by unfold ttL; simp) (by unfold ttL; intro p hp e; simp only [List.mem_cons, List.not_mem_nil, or_false] at hp; rcases hp with rfl <;> first | rfl) G_Lbegun G_Lthin G_Lbook G_Lturns G_Lfrom G_infer_turns G_Lalike G_Ltake G_Lsing (by intro ds S Q E h; obtain ⟨_, _, rfl, _⟩ := h; rfl) (K15.r_law ad.c_Candidate ad.c_TooManyWords ad.c_TooManyCandidates _ (rn_at T.res 6 rfl rfl))
  exact G_law
end K15
set_option Elab.async false
set_option linter.all false
set_option maxRecDepth 100000
set_option maxHeartbeats 2000000
namespace D3
open PySem PySem.Spec PyProof.Rows L2
end D3
set_option Elab.async false
set_option linter.all false
set_option maxRecDepth 100000
set_option maxHeartbeats 4000000
namespace D3
open PySem PySem.Spec PyProof.Rows L2
end D3
set_option Elab.async false
set_option linter.all false
set_option maxRecDepth 100000
set_option maxHeartbeats 4000000
namespace D3
open PySem PySem.Spec PyProof.Rows L2
def errN : List Str := ["", "state", "count", "refrain", "busy"]
def brN : List Str := ["branch", "nobranch"]
def FsOk (fs : List (Str × Dv)) : Prop := ∀ p ∈ fs, p.2.clo 0 = true
def TE (j : Nat) (fs : Option (List (Str × Dv))) (d : Dv) : Prop :=
  (j = 0 ∧ ∃ l u v, fs = some l ∧ FsOk l ∧ l.lookup ("refrain" : Str) = some u ∧ l.lookup ("verse" : Str) = some v ∧ u.clo 0 = true ∧ v.clo 0 = true ∧ d = .tup [.str "book", u, v]) ∨
  (1 ≤ j ∧ j < 5 ∧ fs = none ∧ ∃ nm, errN[j]? = some nm ∧ d = .tup [.str nm]) ∨
  (5 ≤ j ∧ j < 7 ∧ ∃ l u nm, fs = some l ∧ FsOk l ∧ l.lookup ("name" : Str) = some u ∧ u.clo 0 = true ∧ brN[j - 5]? = some nm ∧ d = .tup [.str nm, u]) ∨
  (j = 7 ∧ ∃ l u, fs = some l ∧ FsOk l ∧ l.lookup ("index" : Str) = some u ∧ u.clo 0 = true ∧ d = .tup [.str "operation", u]) ∨
  (j = 8 ∧ ∃ l u v, fs = some l ∧ FsOk l ∧ l.lookup ("row" : Str) = some u ∧ l.lookup ("column" : Str) = some v ∧ u.clo 0 = true ∧ v.clo 0 = true ∧ d = .tup [.str "source", u, v]) ∨
  (j = 9 ∧ ∃ l w u v, fs = some l ∧ FsOk l ∧ l.lookup ("reason" : Str) = some w ∧ l.lookup ("row" : Str) = some u ∧ l.lookup ("column" : Str) = some v ∧ w.clo 0 = true ∧ u.clo 0 = true ∧ v.clo 0 = true ∧ d = .tup [.str "program", w, u, v]) ∨
  (j = 10 ∧ ∃ l u, fs = some l ∧ FsOk l ∧ l.lookup ("row" : Str) = some u ∧ u.clo 0 = true ∧ d = .tup [.str "text", u]) ∨
  (j = 11 ∧ ∃ l u, fs = some l ∧ FsOk l ∧ l.lookup ("offset" : Str) = some u ∧ u.clo 0 = true ∧ d = .tup [.str "data", u]) ∨
  (j = 12 ∧ ∃ l u, fs = some l ∧ FsOk l ∧ l.lookup ("index" : Str) = some u ∧ u.clo 0 = true ∧ d = .tup [.str "record", u])
end D3
set_option Elab.async false
set_option linter.all false
set_option maxRecDepth 100000
set_option maxHeartbeats 4000000
namespace D3
open PySem PySem.Spec PyProof.Rows L2 D0
section
variable {K : PySem.W.Frag}
theorem cRe_ok {x : Str} {l : List Str} (h : cRe x l K = true) : resB K (He.ga K x) (l.map (He.ga K)) = true := h
end
theorem walk_ofF {l : PySem.W.OpenLaw} {n k : Nat} {q : Program} {loose : List Str} {XP : (Str → Option Value) → Heap → Prop} {d : DefRec} {x : Str} {m : Nat} {fs : List Fct} {fn : List He.FnD}
    (hn : l.most = some n) (hn2 : n ≤ sizeLine) (hdf : d.params.defaults = []) (hr : Room k callerA)
    (F : ∀ (w : World) (mg : Str → Option Value) (fa : Addr) (h : Heap) (K : PySem.W.Frag), K.In h → SaysF fs fn K → h.Ns mainGlobals mg → mg d.name = some (.ref fa) → OwnT q K mg h →
      ∃ (fd : FuncData) (cs : List (Addr × Addr)) (TT : List (Addr × Str)), (∀ (s : Shared) (u : Value), BindsTo s fd ⟨[u], []⟩ [(x, u)]) ∧
        (∀ p ∈ cs, h.get? p.2 = some { cls := .none, data := .fields #[] }) ∧ (∀ p ∈ cs, K.lookup p.2 = none) ∧ (∀ p ∈ cs, PySem.W.CodeHd h p.1 p.2) ∧ (∀ p ∈ TT, ∃ r ∈ cs, r.2 = p.1) ∧
        ∀ base : Heap, K.In base → base.Ns mainGlobals mg → (∀ p ∈ cs, LamX.TabB base mg p.1 p.2) → FnOk l.prog w K mg base (L2.CX l.prog w) k fa fd [x] (LSp ⟨K, TT⟩ (spLaw n))) :
    PySem.W.WalkO q loose XP (hookF m fs fn).says l.row.toRowW d [] (fun f vs => PySem.call f vs) := by
  refine Att.attach_callB hn hdf fun w s₀ s₁ mg mb fa o pm cd doc a vs ns G Y ho hd hcd hmg hobj hints hlen hbits hg => ?_
  obtain ⟨K, KX, says⟩ := Y
  have own : OwnT q K mg s₁.heap := fun x f c P o1 fd1 e dd vs1 sl k0 k1' k1 k2 k3 k4 k5 => by
    obtain ⟨dL, hm, hn1⟩ := List.any_eq_true.mp k0
    have hn2 : dL.name = x := beq_iff_eq.mp hn1
    obtain ⟨a', o', fd', c', P', h1, h2, h3, h4, h5, h6⟩ := G.T.tab dL hm
    rw [hn2, k1'] at h1
    cases h1
    have g1 := KX _ _ k1
    rw [g1] at h2
    cases h2
    rw [k2] at h3
    cases h3
    rw [k3] at h4
    cases h4
    obtain ⟨⟨oc, vc, e1, _, e3, e4⟩, hP⟩ := h6
    have g2 := KX _ _ k4
    rw [g2] at e1
    cases e1
    cases e3
    rw [k5] at e4
    cases e4
    exact hP
  obtain ⟨fd, cs, TT, hb, hT, nT, C, hTT, hF⟩ := F w mg fa _ K KX says G.T.g hmg own
  exact LamX.law_callTs KX G.T.g G.T.b G.T.builtins G.T.nolimit hg hT nT C G.T.bmain hobj hints (Nat.le_trans hlen hn2) hr hF hb (fun H hH hS => law_sp (tabs_of fun p hp => by obtain ⟨r, hr, e⟩ := hTT p hp; rw [← e]; exact hH r hr) hlen hbits hS) fun H e s' h => by
    obtain ⟨_, _, _, _, _, _, _, _, _, _, _, _, z⟩ := h
    exact z
end D3
set_option Elab.async false
set_option linter.all false
set_option maxRecDepth 100000
set_option maxHeartbeats 2000000
namespace K15
open PySem PySem.Spec PyProof.Rows L2 D3
theorem all_mk {P : Program} {w : World} {K : PySem.W.Frag} {h : Heap} {mg : Str → Option Value} (X : K.In h) (G : h.Ns mainGlobals mg) {q : Program} (own : OwnT q K mg h) {fa : Addr} {tk_LETTERS : Tok} {tk_MAX_CANDIDATES : Tok} {tk_MAX_HEARD : Tok} {tk_MAX_ITEMS : Tok} {tk_MAX_LETTERS : Tok} {tk_MAX_REFRAINS : Tok} {tk_MAX_VERSES : Tok} {C_Candidate : Addr} {C_BadBook : Addr} {C_BadCertificate : Addr} {C_BadCount : Addr} {C_BadRefrain : Addr} {C_BadState : Addr} {C_BadTurns : Addr} {C_RefrainBusy : Addr} {C_SongError : Addr} {C_TooManyCandidates : Addr} {C_TooManyWords : Addr} {f_Lbegun : Addr} {od_Lbegun an_Lbegun : Option Addr} {sl_Lbegun : Array (Option Value)} {oc_Lbegun kV_Lbegun dc_Lbegun pm_Lbegun cd_Lbegun ct_Lbegun : Value} {f_Lthin : Addr} {od_Lthin an_Lthin : Option Addr} {sl_Lthin : Array (Option Value)} {oc_Lthin kV_Lthin dc_Lthin pm_Lthin cd_Lthin ct_Lthin : Value} {f_Ltake : Addr} {od_Ltake an_Ltake : Option Addr} {sl_Ltake : Array (Option Value)} {oc_Ltake kV_Ltake dc_Ltake pm_Ltake cd_Ltake ct_Ltake : Value} {f_Lbook : Addr} {od_Lbook an_Lbook : Option Addr} {sl_Lbook : Array (Option Value)} {oc_Lbook kV_Lbook dc_Lbook pm_Lbook cd_Lbook ct_Lbook : Value} {f_Lturns : Addr} {od_Lturns an_Lturns : Option Addr} {sl_Lturns : Array (Option Value)} {oc_Lturns kV_Lturns dc_Lturns pm_Lturns cd_Lturns ct_Lturns : Value} {f_Lfrom : Addr} {od_Lfrom an_Lfrom : Option Addr} {sl_Lfrom : Array (Option Value)} {oc_Lfrom kV_Lfrom dc_Lfrom pm_Lfrom cd_Lfrom ct_Lfrom : Value} {f_is_word : Addr} {od_is_word an_is_word : Option Addr} {sl_is_word : Array (Option Value)} {oc_is_word kV_is_word dc_is_word pm_is_word cd_is_word ct_is_word : Value} {f_is_valid_item : Addr} {od_is_valid_item an_is_valid_item : Option Addr} {sl_is_valid_item : Array (Option Value)} {oc_is_valid_item kV_is_valid_item dc_is_valid_item pm_is_valid_item cd_is_valid_item ct_is_valid_item : Value} {f_first_invalid_verse : Addr} {od_first_invalid_verse an_first_invalid_verse : Option Addr} {sl_first_invalid_verse : Array (Option Value)} {oc_first_invalid_verse kV_first_invalid_verse dc_first_invalid_verse pm_first_invalid_verse cd_first_invalid_verse ct_first_invalid_verse : Value} {f_validate_book : Addr} {od_validate_book an_validate_book : Option Addr} {sl_validate_book : Array (Option Value)} {oc_validate_book kV_validate_book dc_validate_book pm_validate_book cd_validate_book ct_validate_book : Value} {f_Candidate_init : Addr} {od_Candidate_init an_Candidate_init : Option Addr} {sl_Candidate_init : Array (Option Value)} {oc_Candidate_init kV_Candidate_init dc_Candidate_init pm_Candidate_init cd_Candidate_init ct_Candidate_init : Value} {f_Candidate_possible_turns : Addr} {od_Candidate_possible_turns an_Candidate_possible_turns : Option Addr} {sl_Candidate_possible_turns : Array (Option Value)} {oc_Candidate_possible_turns kV_Candidate_possible_turns dc_Candidate_possible_turns pm_Candidate_possible_turns cd_Candidate_possible_turns ct_Candidate_possible_turns : Value} {f_Candidate_opening_words : Addr} {od_Candidate_opening_words an_Candidate_opening_words : Option Addr} {sl_Candidate_opening_words : Array (Option Value)} {oc_Candidate_opening_words kV_Candidate_opening_words dc_Candidate_opening_words pm_Candidate_opening_words cd_Candidate_opening_words ct_Candidate_opening_words : Value} {f_Candidate_current_item : Addr} {od_Candidate_current_item an_Candidate_current_item : Option Addr} {sl_Candidate_current_item : Array (Option Value)} {oc_Candidate_current_item kV_Candidate_current_item dc_Candidate_current_item pm_Candidate_current_item cd_Candidate_current_item ct_Candidate_current_item : Value} {f_Candidate_after_word : Addr} {od_Candidate_after_word an_Candidate_after_word : Option Addr} {sl_Candidate_after_word : Array (Option Value)} {oc_Candidate_after_word kV_Candidate_after_word dc_Candidate_after_word pm_Candidate_after_word cd_Candidate_after_word ct_Candidate_after_word : Value} {f_Candidate_started_at : Addr} {od_Candidate_started_at an_Candidate_started_at : Option Addr} {sl_Candidate_started_at : Array (Option Value)} {oc_Candidate_started_at kV_Candidate_started_at dc_Candidate_started_at pm_Candidate_started_at cd_Candidate_started_at ct_Candidate_started_at : Value} {f_Candidate_after_hearing : Addr} {od_Candidate_after_hearing an_Candidate_after_hearing : Option Addr} {sl_Candidate_after_hearing : Array (Option Value)} {oc_Candidate_after_hearing kV_Candidate_after_hearing dc_Candidate_after_hearing pm_Candidate_after_hearing cd_Candidate_after_hearing ct_Candidate_after_hearing : Value} {f_filter_candidates : Addr} {od_filter_candidates an_filter_candidates : Option Addr} {sl_filter_candidates : Array (Option Value)} {oc_filter_candidates kV_filter_candidates dc_filter_candidates pm_filter_candidates cd_filter_candidates ct_filter_candidates : Value} {f_Candidate_following_words : Addr} {od_Candidate_following_words an_Candidate_following_words : Option Addr} {sl_Candidate_following_words : Array (Option Value)} {oc_Candidate_following_words kV_Candidate_following_words dc_Candidate_following_words pm_Candidate_following_words cd_Candidate_following_words ct_Candidate_following_words : Value} {f_Candidate_size : Addr} {od_Candidate_size an_Candidate_size : Option Addr} {sl_Candidate_size : Array (Option Value)} {oc_Candidate_size kV_Candidate_size dc_Candidate_size pm_Candidate_size cd_Candidate_size ct_Candidate_size : Value} {f_Candidate_known_turn : Addr} {od_Candidate_known_turn an_Candidate_known_turn : Option Addr} {sl_Candidate_known_turn : Array (Option Value)} {oc_Candidate_known_turn kV_Candidate_known_turn dc_Candidate_known_turn pm_Candidate_known_turn cd_Candidate_known_turn ct_Candidate_known_turn : Value} {f_certain_turns : Addr} {od_certain_turns an_certain_turns : Option Addr} {sl_certain_turns : Array (Option Value)} {oc_certain_turns kV_certain_turns dc_certain_turns pm_certain_turns cd_certain_turns ct_certain_turns : Value} {f_infer_turns : Addr} {od_infer_turns an_infer_turns : Option Addr} {sl_infer_turns : Array (Option Value)} {oc_infer_turns kV_infer_turns dc_infer_turns pm_infer_turns cd_infer_turns ct_infer_turns : Value} {f_Lalike : Addr} {od_Lalike an_Lalike : Option Addr} {sl_Lalike : Array (Option Value)} {oc_Lalike kV_Lalike dc_Lalike pm_Lalike cd_Lalike ct_Lalike : Value} {f_Lstart : Addr} {od_Lstart an_Lstart : Option Addr} {sl_Lstart : Array (Option Value)} {oc_Lstart kV_Lstart dc_Lstart pm_Lstart cd_Lstart ct_Lstart : Value} {f_Lsing : Addr} {od_Lsing an_Lsing : Option Addr} {sl_Lsing : Array (Option Value)} {oc_Lsing kV_Lsing dc_Lsing pm_Lsing cd_Lsing ct_Lsing : Value} {f_law : Addr} {od_law an_law : Option Addr} {sl_law : Array (Option Value)} {oc_law kV_law dc_law pm_law ct_law : Value} {lc_law lp_law : Addr} {ec_law : Value} {dd_law : Option Addr} {vs_law : Array Value} {sk_law : Array (Option Value)} {f_Lresult : Addr} {od_Lresult an_Lresult : Option Addr} {sl_Lresult : Array (Option Value)} {oc_Lresult kV_Lresult dc_Lresult pm_Lresult cd_Lresult ct_Lresult : Value}
    (hfa : mg "law" = some (.ref fa))
    (z_ValueError : PySem.W.nsIn K mainGlobals "ValueError" = some none)
    (z_all : PySem.W.nsIn K mainGlobals "all" = some none)
    (z_bool : PySem.W.nsIn K mainGlobals "bool" = some none)
    (z_enumerate : PySem.W.nsIn K mainGlobals "enumerate" = some none)
    (z_int : PySem.W.nsIn K mainGlobals "int" = some none)
    (z_isinstance : PySem.W.nsIn K mainGlobals "isinstance" = some none)
    (z_len : PySem.W.nsIn K mainGlobals "len" = some none)
    (z_list : PySem.W.nsIn K mainGlobals "list" = some none)
    (z_max : PySem.W.nsIn K mainGlobals "max" = some none)
    (z_range : PySem.W.nsIn K mainGlobals "range" = some none)
    (z_set : PySem.W.nsIn K mainGlobals "set" = some none)
    (z_sorted : PySem.W.nsIn K mainGlobals "sorted" = some none)
    (z_str : PySem.W.nsIn K mainGlobals "str" = some none)
    (z_sum : PySem.W.nsIn K mainGlobals "sum" = some none)
    (z_tuple : PySem.W.nsIn K mainGlobals "tuple" = some none)
    (z_zip : PySem.W.nsIn K mainGlobals "zip" = some none)
    (a_LETTERS : PySem.W.nsIn K mainGlobals "LETTERS" = some (some (.str "abcdefghijklmnopqrstuvwxyz" tk_LETTERS)))
    (a_MAX_CANDIDATES : PySem.W.nsIn K mainGlobals "MAX_CANDIDATES" = some (some (.int 500 tk_MAX_CANDIDATES)))
    (a_MAX_HEARD : PySem.W.nsIn K mainGlobals "MAX_HEARD" = some (some (.int 60 tk_MAX_HEARD)))
    (a_MAX_ITEMS : PySem.W.nsIn K mainGlobals "MAX_ITEMS" = some (some (.int 6 tk_MAX_ITEMS)))
    (a_MAX_LETTERS : PySem.W.nsIn K mainGlobals "MAX_LETTERS" = some (some (.int 8 tk_MAX_LETTERS)))
    (a_MAX_REFRAINS : PySem.W.nsIn K mainGlobals "MAX_REFRAINS" = some (some (.int 60 tk_MAX_REFRAINS)))
    (a_MAX_VERSES : PySem.W.nsIn K mainGlobals "MAX_VERSES" = some (some (.int 4 tk_MAX_VERSES)))
    (a_Candidate : PySem.W.nsIn K mainGlobals "Candidate" = some (some (.ref C_Candidate)))
    (pg_Candidate : PySem.W.plainGet K C_Candidate Str.empty = true)
    (hd_Candidate : PySem.W.hasDictIn K C_Candidate = true)
    (po_Candidate : PySem.W.plainOver K C_Candidate = true)
    (sa_Candidate : PySem.W.findIn K (.ref C_Candidate) "__setattr__" = some (some (.builtin "object.__setattr__")))
    (a_BadBook : PySem.W.nsIn K mainGlobals "BadBook" = some (some (.ref C_BadBook)))
    (a_BadCertificate : PySem.W.nsIn K mainGlobals "BadCertificate" = some (some (.ref C_BadCertificate)))
    (a_BadCount : PySem.W.nsIn K mainGlobals "BadCount" = some (some (.ref C_BadCount)))
    (a_BadRefrain : PySem.W.nsIn K mainGlobals "BadRefrain" = some (some (.ref C_BadRefrain)))
    (a_BadState : PySem.W.nsIn K mainGlobals "BadState" = some (some (.ref C_BadState)))
    (a_BadTurns : PySem.W.nsIn K mainGlobals "BadTurns" = some (some (.ref C_BadTurns)))
    (a_RefrainBusy : PySem.W.nsIn K mainGlobals "RefrainBusy" = some (some (.ref C_RefrainBusy)))
    (a_SongError : PySem.W.nsIn K mainGlobals "SongError" = some (some (.ref C_SongError)))
    (a_TooManyCandidates : PySem.W.nsIn K mainGlobals "TooManyCandidates" = some (some (.ref C_TooManyCandidates)))
    (a_TooManyWords : PySem.W.nsIn K mainGlobals "TooManyWords" = some (some (.ref C_TooManyWords)))
    (xq_TooManyCandidates : PySem.W.excIn K C_TooManyCandidates [.type "ValueError", .type "Exception", .type "BaseException", .type "object"] "ValueError.__new__" = true)
    (xk_TooManyCandidates : PySem.W.keepIn K (.ref C_TooManyCandidates) = true)
    (xb_TooManyCandidates : PySem.W.subIn K (.ref C_TooManyCandidates) (.type "BaseException") = some true)
    (xt_TooManyCandidates : PySem.W.typeIn K (.ref C_TooManyCandidates) = some (.type "type"))
    (xq_TooManyWords : PySem.W.excIn K C_TooManyWords [.type "ValueError", .type "Exception", .type "BaseException", .type "object"] "ValueError.__new__" = true)
    (xk_TooManyWords : PySem.W.keepIn K (.ref C_TooManyWords) = true)
    (xb_TooManyWords : PySem.W.subIn K (.ref C_TooManyWords) (.type "BaseException") = some true)
    (xt_TooManyWords : PySem.W.typeIn K (.ref C_TooManyWords) = some (.type "type"))
    (res_ : resB K C_SongError [C_BadBook, C_BadCertificate, C_BadCount, C_BadRefrain, C_BadState, C_BadTurns, C_RefrainBusy, C_TooManyCandidates, C_TooManyWords] = true)
    (a_f_Lbegun : PySem.W.nsIn K mainGlobals "_law_begun" = some (some (.ref f_Lbegun)))
    (l_Lbegun : K.lookup f_Lbegun = some ⟨oc_Lbegun, od_Lbegun, .func (PySem.W.fnOf "_law_begun" "_law_begun" (defArgs s_Lbegun) (defBody s_Lbegun) (defScope s_Lbegun) .none kV_Lbegun dc_Lbegun pm_Lbegun an_Lbegun cd_Lbegun ct_Lbegun), sl_Lbegun⟩)
    (cc_Lbegun : PySem.W.codeIn K cd_Lbegun "_law_begun" = true)
    (kp_Lbegun : PySem.W.keepIn K (.ref f_Lbegun) = true)
    (a_f_Lthin : PySem.W.nsIn K mainGlobals "_law_thin" = some (some (.ref f_Lthin)))
    (l_Lthin : K.lookup f_Lthin = some ⟨oc_Lthin, od_Lthin, .func (PySem.W.fnOf "_law_thin" "_law_thin" (defArgs s_Lthin) (defBody s_Lthin) (defScope s_Lthin) .none kV_Lthin dc_Lthin pm_Lthin an_Lthin cd_Lthin ct_Lthin), sl_Lthin⟩)
    (cc_Lthin : PySem.W.codeIn K cd_Lthin "_law_thin" = true)
    (kp_Lthin : PySem.W.keepIn K (.ref f_Lthin) = true)
    (a_f_Ltake : PySem.W.nsIn K mainGlobals "_law_take" = some (some (.ref f_Ltake)))
    (l_Ltake : K.lookup f_Ltake = some ⟨oc_Ltake, od_Ltake, .func (PySem.W.fnOf "_law_take" "_law_take" (defArgs s_Ltake) (defBody s_Ltake) (defScope s_Ltake) .none kV_Ltake dc_Ltake pm_Ltake an_Ltake cd_Ltake ct_Ltake), sl_Ltake⟩)
    (cc_Ltake : PySem.W.codeIn K cd_Ltake "_law_take" = true)
    (kp_Ltake : PySem.W.keepIn K (.ref f_Ltake) = true)
    (a_f_Lbook : PySem.W.nsIn K mainGlobals "_law_book" = some (some (.ref f_Lbook)))
    (l_Lbook : K.lookup f_Lbook = some ⟨oc_Lbook, od_Lbook, .func (PySem.W.fnOf "_law_book" "_law_book" (defArgs s_Lbook) (defBody s_Lbook) (defScope s_Lbook) .none kV_Lbook dc_Lbook pm_Lbook an_Lbook cd_Lbook ct_Lbook), sl_Lbook⟩)
    (cc_Lbook : PySem.W.codeIn K cd_Lbook "_law_book" = true)
    (kp_Lbook : PySem.W.keepIn K (.ref f_Lbook) = true)
    (a_f_Lturns : PySem.W.nsIn K mainGlobals "_law_turns" = some (some (.ref f_Lturns)))
    (l_Lturns : K.lookup f_Lturns = some ⟨oc_Lturns, od_Lturns, .func (PySem.W.fnOf "_law_turns" "_law_turns" (defArgs s_Lturns) (defBody s_Lturns) (defScope s_Lturns) .none kV_Lturns dc_Lturns pm_Lturns an_Lturns cd_Lturns ct_Lturns), sl_Lturns⟩)
    (cc_Lturns : PySem.W.codeIn K cd_Lturns "_law_turns" = true)
    (kp_Lturns : PySem.W.keepIn K (.ref f_Lturns) = true)
    (a_f_Lfrom : PySem.W.nsIn K mainGlobals "_law_from" = some (some (.ref f_Lfrom)))
    (l_Lfrom : K.lookup f_Lfrom = some ⟨oc_Lfrom, od_Lfrom, .func (PySem.W.fnOf "_law_from" "_law_from" (defArgs s_Lfrom) (defBody s_Lfrom) (defScope s_Lfrom) .none kV_Lfrom dc_Lfrom pm_Lfrom an_Lfrom cd_Lfrom ct_Lfrom), sl_Lfrom⟩)
    (cc_Lfrom : PySem.W.codeIn K cd_Lfrom "_law_from" = true)
    (kp_Lfrom : PySem.W.keepIn K (.ref f_Lfrom) = true)
    (a_f_is_word : PySem.W.nsIn K mainGlobals "is_word" = some (some (.ref f_is_word)))
    (l_is_word : K.lookup f_is_word = some ⟨oc_is_word, od_is_word, .func (PySem.W.fnOf "is_word" "is_word" (defArgs s_is_word) (defBody s_is_word) (defScope s_is_word) .none kV_is_word dc_is_word pm_is_word an_is_word cd_is_word ct_is_word), sl_is_word⟩)
    (cc_is_word : PySem.W.codeIn K cd_is_word "is_word" = true)
    (kp_is_word : PySem.W.keepIn K (.ref f_is_word) = true)
    (a_f_is_valid_item : PySem.W.nsIn K mainGlobals "is_valid_item" = some (some (.ref f_is_valid_item)))
    (l_is_valid_item : K.lookup f_is_valid_item = some ⟨oc_is_valid_item, od_is_valid_item, .func (PySem.W.fnOf "is_valid_item" "is_valid_item" (defArgs s_is_valid_item) (defBody s_is_valid_item) (defScope s_is_valid_item) .none kV_is_valid_item dc_is_valid_item pm_is_valid_item an_is_valid_item cd_is_valid_item ct_is_valid_item), sl_is_valid_item⟩)
    (cc_is_valid_item : PySem.W.codeIn K cd_is_valid_item "is_valid_item" = true)
    (kp_is_valid_item : PySem.W.keepIn K (.ref f_is_valid_item) = true)
    (a_f_first_invalid_verse : PySem.W.nsIn K mainGlobals "first_invalid_verse" = some (some (.ref f_first_invalid_verse)))
    (l_first_invalid_verse : K.lookup f_first_invalid_verse = some ⟨oc_first_invalid_verse, od_first_invalid_verse, .func (PySem.W.fnOf "first_invalid_verse" "first_invalid_verse" (defArgs s_first_invalid_verse) (defBody s_first_invalid_verse) (defScope s_first_invalid_verse) .none kV_first_invalid_verse dc_first_invalid_verse pm_first_invalid_verse an_first_invalid_verse cd_first_invalid_verse ct_first_invalid_verse), sl_first_invalid_verse⟩)
    (cc_first_invalid_verse : PySem.W.codeIn K cd_first_invalid_verse "first_invalid_verse" = true)
    (kp_first_invalid_verse : PySem.W.keepIn K (.ref f_first_invalid_verse) = true)
    (a_f_validate_book : PySem.W.nsIn K mainGlobals "validate_book" = some (some (.ref f_validate_book)))
    (l_validate_book : K.lookup f_validate_book = some ⟨oc_validate_book, od_validate_book, .func (PySem.W.fnOf "validate_book" "validate_book" (defArgs s_validate_book) (defBody s_validate_book) (defScope s_validate_book) .none kV_validate_book dc_validate_book pm_validate_book an_validate_book cd_validate_book ct_validate_book), sl_validate_book⟩)
    (cc_validate_book : PySem.W.codeIn K cd_validate_book "validate_book" = true)
    (kp_validate_book : PySem.W.keepIn K (.ref f_validate_book) = true)
    (a_f_Candidate_init : PySem.W.findIn K (.ref C_Candidate) "__init__" = some (some (.ref f_Candidate_init)))
    (i_Candidate_init : PySem.W.isFn K (.ref f_Candidate_init) = true)
    (l_Candidate_init : K.lookup f_Candidate_init = some ⟨oc_Candidate_init, od_Candidate_init, .func (PySem.W.fnOf "__init__" "Candidate.__init__" (defArgs s_Candidate_init) (defBody s_Candidate_init) (defScope s_Candidate_init) .none kV_Candidate_init dc_Candidate_init pm_Candidate_init an_Candidate_init cd_Candidate_init ct_Candidate_init), sl_Candidate_init⟩)
    (cc_Candidate_init : PySem.W.codeIn K cd_Candidate_init "Candidate.__init__" = true)
    (kp_Candidate_init : PySem.W.keepIn K (.ref f_Candidate_init) = true)
    (a_f_Candidate_possible_turns : PySem.W.findIn K (.ref C_Candidate) "possible_turns" = some (some (.ref f_Candidate_possible_turns)))
    (i_Candidate_possible_turns : PySem.W.isFn K (.ref f_Candidate_possible_turns) = true)
    (l_Candidate_possible_turns : K.lookup f_Candidate_possible_turns = some ⟨oc_Candidate_possible_turns, od_Candidate_possible_turns, .func (PySem.W.fnOf "possible_turns" "Candidate.possible_turns" (defArgs s_Candidate_possible_turns) (defBody s_Candidate_possible_turns) (defScope s_Candidate_possible_turns) .none kV_Candidate_possible_turns dc_Candidate_possible_turns pm_Candidate_possible_turns an_Candidate_possible_turns cd_Candidate_possible_turns ct_Candidate_possible_turns), sl_Candidate_possible_turns⟩)
    (cc_Candidate_possible_turns : PySem.W.codeIn K cd_Candidate_possible_turns "Candidate.possible_turns" = true)
    (kp_Candidate_possible_turns : PySem.W.keepIn K (.ref f_Candidate_possible_turns) = true)
    (a_f_Candidate_opening_words : PySem.W.findIn K (.ref C_Candidate) "opening_words" = some (some (.ref f_Candidate_opening_words)))
    (i_Candidate_opening_words : PySem.W.isFn K (.ref f_Candidate_opening_words) = true)
    (l_Candidate_opening_words : K.lookup f_Candidate_opening_words = some ⟨oc_Candidate_opening_words, od_Candidate_opening_words, .func (PySem.W.fnOf "opening_words" "Candidate.opening_words" (defArgs s_Candidate_opening_words) (defBody s_Candidate_opening_words) (defScope s_Candidate_opening_words) .none kV_Candidate_opening_words dc_Candidate_opening_words pm_Candidate_opening_words an_Candidate_opening_words cd_Candidate_opening_words ct_Candidate_opening_words), sl_Candidate_opening_words⟩)
    (cc_Candidate_opening_words : PySem.W.codeIn K cd_Candidate_opening_words "Candidate.opening_words" = true)
    (kp_Candidate_opening_words : PySem.W.keepIn K (.ref f_Candidate_opening_words) = true)
    (a_f_Candidate_current_item : PySem.W.findIn K (.ref C_Candidate) "current_item" = some (some (.ref f_Candidate_current_item)))
    (i_Candidate_current_item : PySem.W.isFn K (.ref f_Candidate_current_item) = true)
    (l_Candidate_current_item : K.lookup f_Candidate_current_item = some ⟨oc_Candidate_current_item, od_Candidate_current_item, .func (PySem.W.fnOf "current_item" "Candidate.current_item" (defArgs s_Candidate_current_item) (defBody s_Candidate_current_item) (defScope s_Candidate_current_item) .none kV_Candidate_current_item dc_Candidate_current_item pm_Candidate_current_item an_Candidate_current_item cd_Candidate_current_item ct_Candidate_current_item), sl_Candidate_current_item⟩)
    (cc_Candidate_current_item : PySem.W.codeIn K cd_Candidate_current_item "Candidate.current_item" = true)
    (kp_Candidate_current_item : PySem.W.keepIn K (.ref f_Candidate_current_item) = true)
    (a_f_Candidate_after_word : PySem.W.findIn K (.ref C_Candidate) "after_word" = some (some (.ref f_Candidate_after_word)))
    (i_Candidate_after_word : PySem.W.isFn K (.ref f_Candidate_after_word) = true)
    (l_Candidate_after_word : K.lookup f_Candidate_after_word = some ⟨oc_Candidate_after_word, od_Candidate_after_word, .func (PySem.W.fnOf "after_word" "Candidate.after_word" (defArgs s_Candidate_after_word) (defBody s_Candidate_after_word) (defScope s_Candidate_after_word) .none kV_Candidate_after_word dc_Candidate_after_word pm_Candidate_after_word an_Candidate_after_word cd_Candidate_after_word ct_Candidate_after_word), sl_Candidate_after_word⟩)
    (cc_Candidate_after_word : PySem.W.codeIn K cd_Candidate_after_word "Candidate.after_word" = true)
    (kp_Candidate_after_word : PySem.W.keepIn K (.ref f_Candidate_after_word) = true)
    (a_f_Candidate_started_at : PySem.W.findIn K (.ref C_Candidate) "started_at" = some (some (.ref f_Candidate_started_at)))
    (i_Candidate_started_at : PySem.W.isFn K (.ref f_Candidate_started_at) = true)
    (l_Candidate_started_at : K.lookup f_Candidate_started_at = some ⟨oc_Candidate_started_at, od_Candidate_started_at, .func (PySem.W.fnOf "started_at" "Candidate.started_at" (defArgs s_Candidate_started_at) (defBody s_Candidate_started_at) (defScope s_Candidate_started_at) .none kV_Candidate_started_at dc_Candidate_started_at pm_Candidate_started_at an_Candidate_started_at cd_Candidate_started_at ct_Candidate_started_at), sl_Candidate_started_at⟩)
    (cc_Candidate_started_at : PySem.W.codeIn K cd_Candidate_started_at "Candidate.started_at" = true)
    (kp_Candidate_started_at : PySem.W.keepIn K (.ref f_Candidate_started_at) = true)
    (a_f_Candidate_after_hearing : PySem.W.findIn K (.ref C_Candidate) "after_hearing" = some (some (.ref f_Candidate_after_hearing)))
    (i_Candidate_after_hearing : PySem.W.isFn K (.ref f_Candidate_after_hearing) = true)
    (l_Candidate_after_hearing : K.lookup f_Candidate_after_hearing = some ⟨oc_Candidate_after_hearing, od_Candidate_after_hearing, .func (PySem.W.fnOf "after_hearing" "Candidate.after_hearing" (defArgs s_Candidate_after_hearing) (defBody s_Candidate_after_hearing) (defScope s_Candidate_after_hearing) .none kV_Candidate_after_hearing dc_Candidate_after_hearing pm_Candidate_after_hearing an_Candidate_after_hearing cd_Candidate_after_hearing ct_Candidate_after_hearing), sl_Candidate_after_hearing⟩)
    (cc_Candidate_after_hearing : PySem.W.codeIn K cd_Candidate_after_hearing "Candidate.after_hearing" = true)
    (kp_Candidate_after_hearing : PySem.W.keepIn K (.ref f_Candidate_after_hearing) = true)
    (a_f_filter_candidates : PySem.W.nsIn K mainGlobals "filter_candidates" = some (some (.ref f_filter_candidates)))
    (l_filter_candidates : K.lookup f_filter_candidates = some ⟨oc_filter_candidates, od_filter_candidates, .func (PySem.W.fnOf "filter_candidates" "filter_candidates" (defArgs s_filter_candidates) (defBody s_filter_candidates) (defScope s_filter_candidates) .none kV_filter_candidates dc_filter_candidates pm_filter_candidates an_filter_candidates cd_filter_candidates ct_filter_candidates), sl_filter_candidates⟩)
    (cc_filter_candidates : PySem.W.codeIn K cd_filter_candidates "filter_candidates" = true)
    (kp_filter_candidates : PySem.W.keepIn K (.ref f_filter_candidates) = true)
    (a_f_Candidate_following_words : PySem.W.findIn K (.ref C_Candidate) "following_words" = some (some (.ref f_Candidate_following_words)))
    (i_Candidate_following_words : PySem.W.isFn K (.ref f_Candidate_following_words) = true)
    (l_Candidate_following_words : K.lookup f_Candidate_following_words = some ⟨oc_Candidate_following_words, od_Candidate_following_words, .func (PySem.W.fnOf "following_words" "Candidate.following_words" (defArgs s_Candidate_following_words) (defBody s_Candidate_following_words) (defScope s_Candidate_following_words) .none kV_Candidate_following_words dc_Candidate_following_words pm_Candidate_following_words an_Candidate_following_words cd_Candidate_following_words ct_Candidate_following_words), sl_Candidate_following_words⟩)
    (cc_Candidate_following_words : PySem.W.codeIn K cd_Candidate_following_words "Candidate.following_words" = true)
    (kp_Candidate_following_words : PySem.W.keepIn K (.ref f_Candidate_following_words) = true)
    (a_f_Candidate_size : PySem.W.findIn K (.ref C_Candidate) "size" = some (some (.ref f_Candidate_size)))
    (i_Candidate_size : PySem.W.isFn K (.ref f_Candidate_size) = true)
    (l_Candidate_size : K.lookup f_Candidate_size = some ⟨oc_Candidate_size, od_Candidate_size, .func (PySem.W.fnOf "size" "Candidate.size" (defArgs s_Candidate_size) (defBody s_Candidate_size) (defScope s_Candidate_size) .none kV_Candidate_size dc_Candidate_size pm_Candidate_size an_Candidate_size cd_Candidate_size ct_Candidate_size), sl_Candidate_size⟩)
    (cc_Candidate_size : PySem.W.codeIn K cd_Candidate_size "Candidate.size" = true)
    (kp_Candidate_size : PySem.W.keepIn K (.ref f_Candidate_size) = true)
    (a_f_Candidate_known_turn : PySem.W.findIn K (.ref C_Candidate) "known_turn" = some (some (.ref f_Candidate_known_turn)))
    (i_Candidate_known_turn : PySem.W.isFn K (.ref f_Candidate_known_turn) = true)
    (l_Candidate_known_turn : K.lookup f_Candidate_known_turn = some ⟨oc_Candidate_known_turn, od_Candidate_known_turn, .func (PySem.W.fnOf "known_turn" "Candidate.known_turn" (defArgs s_Candidate_known_turn) (defBody s_Candidate_known_turn) (defScope s_Candidate_known_turn) .none kV_Candidate_known_turn dc_Candidate_known_turn pm_Candidate_known_turn an_Candidate_known_turn cd_Candidate_known_turn ct_Candidate_known_turn), sl_Candidate_known_turn⟩)
    (cc_Candidate_known_turn : PySem.W.codeIn K cd_Candidate_known_turn "Candidate.known_turn" = true)
    (kp_Candidate_known_turn : PySem.W.keepIn K (.ref f_Candidate_known_turn) = true)
    (a_f_certain_turns : PySem.W.nsIn K mainGlobals "certain_turns" = some (some (.ref f_certain_turns)))
    (l_certain_turns : K.lookup f_certain_turns = some ⟨oc_certain_turns, od_certain_turns, .func (PySem.W.fnOf "certain_turns" "certain_turns" (defArgs s_certain_turns) (defBody s_certain_turns) (defScope s_certain_turns) .none kV_certain_turns dc_certain_turns pm_certain_turns an_certain_turns cd_certain_turns ct_certain_turns), sl_certain_turns⟩)
    (cc_certain_turns : PySem.W.codeIn K cd_certain_turns "certain_turns" = true)
    (kp_certain_turns : PySem.W.keepIn K (.ref f_certain_turns) = true)
    (a_f_infer_turns : PySem.W.nsIn K mainGlobals "infer_turns" = some (some (.ref f_infer_turns)))
    (l_infer_turns : K.lookup f_infer_turns = some ⟨oc_infer_turns, od_infer_turns, .func (PySem.W.fnOf "infer_turns" "infer_turns" (defArgs s_infer_turns) (defBody s_infer_turns) (defScope s_infer_turns) .none kV_infer_turns dc_infer_turns pm_infer_turns an_infer_turns cd_infer_turns ct_infer_turns), sl_infer_turns⟩)
    (cc_infer_turns : PySem.W.codeIn K cd_infer_turns "infer_turns" = true)
    (kp_infer_turns : PySem.W.keepIn K (.ref f_infer_turns) = true)
    (a_f_Lalike : PySem.W.nsIn K mainGlobals "_law_alike" = some (some (.ref f_Lalike)))
    (l_Lalike : K.lookup f_Lalike = some ⟨oc_Lalike, od_Lalike, .func (PySem.W.fnOf "_law_alike" "_law_alike" (defArgs s_Lalike) (defBody s_Lalike) (defScope s_Lalike) .none kV_Lalike dc_Lalike pm_Lalike an_Lalike cd_Lalike ct_Lalike), sl_Lalike⟩)
    (cc_Lalike : PySem.W.codeIn K cd_Lalike "_law_alike" = true)
    (kp_Lalike : PySem.W.keepIn K (.ref f_Lalike) = true)
    (a_f_Lstart : PySem.W.nsIn K mainGlobals "_law_start" = some (some (.ref f_Lstart)))
    (l_Lstart : K.lookup f_Lstart = some ⟨oc_Lstart, od_Lstart, .func (PySem.W.fnOf "_law_start" "_law_start" (defArgs s_Lstart) (defBody s_Lstart) (defScope s_Lstart) .none kV_Lstart dc_Lstart pm_Lstart an_Lstart cd_Lstart ct_Lstart), sl_Lstart⟩)
    (cc_Lstart : PySem.W.codeIn K cd_Lstart "_law_start" = true)
    (kp_Lstart : PySem.W.keepIn K (.ref f_Lstart) = true)
    (a_f_Lsing : PySem.W.nsIn K mainGlobals "_law_sing" = some (some (.ref f_Lsing)))
    (l_Lsing : K.lookup f_Lsing = some ⟨oc_Lsing, od_Lsing, .func (PySem.W.fnOf "_law_sing" "_law_sing" (defArgs s_Lsing) (defBody s_Lsing) (defScope s_Lsing) .none kV_Lsing dc_Lsing pm_Lsing an_Lsing cd_Lsing ct_Lsing), sl_Lsing⟩)
    (cc_Lsing : PySem.W.codeIn K cd_Lsing "_law_sing" = true)
    (kp_Lsing : PySem.W.keepIn K (.ref f_Lsing) = true)
    (a_f_law : PySem.W.nsIn K mainGlobals "law" = some (some (.ref f_law)))
    (l_law : K.lookup f_law = some ⟨oc_law, od_law, .func (PySem.W.fnOf "law" "law" (defArgs s_law) (defBody s_law) (defScope s_law) .none kV_law dc_law pm_law an_law (.ref lc_law) ct_law), sl_law⟩)
    (cc_law : PySem.W.codeIn K (.ref lc_law) "law" = true)
    (kp_law : PySem.W.keepIn K (.ref f_law) = true)
    (lk_law : K.lookup lc_law = some ⟨ec_law, dd_law, .fields vs_law, sk_law⟩)
    (tp_law : vs_law[11]? = some (.ref lp_law))
    (ch_law : PySem.W.codeHdIn K lc_law lp_law = true)
    (nl_law : K.lookup lp_law = none)
    (rc_law : ((recsOf q).any fun e => e.name == "law") = true)
    (a_f_Lresult : PySem.W.nsIn K mainGlobals "_law_result" = some (some (.ref f_Lresult)))
    (l_Lresult : K.lookup f_Lresult = some ⟨oc_Lresult, od_Lresult, .func (PySem.W.fnOf "_law_result" "_law_result" (defArgs s_Lresult) (defBody s_Lresult) (defScope s_Lresult) .none kV_Lresult dc_Lresult pm_Lresult an_Lresult cd_Lresult ct_Lresult), sl_Lresult⟩)
    (cc_Lresult : PySem.W.codeIn K cd_Lresult "_law_result" = true)
    (kp_Lresult : PySem.W.keepIn K (.ref f_Lresult) = true)
    (mk_Candidate : PySem.W.makesIn K C_Candidate = true)
    (kc_Candidate : PySem.W.keepIn K (.ref C_Candidate) = true)
    (na_Candidate_book : PySem.W.findIn K (.ref C_Candidate) "book" = some none)
    (na_Candidate_current_turns : PySem.W.findIn K (.ref C_Candidate) "current_turns" = some none)
    (na_Candidate_entries : PySem.W.findIn K (.ref C_Candidate) "entries" = some none)
    (na_Candidate_first_turns : PySem.W.findIn K (.ref C_Candidate) "first_turns" = some none) :
    ∃ (fd : FuncData) (cs : List (Addr × Addr)) (TT : List (Addr × Str)), (∀ (s : Shared) (u : Value), BindsTo s fd ⟨[u], []⟩ [("_law_script", u)]) ∧ (∀ p ∈ cs, h.get? p.2 = some { cls := .none, data := .fields #[] }) ∧ (∀ p ∈ cs, K.lookup p.2 = none) ∧ (∀ p ∈ cs, PySem.W.CodeHd h p.1 p.2) ∧ (∀ p ∈ TT, ∃ r ∈ cs, r.2 = p.1) ∧ ∀ base : Heap, K.In base → base.Ns mainGlobals mg → (∀ p ∈ cs, LamX.TabB base mg p.1 p.2) → FnOk P w K mg base (L2.CX P w) 9 fa fd ["_law_script"] (LSp ⟨K, TT⟩ (spLaw 63)) := by
  have e : f_law = fa := by
    have e := (PySem.W.mg_of X G a_f_law).symm.trans hfa
    cases e
    rfl
  subst e
  let ad : Ad := { c_Candidate := C_Candidate, c_BadBook := C_BadBook, c_BadCertificate := C_BadCertificate, c_BadCount := C_BadCount, c_BadRefrain := C_BadRefrain, c_BadState := C_BadState, c_BadTurns := C_BadTurns, c_RefrainBusy := C_RefrainBusy, c_SongError := C_SongError, c_TooManyCandidates := C_TooManyCandidates, c_TooManyWords := C_TooManyWords, lc_law := lc_law, lp_law := lp_law, f_Lbegun := f_Lbegun, d_Lbegun := PySem.W.fnOf "_law_begun" "_law_begun" (defArgs s_Lbegun) (defBody s_Lbegun) (defScope s_Lbegun) .none kV_Lbegun dc_Lbegun pm_Lbegun an_Lbegun cd_Lbegun ct_Lbegun, f_Lthin := f_Lthin, d_Lthin := PySem.W.fnOf "_law_thin" "_law_thin" (defArgs s_Lthin) (defBody s_Lthin) (defScope s_Lthin) .none kV_Lthin dc_Lthin pm_Lthin an_Lthin cd_Lthin ct_Lthin, f_Ltake := f_Ltake, d_Ltake := PySem.W.fnOf "_law_take" "_law_take" (defArgs s_Ltake) (defBody s_Ltake) (defScope s_Ltake) .none kV_Ltake dc_Ltake pm_Ltake an_Ltake cd_Ltake ct_Ltake, f_Lbook := f_Lbook, d_Lbook := PySem.W.fnOf "_law_book" "_law_book" (defArgs s_Lbook) (defBody s_Lbook) (defScope s_Lbook) .none kV_Lbook dc_Lbook pm_Lbook an_Lbook cd_Lbook ct_Lbook, f_Lturns := f_Lturns, d_Lturns := PySem.W.fnOf "_law_turns" "_law_turns" (defArgs s_Lturns) (defBody s_Lturns) (defScope s_Lturns) .none kV_Lturns dc_Lturns pm_Lturns an_Lturns cd_Lturns ct_Lturns, f_Lfrom := f_Lfrom, d_Lfrom := PySem.W.fnOf "_law_from" "_law_from" (defArgs s_Lfrom) (defBody s_Lfrom) (defScope s_Lfrom) .none kV_Lfrom dc_Lfrom pm_Lfrom an_Lfrom cd_Lfrom ct_Lfrom, f_is_word := f_is_word, d_is_word := PySem.W.fnOf "is_word" "is_word" (defArgs s_is_word) (defBody s_is_word) (defScope s_is_word) .none kV_is_word dc_is_word pm_is_word an_is_word cd_is_word ct_is_word, f_is_valid_item := f_is_valid_item, d_is_valid_item := PySem.W.fnOf "is_valid_item" "is_valid_item" (defArgs s_is_valid_item) (defBody s_is_valid_item) (defScope s_is_valid_item) .none kV_is_valid_item dc_is_valid_item pm_is_valid_item an_is_valid_item cd_is_valid_item ct_is_valid_item, f_first_invalid_verse := f_first_invalid_verse, d_first_invalid_verse := PySem.W.fnOf "first_invalid_verse" "first_invalid_verse" (defArgs s_first_invalid_verse) (defBody s_first_invalid_verse) (defScope s_first_invalid_verse) .none kV_first_invalid_verse dc_first_invalid_verse pm_first_invalid_verse an_first_invalid_verse cd_first_invalid_verse ct_first_invalid_verse, f_validate_book := f_validate_book, d_validate_book := PySem.W.fnOf "validate_book" "validate_book" (defArgs s_validate_book) (defBody s_validate_book) (defScope s_validate_book) .none kV_validate_book dc_validate_book pm_validate_book an_validate_book cd_validate_book ct_validate_book, f_Candidate_init := f_Candidate_init, d_Candidate_init := PySem.W.fnOf "__init__" "Candidate.__init__" (defArgs s_Candidate_init) (defBody s_Candidate_init) (defScope s_Candidate_init) .none kV_Candidate_init dc_Candidate_init pm_Candidate_init an_Candidate_init cd_Candidate_init ct_Candidate_init, f_Candidate_possible_turns := f_Candidate_possible_turns, d_Candidate_possible_turns := PySem.W.fnOf "possible_turns" "Candidate.possible_turns" (defArgs s_Candidate_possible_turns) (defBody s_Candidate_possible_turns) (defScope s_Candidate_possible_turns) .none kV_Candidate_possible_turns dc_Candidate_possible_turns pm_Candidate_possible_turns an_Candidate_possible_turns cd_Candidate_possible_turns ct_Candidate_possible_turns, f_Candidate_opening_words := f_Candidate_opening_words, d_Candidate_opening_words := PySem.W.fnOf "opening_words" "Candidate.opening_words" (defArgs s_Candidate_opening_words) (defBody s_Candidate_opening_words) (defScope s_Candidate_opening_words) .none kV_Candidate_opening_words dc_Candidate_opening_words pm_Candidate_opening_words an_Candidate_opening_words cd_Candidate_opening_words ct_Candidate_opening_words, f_Candidate_current_item := f_Candidate_current_item, d_Candidate_current_item := PySem.W.fnOf "current_item" "Candidate.current_item" (defArgs s_Candidate_current_item) (defBody s_Candidate_current_item) (defScope s_Candidate_current_item) .none kV_Candidate_current_item dc_Candidate_current_item pm_Candidate_current_item an_Candidate_current_item cd_Candidate_current_item ct_Candidate_current_item, f_Candidate_after_word := f_Candidate_after_word, d_Candidate_after_word := PySem.W.fnOf "after_word" "Candidate.after_word" (defArgs s_Candidate_after_word) (defBody s_Candidate_after_word) (defScope s_Candidate_after_word) .none kV_Candidate_after_word dc_Candidate_after_word pm_Candidate_after_word an_Candidate_after_word cd_Candidate_after_word ct_Candidate_after_word, f_Candidate_started_at := f_Candidate_started_at, d_Candidate_started_at := PySem.W.fnOf "started_at" "Candidate.started_at" (defArgs s_Candidate_started_at) (defBody s_Candidate_started_at) (defScope s_Candidate_started_at) .none kV_Candidate_started_at dc_Candidate_started_at pm_Candidate_started_at an_Candidate_started_at cd_Candidate_started_at ct_Candidate_started_at, f_Candidate_after_hearing := f_Candidate_after_hearing, d_Candidate_after_hearing := PySem.W.fnOf "after_hearing" "Candidate.after_hearing" (defArgs s_Candidate_after_hearing) (defBody s_Candidate_after_hearing) (defScope s_Candidate_after_hearing) .none kV_Candidate_after_hearing dc_Candidate_after_hearing pm_Candidate_after_hearing an_Candidate_after_hearing cd_Candidate_after_hearing ct_Candidate_after_hearing, f_filter_candidates := f_filter_candidates, d_filter_candidates := PySem.W.fnOf "filter_candidates" "filter_candidates" (defArgs s_filter_candidates) (defBody s_filter_candidates) (defScope s_filter_candidates) .none kV_filter_candidates dc_filter_candidates pm_filter_candidates an_filter_candidates cd_filter_candidates ct_filter_candidates, f_Candidate_following_words := f_Candidate_following_words, d_Candidate_following_words := PySem.W.fnOf "following_words" "Candidate.following_words" (defArgs s_Candidate_following_words) (defBody s_Candidate_following_words) (defScope s_Candidate_following_words) .none kV_Candidate_following_words dc_Candidate_following_words pm_Candidate_following_words an_Candidate_following_words cd_Candidate_following_words ct_Candidate_following_words, f_Candidate_size := f_Candidate_size, d_Candidate_size := PySem.W.fnOf "size" "Candidate.size" (defArgs s_Candidate_size) (defBody s_Candidate_size) (defScope s_Candidate_size) .none kV_Candidate_size dc_Candidate_size pm_Candidate_size an_Candidate_size cd_Candidate_size ct_Candidate_size, f_Candidate_known_turn := f_Candidate_known_turn, d_Candidate_known_turn := PySem.W.fnOf "known_turn" "Candidate.known_turn" (defArgs s_Candidate_known_turn) (defBody s_Candidate_known_turn) (defScope s_Candidate_known_turn) .none kV_Candidate_known_turn dc_Candidate_known_turn pm_Candidate_known_turn an_Candidate_known_turn cd_Candidate_known_turn ct_Candidate_known_turn, f_certain_turns := f_certain_turns, d_certain_turns := PySem.W.fnOf "certain_turns" "certain_turns" (defArgs s_certain_turns) (defBody s_certain_turns) (defScope s_certain_turns) .none kV_certain_turns dc_certain_turns pm_certain_turns an_certain_turns cd_certain_turns ct_certain_turns, f_infer_turns := f_infer_turns, d_infer_turns := PySem.W.fnOf "infer_turns" "infer_turns" (defArgs s_infer_turns) (defBody s_infer_turns) (defScope s_infer_turns) .none kV_infer_turns dc_infer_turns pm_infer_turns an_infer_turns cd_infer_turns ct_infer_turns, f_Lalike := f_Lalike, d_Lalike := PySem.W.fnOf "_law_alike" "_law_alike" (defArgs s_Lalike) (defBody s_Lalike) (defScope s_Lalike) .none kV_Lalike dc_Lalike pm_Lalike an_Lalike cd_Lalike ct_Lalike, f_Lstart := f_Lstart, d_Lstart := PySem.W.fnOf "_law_start" "_law_start" (defArgs s_Lstart) (defBody s_Lstart) (defScope s_Lstart) .none kV_Lstart dc_Lstart pm_Lstart an_Lstart cd_Lstart ct_Lstart, f_Lsing := f_Lsing, d_Lsing := PySem.W.fnOf "_law_sing" "_law_sing" (defArgs s_Lsing) (defBody s_Lsing) (defScope s_Lsing) .none kV_Lsing dc_Lsing pm_Lsing an_Lsing cd_Lsing ct_Lsing, f_law := f_law, d_law := PySem.W.fnOf "law" "law" (defArgs s_law) (defBody s_law) (defScope s_law) .none kV_law dc_law pm_law an_law (.ref lc_law) ct_law, f_Lresult := f_Lresult, d_Lresult := PySem.W.fnOf "_law_result" "_law_result" (defArgs s_Lresult) (defBody s_Lresult) (defScope s_Lresult) .none kV_Lresult dc_Lresult pm_Lresult an_Lresult cd_Lresult ct_Lresult, k_LETTERS := .str "abcdefghijklmnopqrstuvwxyz" tk_LETTERS, w_LETTERS := .str "abcdefghijklmnopqrstuvwxyz", k_MAX_CANDIDATES := .int 500 tk_MAX_CANDIDATES, w_MAX_CANDIDATES := .int 500, k_MAX_HEARD := .int 60 tk_MAX_HEARD, w_MAX_HEARD := .int 60, k_MAX_ITEMS := .int 6 tk_MAX_ITEMS, w_MAX_ITEMS := .int 6, k_MAX_LETTERS := .int 8 tk_MAX_LETTERS, w_MAX_LETTERS := .int 8, k_MAX_REFRAINS := .int 60 tk_MAX_REFRAINS, w_MAX_REFRAINS := .int 60, k_MAX_VERSES := .int 4 tk_MAX_VERSES, w_MAX_VERSES := .int 4 }
  have T : Txt K mg ad := {
    no_ValueError := PySem.W.mg_none_of X G z_ValueError,
    no_all := PySem.W.mg_none_of X G z_all,
    no_bool := PySem.W.mg_none_of X G z_bool,
    no_enumerate := PySem.W.mg_none_of X G z_enumerate,
    no_int := PySem.W.mg_none_of X G z_int,
    no_isinstance := PySem.W.mg_none_of X G z_isinstance,
    no_len := PySem.W.mg_none_of X G z_len,
    no_list := PySem.W.mg_none_of X G z_list,
    no_max := PySem.W.mg_none_of X G z_max,
    no_range := PySem.W.mg_none_of X G z_range,
    no_set := PySem.W.mg_none_of X G z_set,
    no_sorted := PySem.W.mg_none_of X G z_sorted,
    no_str := PySem.W.mg_none_of X G z_str,
    no_sum := PySem.W.mg_none_of X G z_sum,
    no_tuple := PySem.W.mg_none_of X G z_tuple,
    no_zip := PySem.W.mg_none_of X G z_zip,
    gk_LETTERS := PySem.W.mg_of X G a_LETTERS,
    v_LETTERS := ⟨_, rfl⟩,
    r_LETTERS := fun _ _ _ => .str _,
    gk_MAX_CANDIDATES := PySem.W.mg_of X G a_MAX_CANDIDATES,
    v_MAX_CANDIDATES := ⟨_, rfl⟩,
    r_MAX_CANDIDATES := fun _ _ _ => .int _,
    gk_MAX_HEARD := PySem.W.mg_of X G a_MAX_HEARD,
    v_MAX_HEARD := ⟨_, rfl⟩,
    r_MAX_HEARD := fun _ _ _ => .int _,
    gk_MAX_ITEMS := PySem.W.mg_of X G a_MAX_ITEMS,
    v_MAX_ITEMS := ⟨_, rfl⟩,
    r_MAX_ITEMS := fun _ _ _ => .int _,
    gk_MAX_LETTERS := PySem.W.mg_of X G a_MAX_LETTERS,
    v_MAX_LETTERS := ⟨_, rfl⟩,
    r_MAX_LETTERS := fun _ _ _ => .int _,
    gk_MAX_REFRAINS := PySem.W.mg_of X G a_MAX_REFRAINS,
    v_MAX_REFRAINS := ⟨_, rfl⟩,
    r_MAX_REFRAINS := fun _ _ _ => .int _,
    gk_MAX_VERSES := PySem.W.mg_of X G a_MAX_VERSES,
    v_MAX_VERSES := ⟨_, rfl⟩,
    r_MAX_VERSES := fun _ _ _ => .int _,
    gc_Candidate := PySem.W.mg_of X G a_Candidate,
    cl_Candidate := ⟨pg_Candidate, hd_Candidate, po_Candidate, sa_Candidate⟩,
    k_Candidate := ⟨mk_Candidate, a_f_Candidate_init, i_Candidate_init, kc_Candidate⟩,
    na_Candidate_book := na_Candidate_book,
    na_Candidate_current_turns := na_Candidate_current_turns,
    na_Candidate_entries := na_Candidate_entries,
    na_Candidate_first_turns := na_Candidate_first_turns,
    gc_BadBook := PySem.W.mg_of X G a_BadBook,
    gc_BadCertificate := PySem.W.mg_of X G a_BadCertificate,
    gc_BadCount := PySem.W.mg_of X G a_BadCount,
    gc_BadRefrain := PySem.W.mg_of X G a_BadRefrain,
    gc_BadState := PySem.W.mg_of X G a_BadState,
    gc_BadTurns := PySem.W.mg_of X G a_BadTurns,
    gc_RefrainBusy := PySem.W.mg_of X G a_RefrainBusy,
    gc_SongError := PySem.W.mg_of X G a_SongError,
    gc_TooManyCandidates := PySem.W.mg_of X G a_TooManyCandidates,
    gc_TooManyWords := PySem.W.mg_of X G a_TooManyWords,
    x_TooManyCandidates := ⟨PySem.W.mg_of X G a_TooManyCandidates, xq_TooManyCandidates, xk_TooManyCandidates, xb_TooManyCandidates, xt_TooManyCandidates⟩,
    x_TooManyWords := ⟨PySem.W.mg_of X G a_TooManyWords, xq_TooManyWords, xk_TooManyWords, xb_TooManyWords, xt_TooManyWords⟩,
    res := res_,
    FC_law := ⟨⟨oc_law, od_law, kV_law, dc_law, pm_law, an_law, ct_law, sl_law, rfl, l_law, cc_law⟩⟩,
    F_Lbegun := fun_mk (st := s_Lbegun) l_Lbegun cc_Lbegun kp_Lbegun,
    b_Lbegun := (fun_mk (st := s_Lbegun) l_Lbegun cc_Lbegun kp_Lbegun).binds (ps := ["_law_script"]) fun _ _ _ _ _ _ us hl => match us, hl with | [_], _ => rfl,
    g_Lbegun := PySem.W.mg_of X G a_f_Lbegun,
    F_Lthin := fun_mk (st := s_Lthin) l_Lthin cc_Lthin kp_Lthin,
    b_Lthin := (fun_mk (st := s_Lthin) l_Lthin cc_Lthin kp_Lthin).binds (ps := ["_law_book_here", "_law_most"]) fun _ _ _ _ _ _ us hl => match us, hl with | [_, _], _ => rfl,
    g_Lthin := PySem.W.mg_of X G a_f_Lthin,
    F_Ltake := fun_mk (st := s_Ltake) l_Ltake cc_Ltake kp_Ltake,
    b_Ltake := (fun_mk (st := s_Ltake) l_Ltake cc_Ltake kp_Ltake).binds (ps := ["_law_box", "_law_size"]) fun _ _ _ _ _ _ us hl => match us, hl with | [_, _], _ => rfl,
    g_Ltake := PySem.W.mg_of X G a_f_Ltake,
    F_Lbook := fun_mk (st := s_Lbook) l_Lbook cc_Lbook kp_Lbook,
    b_Lbook := (fun_mk (st := s_Lbook) l_Lbook cc_Lbook kp_Lbook).binds (ps := ["_law_box", "_law_most"]) fun _ _ _ _ _ _ us hl => match us, hl with | [_, _], _ => rfl,
    g_Lbook := PySem.W.mg_of X G a_f_Lbook,
    F_Lturns := fun_mk (st := s_Lturns) l_Lturns cc_Lturns kp_Lturns,
    b_Lturns := (fun_mk (st := s_Lturns) l_Lturns cc_Lturns kp_Lturns).binds (ps := ["_law_box", "_law_book_here"]) fun _ _ _ _ _ _ us hl => match us, hl with | [_, _], _ => rfl,
    g_Lturns := PySem.W.mg_of X G a_f_Lturns,
    F_Lfrom := fun_mk (st := s_Lfrom) l_Lfrom cc_Lfrom kp_Lfrom,
    b_Lfrom := (fun_mk (st := s_Lfrom) l_Lfrom cc_Lfrom kp_Lfrom).binds (ps := ["_law_state_here"]) fun _ _ _ _ _ _ us hl => match us, hl with | [_], _ => rfl,
    g_Lfrom := PySem.W.mg_of X G a_f_Lfrom,
    F_is_word := fun_mk (st := s_is_word) l_is_word cc_is_word kp_is_word,
    b_is_word := (fun_mk (st := s_is_word) l_is_word cc_is_word kp_is_word).binds (ps := ["item"]) fun _ _ _ _ _ _ us hl => match us, hl with | [_], _ => rfl,
    g_is_word := PySem.W.mg_of X G a_f_is_word,
    F_is_valid_item := fun_mk (st := s_is_valid_item) l_is_valid_item cc_is_valid_item kp_is_valid_item,
    b_is_valid_item := (fun_mk (st := s_is_valid_item) l_is_valid_item cc_is_valid_item kp_is_valid_item).binds (ps := ["book", "refrain", "item"]) fun _ _ _ _ _ _ us hl => match us, hl with | [_, _, _], _ => rfl,
    g_is_valid_item := PySem.W.mg_of X G a_f_is_valid_item,
    F_first_invalid_verse := fun_mk (st := s_first_invalid_verse) l_first_invalid_verse cc_first_invalid_verse kp_first_invalid_verse,
    b_first_invalid_verse := (fun_mk (st := s_first_invalid_verse) l_first_invalid_verse cc_first_invalid_verse kp_first_invalid_verse).binds (ps := ["book", "refrain"]) fun _ _ _ _ _ _ us hl => match us, hl with | [_, _], _ => rfl,
    g_first_invalid_verse := PySem.W.mg_of X G a_f_first_invalid_verse,
    F_validate_book := fun_mk (st := s_validate_book) l_validate_book cc_validate_book kp_validate_book,
    b_validate_book := (fun_mk (st := s_validate_book) l_validate_book cc_validate_book kp_validate_book).binds (ps := ["book"]) fun _ _ _ _ _ _ us hl => match us, hl with | [_], _ => rfl,
    g_validate_book := PySem.W.mg_of X G a_f_validate_book,
    F_Candidate_init := fun_mk (st := s_Candidate_init) l_Candidate_init cc_Candidate_init kp_Candidate_init,
    b_Candidate_init := (fun_mk (st := s_Candidate_init) l_Candidate_init cc_Candidate_init kp_Candidate_init).binds (ps := ["self", "book", "first_turns", "current_turns", "entries"]) fun _ _ _ _ _ _ us hl => match us, hl with | [_, _, _, _, _], _ => rfl,
    F_Candidate_possible_turns := fun_mk (st := s_Candidate_possible_turns) l_Candidate_possible_turns cc_Candidate_possible_turns kp_Candidate_possible_turns,
    b_Candidate_possible_turns := (fun_mk (st := s_Candidate_possible_turns) l_Candidate_possible_turns cc_Candidate_possible_turns kp_Candidate_possible_turns).binds (ps := ["self", "refrain"]) fun _ _ _ _ _ _ us hl => match us, hl with | [_, _], _ => rfl,
    m_Candidate_possible_turns := ⟨a_f_Candidate_possible_turns, i_Candidate_possible_turns, kp_Candidate_possible_turns⟩,
    F_Candidate_opening_words := fun_mk (st := s_Candidate_opening_words) l_Candidate_opening_words cc_Candidate_opening_words kp_Candidate_opening_words,
    b_Candidate_opening_words := (fun_mk (st := s_Candidate_opening_words) l_Candidate_opening_words cc_Candidate_opening_words kp_Candidate_opening_words).binds (ps := ["self"]) fun _ _ _ _ _ _ us hl => match us, hl with | [_], _ => rfl,
    m_Candidate_opening_words := ⟨a_f_Candidate_opening_words, i_Candidate_opening_words, kp_Candidate_opening_words⟩,
    F_Candidate_current_item := fun_mk (st := s_Candidate_current_item) l_Candidate_current_item cc_Candidate_current_item kp_Candidate_current_item,
    b_Candidate_current_item := (fun_mk (st := s_Candidate_current_item) l_Candidate_current_item cc_Candidate_current_item kp_Candidate_current_item).binds (ps := ["self"]) fun _ _ _ _ _ _ us hl => match us, hl with | [_], _ => rfl,
    m_Candidate_current_item := ⟨a_f_Candidate_current_item, i_Candidate_current_item, kp_Candidate_current_item⟩,
    F_Candidate_after_word := fun_mk (st := s_Candidate_after_word) l_Candidate_after_word cc_Candidate_after_word kp_Candidate_after_word,
    b_Candidate_after_word := (fun_mk (st := s_Candidate_after_word) l_Candidate_after_word cc_Candidate_after_word kp_Candidate_after_word).binds (ps := ["self"]) fun _ _ _ _ _ _ us hl => match us, hl with | [_], _ => rfl,
    m_Candidate_after_word := ⟨a_f_Candidate_after_word, i_Candidate_after_word, kp_Candidate_after_word⟩,
    F_Candidate_started_at := fun_mk (st := s_Candidate_started_at) l_Candidate_started_at cc_Candidate_started_at kp_Candidate_started_at,
    b_Candidate_started_at := (fun_mk (st := s_Candidate_started_at) l_Candidate_started_at cc_Candidate_started_at kp_Candidate_started_at).binds (ps := ["self", "refrain", "turn"]) fun _ _ _ _ _ _ us hl => match us, hl with | [_, _, _], _ => rfl,
    m_Candidate_started_at := ⟨a_f_Candidate_started_at, i_Candidate_started_at, kp_Candidate_started_at⟩,
    F_Candidate_after_hearing := fun_mk (st := s_Candidate_after_hearing) l_Candidate_after_hearing cc_Candidate_after_hearing kp_Candidate_after_hearing,
    b_Candidate_after_hearing := (fun_mk (st := s_Candidate_after_hearing) l_Candidate_after_hearing cc_Candidate_after_hearing kp_Candidate_after_hearing).binds (ps := ["self", "word"]) fun _ _ _ _ _ _ us hl => match us, hl with | [_, _], _ => rfl,
    m_Candidate_after_hearing := ⟨a_f_Candidate_after_hearing, i_Candidate_after_hearing, kp_Candidate_after_hearing⟩,
    F_filter_candidates := fun_mk (st := s_filter_candidates) l_filter_candidates cc_filter_candidates kp_filter_candidates,
    b_filter_candidates := (fun_mk (st := s_filter_candidates) l_filter_candidates cc_filter_candidates kp_filter_candidates).binds (ps := ["candidates", "word"]) fun _ _ _ _ _ _ us hl => match us, hl with | [_, _], _ => rfl,
    g_filter_candidates := PySem.W.mg_of X G a_f_filter_candidates,
    F_Candidate_following_words := fun_mk (st := s_Candidate_following_words) l_Candidate_following_words cc_Candidate_following_words kp_Candidate_following_words,
    b_Candidate_following_words := (fun_mk (st := s_Candidate_following_words) l_Candidate_following_words cc_Candidate_following_words kp_Candidate_following_words).binds (ps := ["self"]) fun _ _ _ _ _ _ us hl => match us, hl with | [_], _ => rfl,
    m_Candidate_following_words := ⟨a_f_Candidate_following_words, i_Candidate_following_words, kp_Candidate_following_words⟩,
    F_Candidate_size := fun_mk (st := s_Candidate_size) l_Candidate_size cc_Candidate_size kp_Candidate_size,
    b_Candidate_size := (fun_mk (st := s_Candidate_size) l_Candidate_size cc_Candidate_size kp_Candidate_size).binds (ps := ["self"]) fun _ _ _ _ _ _ us hl => match us, hl with | [_], _ => rfl,
    m_Candidate_size := ⟨a_f_Candidate_size, i_Candidate_size, kp_Candidate_size⟩,
    F_Candidate_known_turn := fun_mk (st := s_Candidate_known_turn) l_Candidate_known_turn cc_Candidate_known_turn kp_Candidate_known_turn,
    b_Candidate_known_turn := (fun_mk (st := s_Candidate_known_turn) l_Candidate_known_turn cc_Candidate_known_turn kp_Candidate_known_turn).binds (ps := ["self", "refrain"]) fun _ _ _ _ _ _ us hl => match us, hl with | [_, _], _ => rfl,
    m_Candidate_known_turn := ⟨a_f_Candidate_known_turn, i_Candidate_known_turn, kp_Candidate_known_turn⟩,
    F_certain_turns := fun_mk (st := s_certain_turns) l_certain_turns cc_certain_turns kp_certain_turns,
    b_certain_turns := (fun_mk (st := s_certain_turns) l_certain_turns cc_certain_turns kp_certain_turns).binds (ps := ["book", "candidates"]) fun _ _ _ _ _ _ us hl => match us, hl with | [_, _], _ => rfl,
    g_certain_turns := PySem.W.mg_of X G a_f_certain_turns,
    F_infer_turns := fun_mk (st := s_infer_turns) l_infer_turns cc_infer_turns kp_infer_turns,
    b_infer_turns := (fun_mk (st := s_infer_turns) l_infer_turns cc_infer_turns kp_infer_turns).binds (ps := ["book", "words"]) fun _ _ _ _ _ _ us hl => match us, hl with | [_, _], _ => rfl,
    g_infer_turns := PySem.W.mg_of X G a_f_infer_turns,
    F_Lalike := fun_mk (st := s_Lalike) l_Lalike cc_Lalike kp_Lalike,
    b_Lalike := (fun_mk (st := s_Lalike) l_Lalike cc_Lalike kp_Lalike).binds (ps := ["_law_found", "_law_due"]) fun _ _ _ _ _ _ us hl => match us, hl with | [_, _], _ => rfl,
    g_Lalike := PySem.W.mg_of X G a_f_Lalike,
    F_Lstart := fun_mk (st := s_Lstart) l_Lstart cc_Lstart kp_Lstart,
    b_Lstart := (fun_mk (st := s_Lstart) l_Lstart cc_Lstart kp_Lstart).binds (ps := ["_law_book_here", "_law_s", "_law_refrain"]) fun _ _ _ _ _ _ us hl => match us, hl with | [_, _, _], _ => rfl,
    g_Lstart := PySem.W.mg_of X G a_f_Lstart,
    F_Lsing := fun_mk (st := s_Lsing) l_Lsing cc_Lsing kp_Lsing,
    b_Lsing := (fun_mk (st := s_Lsing) l_Lsing cc_Lsing kp_Lsing).binds (ps := ["_law_book_here", "_law_s"]) fun _ _ _ _ _ _ us hl => match us, hl with | [_, _], _ => rfl,
    g_Lsing := PySem.W.mg_of X G a_f_Lsing,
    F_law := fun_mk (st := s_law) l_law cc_law kp_law,
    b_law := (fun_mk (st := s_law) l_law cc_law kp_law).binds (ps := ["_law_script"]) fun _ _ _ _ _ _ us hl => match us, hl with | [_], _ => rfl,
    F_Lresult := fun_mk (st := s_Lresult) l_Lresult cc_Lresult kp_Lresult,
    b_Lresult := (fun_mk (st := s_Lresult) l_Lresult cc_Lresult kp_Lresult).binds (ps := ["_law_call"]) fun _ _ _ _ _ _ us hl => match us, hl with | [_], _ => rfl,
    g_Lresult := PySem.W.mg_of X G a_f_Lresult }
  exact ⟨ad.d_law, csL ad, ttL ad, fun s u => .of_eq rfl, (by intro p hp; simp only [csL, List.mem_cons, List.not_mem_nil, or_false] at hp; rcases hp with rfl <;> first | exact own "law" _ _ _ _ _ _ _ _ _ rc_law (PySem.W.mg_of X G a_f_law) l_law rfl rfl lk_law tp_law), (by intro p hp; simp only [csL, List.mem_cons, List.not_mem_nil, or_false] at hp; rcases hp with rfl <;> first | exact nl_law), (by intro p hp; simp only [csL, List.mem_cons, List.not_mem_nil, or_false] at hp; rcases hp with rfl <;> first | exact PySem.W.codeHd_of_K X ch_law), (by intro p hp; simp only [ttL, List.mem_cons, List.not_mem_nil, or_false] at hp; rcases hp with rfl <;> first | exact ⟨(ad.lc_law, ad.lp_law), by unfold csL; simp, rfl⟩), fun base _ _ hTB => law_ok T hTB⟩
end K15
namespace K15
open PySem PySem.Spec PyProof.Rows L2 D3 D0
theorem all_of {P : Program} {w : World} {K : PySem.W.Frag} {h : Heap} {mg : Str → Option Value} (X : K.In h) (G : h.Ns mainGlobals mg) {q : Program} (own : OwnT q K mg h) {fa : Addr} (hfa : mg "law" = some (.ref fa)) (rc_law : ((recsOf q).any fun e => e.name == "law") = true) (c : SaysF hfs hns K) :
    ∃ (fd : FuncData) (cs : List (Addr × Addr)) (TT : List (Addr × Str)), (∀ (s : Shared) (u : Value), BindsTo s fd ⟨[u], []⟩ [("_law_script", u)]) ∧ (∀ p ∈ cs, h.get? p.2 = some { cls := .none, data := .fields #[] }) ∧ (∀ p ∈ cs, K.lookup p.2 = none) ∧ (∀ p ∈ cs, PySem.W.CodeHd h p.1 p.2) ∧ (∀ p ∈ TT, ∃ r ∈ cs, r.2 = p.1) ∧ ∀ base : Heap, K.In base → base.Ns mainGlobals mg → (∀ p ∈ cs, LamX.TabB base mg p.1 p.2) → FnOk P w K mg base (L2.CX P w) 9 fa fd ["_law_script"] (LSp ⟨K, TT⟩ (spLaw 63)) := by
  have D_Lbegun := c.fw' (dn := hn0) (fun d hd => hdef0 hd) 0 (⟨("_law_begun", none), "_law_begun", "_law_begun", defArgs q_Lbegun, defBody q_Lbegun, defScope q_Lbegun⟩) rfl
  have D_Lthin := c.fw' (dn := hn0) (fun d hd => hdef0 hd) 1 (⟨("_law_thin", none), "_law_thin", "_law_thin", defArgs q_Lthin, defBody q_Lthin, defScope q_Lthin⟩) rfl
  have D_Ltake := c.fw' (dn := hn0) (fun d hd => hdef0 hd) 2 (⟨("_law_take", none), "_law_take", "_law_take", defArgs q_Ltake, defBody q_Ltake, defScope q_Ltake⟩) rfl
  have D_Lbook := c.fw' (dn := hn0) (fun d hd => hdef0 hd) 3 (⟨("_law_book", none), "_law_book", "_law_book", defArgs q_Lbook, defBody q_Lbook, defScope q_Lbook⟩) rfl
  have D_Lturns := c.fw' (dn := hn0) (fun d hd => hdef0 hd) 4 (⟨("_law_turns", none), "_law_turns", "_law_turns", defArgs q_Lturns, defBody q_Lturns, defScope q_Lturns⟩) rfl
  have D_Lfrom := c.fw' (dn := hn0) (fun d hd => hdef0 hd) 5 (⟨("_law_from", none), "_law_from", "_law_from", defArgs q_Lfrom, defBody q_Lfrom, defScope q_Lfrom⟩) rfl
  have D_is_word := c.fw' (dn := hn0) (fun d hd => hdef0 hd) 6 (⟨("is_word", none), "is_word", "is_word", defArgs q_is_word, defBody q_is_word, defScope q_is_word⟩) rfl
  have D_is_valid_item := c.fw' (dn := hn0) (fun d hd => hdef0 hd) 7 (⟨("is_valid_item", none), "is_valid_item", "is_valid_item", defArgs q_is_valid_item, defBody q_is_valid_item, defScope q_is_valid_item⟩) rfl
  have D_first_invalid_verse := c.fw' (dn := hn0) (fun d hd => hdef0 hd) 8 (⟨("first_invalid_verse", none), "first_invalid_verse", "first_invalid_verse", defArgs q_first_invalid_verse, defBody q_first_invalid_verse, defScope q_first_invalid_verse⟩) rfl
  have D_validate_book := c.fw' (dn := hn0) (fun d hd => hdef0 hd) 9 (⟨("validate_book", none), "validate_book", "validate_book", defArgs q_validate_book, defBody q_validate_book, defScope q_validate_book⟩) rfl
  have D_Candidate_init := c.fw' (dn := hn0) (fun d hd => hdef0 hd) 10 (⟨("Candidate", some "__init__"), "__init__", "Candidate.__init__", defArgs q_Candidate_init, defBody q_Candidate_init, defScope q_Candidate_init⟩) rfl
  have D_Candidate_possible_turns := c.fw' (dn := hn0) (fun d hd => hdef0 hd) 11 (⟨("Candidate", some "possible_turns"), "possible_turns", "Candidate.possible_turns", defArgs q_Candidate_possible_turns, defBody q_Candidate_possible_turns, defScope q_Candidate_possible_turns⟩) rfl
  have D_Candidate_opening_words := c.fw' (dn := hn0) (fun d hd => hdef0 hd) 12 (⟨("Candidate", some "opening_words"), "opening_words", "Candidate.opening_words", defArgs q_Candidate_opening_words, defBody q_Candidate_opening_words, defScope q_Candidate_opening_words⟩) rfl
  have D_Candidate_current_item := c.fw' (dn := hn0) (fun d hd => hdef0 hd) 13 (⟨("Candidate", some "current_item"), "current_item", "Candidate.current_item", defArgs q_Candidate_current_item, defBody q_Candidate_current_item, defScope q_Candidate_current_item⟩) rfl
  have D_Candidate_after_word := c.fw' (dn := hn0) (fun d hd => hdef0 hd) 14 (⟨("Candidate", some "after_word"), "after_word", "Candidate.after_word", defArgs q_Candidate_after_word, defBody q_Candidate_after_word, defScope q_Candidate_after_word⟩) rfl
  have D_Candidate_started_at := c.fw' (dn := hn0) (fun d hd => hdef0 hd) 15 (⟨("Candidate", some "started_at"), "started_at", "Candidate.started_at", defArgs q_Candidate_started_at, defBody q_Candidate_started_at, defScope q_Candidate_started_at⟩) rfl
  have D_Candidate_after_hearing := c.fw' (dn := hn0) (fun d hd => hdef0 hd) 16 (⟨("Candidate", some "after_hearing"), "after_hearing", "Candidate.after_hearing", defArgs q_Candidate_after_hearing, defBody q_Candidate_after_hearing, defScope q_Candidate_after_hearing⟩) rfl
  have D_filter_candidates := c.fw' (dn := hn0) (fun d hd => hdef0 hd) 17 (⟨("filter_candidates", none), "filter_candidates", "filter_candidates", defArgs q_filter_candidates, defBody q_filter_candidates, defScope q_filter_candidates⟩) rfl
  have D_Candidate_following_words := c.fw' (dn := hn0) (fun d hd => hdef0 hd) 18 (⟨("Candidate", some "following_words"), "following_words", "Candidate.following_words", defArgs q_Candidate_following_words, defBody q_Candidate_following_words, defScope q_Candidate_following_words⟩) rfl
  have D_Candidate_size := c.fw' (dn := hn0) (fun d hd => hdef0 hd) 19 (⟨("Candidate", some "size"), "size", "Candidate.size", defArgs q_Candidate_size, defBody q_Candidate_size, defScope q_Candidate_size⟩) rfl
  have D_Candidate_known_turn := c.fw' (dn := hn1) (fun d hd => hdef1 hd) 0 (⟨("Candidate", some "known_turn"), "known_turn", "Candidate.known_turn", defArgs q_Candidate_known_turn, defBody q_Candidate_known_turn, defScope q_Candidate_known_turn⟩) rfl
  have D_certain_turns := c.fw' (dn := hn1) (fun d hd => hdef1 hd) 1 (⟨("certain_turns", none), "certain_turns", "certain_turns", defArgs q_certain_turns, defBody q_certain_turns, defScope q_certain_turns⟩) rfl
  have D_infer_turns := c.fw' (dn := hn1) (fun d hd => hdef1 hd) 2 (⟨("infer_turns", none), "infer_turns", "infer_turns", defArgs q_infer_turns, defBody q_infer_turns, defScope q_infer_turns⟩) rfl
  have D_Lalike := c.fw' (dn := hn1) (fun d hd => hdef1 hd) 3 (⟨("_law_alike", none), "_law_alike", "_law_alike", defArgs q_Lalike, defBody q_Lalike, defScope q_Lalike⟩) rfl
  have D_Lstart := c.fw' (dn := hn1) (fun d hd => hdef1 hd) 4 (⟨("_law_start", none), "_law_start", "_law_start", defArgs q_Lstart, defBody q_Lstart, defScope q_Lstart⟩) rfl
  have D_Lsing := c.fw' (dn := hn1) (fun d hd => hdef1 hd) 5 (⟨("_law_sing", none), "_law_sing", "_law_sing", defArgs q_Lsing, defBody q_Lsing, defScope q_Lsing⟩) rfl
  have D_law := c.lw' (dn := hn1) (fun d hd => hdef1 hd) 6 (⟨("law", none), "law", "law", defArgs q_law, defBody q_law, defScope q_law⟩) rfl (hfact2 c 30 (f := cLa ("law", none)) rfl)
  have D_Lresult := c.fw' (dn := hn1) (fun d hd => hdef1 hd) 7 (⟨("_law_result", none), "_law_result", "_law_result", defArgs q_Lresult, defBody q_Lresult, defScope q_Lresult⟩) rfl
  exact all_mk (w := w) X G own hfa
    (cFr_ok (hfact0 c 0 (f := cFr "ValueError") rfl))
    (cFr_ok (hfact0 c 1 (f := cFr "all") rfl))
    (cFr_ok (hfact0 c 2 (f := cFr "bool") rfl))
    (cFr_ok (hfact0 c 3 (f := cFr "enumerate") rfl))
    (cFr_ok (hfact0 c 4 (f := cFr "int") rfl))
    (cFr_ok (hfact0 c 5 (f := cFr "isinstance") rfl))
    (cFr_ok (hfact0 c 6 (f := cFr "len") rfl))
    (cFr_ok (hfact0 c 7 (f := cFr "list") rfl))
    (cFr_ok (hfact0 c 8 (f := cFr "max") rfl))
    (cFr_ok (hfact0 c 9 (f := cFr "range") rfl))
    (cFr_ok (hfact0 c 10 (f := cFr "set") rfl))
    (cFr_ok (hfact0 c 11 (f := cFr "sorted") rfl))
    (cFr_ok (hfact0 c 12 (f := cFr "str") rfl))
    (cFr_ok (hfact0 c 13 (f := cFr "sum") rfl))
    (cFr_ok (hfact0 c 14 (f := cFr "tuple") rfl))
    (cFr_ok (hfact0 c 15 (f := cFr "zip") rfl))
    (cSt_ok (hfact0 c 16 (f := cSt "LETTERS" "abcdefghijklmnopqrstuvwxyz") rfl))
    (cIn_ok (hfact0 c 17 (f := cIn "MAX_CANDIDATES" 500) rfl))
    (cIn_ok (hfact0 c 18 (f := cIn "MAX_HEARD" 60) rfl))
    (cIn_ok (hfact0 c 19 (f := cIn "MAX_ITEMS" 6) rfl))
    (cIn_ok (hfact0 c 20 (f := cIn "MAX_LETTERS" 8) rfl))
    (cIn_ok (hfact0 c 21 (f := cIn "MAX_REFRAINS" 60) rfl))
    (cIn_ok (hfact0 c 22 (f := cIn "MAX_VERSES" 4) rfl))
    (cGl_ok (hfact0 c 23 (f := cGl "Candidate") rfl))
    (hfact0 c 24 (f := cPg "Candidate") rfl)
    (hfact0 c 25 (f := cHd "Candidate") rfl)
    (hfact0 c 26 (f := cPo "Candidate") rfl)
    (cSa_ok (hfact0 c 27 (f := cSa "Candidate") rfl))
    (cGl_ok (hfact0 c 28 (f := cGl "BadBook") rfl))
    (cGl_ok (hfact0 c 29 (f := cGl "BadCertificate") rfl))
    (cGl_ok (hfact0 c 30 (f := cGl "BadCount") rfl))
    (cGl_ok (hfact0 c 31 (f := cGl "BadRefrain") rfl))
    (cGl_ok (hfact0 c 32 (f := cGl "BadState") rfl))
    (cGl_ok (hfact0 c 33 (f := cGl "BadTurns") rfl))
    (cGl_ok (hfact0 c 34 (f := cGl "RefrainBusy") rfl))
    (cGl_ok (hfact0 c 35 (f := cGl "SongError") rfl))
    (cGl_ok (hfact0 c 36 (f := cGl "TooManyCandidates") rfl))
    (cGl_ok (hfact0 c 37 (f := cGl "TooManyWords") rfl))
    (hfact0 c 38 (f := cXq "TooManyCandidates") rfl)
    (hfact0 c 39 (f := cKc "TooManyCandidates") rfl)
    (cXb_ok (hfact1 c 0 (f := cXb "TooManyCandidates") rfl))
    (cXt_ok (hfact1 c 1 (f := cXt "TooManyCandidates") rfl))
    (hfact1 c 2 (f := cXq "TooManyWords") rfl)
    (hfact1 c 3 (f := cKc "TooManyWords") rfl)
    (cXb_ok (hfact1 c 4 (f := cXb "TooManyWords") rfl))
    (cXt_ok (hfact1 c 5 (f := cXt "TooManyWords") rfl))
    (cRe_ok (hfact1 c 6 (f := cRe "SongError" ["BadBook", "BadCertificate", "BadCount", "BadRefrain", "BadState", "BadTurns", "RefrainBusy", "TooManyCandidates", "TooManyWords"]) rfl))
    (cGl_ok (hfact1 c 7 (f := cGl "_law_begun") rfl))
    D_Lbegun.lk
    D_Lbegun.cc
    (hfact1 c 8 (f := cKp ("_law_begun", none)) rfl)
    (cGl_ok (hfact1 c 9 (f := cGl "_law_thin") rfl))
    D_Lthin.lk
    D_Lthin.cc
    (hfact1 c 10 (f := cKp ("_law_thin", none)) rfl)
    (cGl_ok (hfact1 c 11 (f := cGl "_law_take") rfl))
    D_Ltake.lk
    D_Ltake.cc
    (hfact1 c 12 (f := cKp ("_law_take", none)) rfl)
    (cGl_ok (hfact1 c 13 (f := cGl "_law_book") rfl))
    D_Lbook.lk
    D_Lbook.cc
    (hfact1 c 14 (f := cKp ("_law_book", none)) rfl)
    (cGl_ok (hfact1 c 15 (f := cGl "_law_turns") rfl))
    D_Lturns.lk
    D_Lturns.cc
    (hfact1 c 16 (f := cKp ("_law_turns", none)) rfl)
    (cGl_ok (hfact1 c 17 (f := cGl "_law_from") rfl))
    D_Lfrom.lk
    D_Lfrom.cc
    (hfact1 c 18 (f := cKp ("_law_from", none)) rfl)
    (cGl_ok (hfact1 c 19 (f := cGl "is_word") rfl))
    D_is_word.lk
    D_is_word.cc
    (hfact1 c 20 (f := cKp ("is_word", none)) rfl)
    (cGl_ok (hfact1 c 21 (f := cGl "is_valid_item") rfl))
    D_is_valid_item.lk
    D_is_valid_item.cc
    (hfact1 c 22 (f := cKp ("is_valid_item", none)) rfl)
    (cGl_ok (hfact1 c 23 (f := cGl "first_invalid_verse") rfl))
    D_first_invalid_verse.lk
    D_first_invalid_verse.cc
    (hfact1 c 24 (f := cKp ("first_invalid_verse", none)) rfl)
    (cGl_ok (hfact1 c 25 (f := cGl "validate_book") rfl))
    D_validate_book.lk
    D_validate_book.cc
    (hfact1 c 26 (f := cKp ("validate_book", none)) rfl)
    (cMe_ok (hfact1 c 27 (f := cMe "Candidate" "__init__") rfl))
    (hfact1 c 28 (f := cFn ("Candidate", some "__init__")) rfl)
    D_Candidate_init.lk
    D_Candidate_init.cc
    (hfact1 c 29 (f := cKp ("Candidate", some "__init__")) rfl)
    (cMe_ok (hfact1 c 30 (f := cMe "Candidate" "possible_turns") rfl))
    (hfact1 c 31 (f := cFn ("Candidate", some "possible_turns")) rfl)
    D_Candidate_possible_turns.lk
    D_Candidate_possible_turns.cc
    (hfact1 c 32 (f := cKp ("Candidate", some "possible_turns")) rfl)
    (cMe_ok (hfact1 c 33 (f := cMe "Candidate" "opening_words") rfl))
    (hfact1 c 34 (f := cFn ("Candidate", some "opening_words")) rfl)
    D_Candidate_opening_words.lk
    D_Candidate_opening_words.cc
    (hfact1 c 35 (f := cKp ("Candidate", some "opening_words")) rfl)
    (cMe_ok (hfact1 c 36 (f := cMe "Candidate" "current_item") rfl))
    (hfact1 c 37 (f := cFn ("Candidate", some "current_item")) rfl)
    D_Candidate_current_item.lk
    D_Candidate_current_item.cc
    (hfact1 c 38 (f := cKp ("Candidate", some "current_item")) rfl)
    (cMe_ok (hfact1 c 39 (f := cMe "Candidate" "after_word") rfl))
    (hfact2 c 0 (f := cFn ("Candidate", some "after_word")) rfl)
    D_Candidate_after_word.lk
    D_Candidate_after_word.cc
    (hfact2 c 1 (f := cKp ("Candidate", some "after_word")) rfl)
    (cMe_ok (hfact2 c 2 (f := cMe "Candidate" "started_at") rfl))
    (hfact2 c 3 (f := cFn ("Candidate", some "started_at")) rfl)
    D_Candidate_started_at.lk
    D_Candidate_started_at.cc
    (hfact2 c 4 (f := cKp ("Candidate", some "started_at")) rfl)
    (cMe_ok (hfact2 c 5 (f := cMe "Candidate" "after_hearing") rfl))
    (hfact2 c 6 (f := cFn ("Candidate", some "after_hearing")) rfl)
    D_Candidate_after_hearing.lk
    D_Candidate_after_hearing.cc
    (hfact2 c 7 (f := cKp ("Candidate", some "after_hearing")) rfl)
    (cGl_ok (hfact2 c 8 (f := cGl "filter_candidates") rfl))
    D_filter_candidates.lk
    D_filter_candidates.cc
    (hfact2 c 9 (f := cKp ("filter_candidates", none)) rfl)
    (cMe_ok (hfact2 c 10 (f := cMe "Candidate" "following_words") rfl))
    (hfact2 c 11 (f := cFn ("Candidate", some "following_words")) rfl)
    D_Candidate_following_words.lk
    D_Candidate_following_words.cc
    (hfact2 c 12 (f := cKp ("Candidate", some "following_words")) rfl)
    (cMe_ok (hfact2 c 13 (f := cMe "Candidate" "size") rfl))
    (hfact2 c 14 (f := cFn ("Candidate", some "size")) rfl)
    D_Candidate_size.lk
    D_Candidate_size.cc
    (hfact2 c 15 (f := cKp ("Candidate", some "size")) rfl)
    (cMe_ok (hfact2 c 16 (f := cMe "Candidate" "known_turn") rfl))
    (hfact2 c 17 (f := cFn ("Candidate", some "known_turn")) rfl)
    D_Candidate_known_turn.lk
    D_Candidate_known_turn.cc
    (hfact2 c 18 (f := cKp ("Candidate", some "known_turn")) rfl)
    (cGl_ok (hfact2 c 19 (f := cGl "certain_turns") rfl))
    D_certain_turns.lk
    D_certain_turns.cc
    (hfact2 c 20 (f := cKp ("certain_turns", none)) rfl)
    (cGl_ok (hfact2 c 21 (f := cGl "infer_turns") rfl))
    D_infer_turns.lk
    D_infer_turns.cc
    (hfact2 c 22 (f := cKp ("infer_turns", none)) rfl)
    (cGl_ok (hfact2 c 23 (f := cGl "_law_alike") rfl))
    D_Lalike.lk
    D_Lalike.cc
    (hfact2 c 24 (f := cKp ("_law_alike", none)) rfl)
    (cGl_ok (hfact2 c 25 (f := cGl "_law_start") rfl))
    D_Lstart.lk
    D_Lstart.cc
    (hfact2 c 26 (f := cKp ("_law_start", none)) rfl)
    (cGl_ok (hfact2 c 27 (f := cGl "_law_sing") rfl))
    D_Lsing.lk
    D_Lsing.cc
    (hfact2 c 28 (f := cKp ("_law_sing", none)) rfl)
    (cGl_ok (hfact2 c 29 (f := cGl "law") rfl))
    D_law.lk
    D_law.cc
    (hfact2 c 31 (f := cKp ("law", none)) rfl)
    D_law.lc
    D_law.tp
    D_law.ch
    D_law.nl
    rc_law
    (cGl_ok (hfact2 c 32 (f := cGl "_law_result") rfl))
    D_Lresult.lk
    D_Lresult.cc
    (hfact2 c 33 (f := cKp ("_law_result", none)) rfl)
    (hfact2 c 34 (f := cMk "Candidate") rfl)
    (hfact2 c 35 (f := cKc "Candidate") rfl)
    (cNf_ok (hfact2 c 36 (f := cNf "Candidate" "book") rfl))
    (cNf_ok (hfact2 c 37 (f := cNf "Candidate" "current_turns") rfl))
    (cNf_ok (hfact2 c 38 (f := cNf "Candidate" "entries") rfl))
    (cNf_ok (hfact2 c 39 (f := cNf "Candidate" "first_turns") rfl))
end K15
open PySem PySem.W PySem.Calls PyProof.Rows
set_option maxRecDepth 100000 in
set_option maxHeartbeats 0 in
theorem PySem.Challenge.cw_sungbyturns_k15_inference_in_large_books_holds : PySem.Challenge.rw_sungbyturns_k15_inference_in_large_books.Holds := by
  w_on; o_law
  refine HandSHeadRun.head_any (r := OpenLaw.row PySem.Challenge.rw_sungbyturns_k15_inference_in_large_books) (q := K15.hq) (H := K15.hk) (ob := K15.hob) (M := 12000) (loose := K15.hos) (d := HandSHeadRun.topDef (OpenLaw.row PySem.Challenge.rw_sungbyturns_k15_inference_in_large_books).prog 41) (kwd := []) K15.hob_eq
    (by kernel_rfl) (fun s => by kernel_rfl) K15.hrun (by kernel_rfl) (by kernel_rfl) (by kernel_rfl) (by rfl) (by first | assumption | decide +kernel) (by decide +kernel) ⟨rfl, rfl, rfl, rfl, rfl, by decide +kernel⟩ ?hw ?hc
  case hw => w_witness2
  case hc =>
    refine D3.walk_ofF (l := PySem.Challenge.rw_sungbyturns_k15_inference_in_large_books) (n := 63) (k := 9) (x := "_law_script") (by decide +kernel) (by decide +kernel) (by kernel_rfl) ⟨rfl, by decide, by decide⟩ ?_
    intro w mg fa h K KX c G hmg0 own
    have hmg : mg ("law" : PySem.Str) = some (.ref fa) := by
      have e : (HandSHeadRun.topDef (OpenLaw.row PySem.Challenge.rw_sungbyturns_k15_inference_in_large_books).prog 41).name = ("law" : PySem.Str) := by kernel_rfl
      rw [← e]
      exact hmg0
    obtain ⟨fd, cs, TT, h1, h2, h3, h4, h5, h6⟩ := K15.all_of (w := w) KX G own hmg (by decide +kernel) c
    exact ⟨fd, cs, TT, h1, h2, h3, h4, h5, h6⟩
