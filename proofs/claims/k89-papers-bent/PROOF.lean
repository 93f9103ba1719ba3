import PyProof.Rows.All
import Wide.All
import OpenK.AllK
import Wide.FinOn
import HandS.ForMost
import HandS.ForExc
import HandS.IsInst
import HandS.Walk
import HandS.Flow
import HandS.Style
import PyProof.StrLawsTight
import PyProof.StrLawsChain
import KE.KIntText
import PyProof.Rows.StrItems
import HandS.Conv
import HandS.Star
import KE.KSuper
import HandS.Base
import HandS.Call
import HandS.More
import HandS.Nested
import HandS.ClsMeth
import HandS.List
import HandS.WordsList
import KE.KFromBytes
import HandS.Exc
import HandS.ExcInit
import HandS.ExcSuper
import PyProof.EqAt
import PyProof.EqKinds
import PyProof.TupleCall
import HandS.ExcOwn
import HandS.ExcValue
import HandS.ExcIs
import HandS.ExcField
import HandS.TryOnly
import KE.KLam
import HandS.Comp
import HandS.Text
import HandS.Codes
import HandS.Lambda
import PyProof.CodeObj
import KE.GoesRaise
import KE.KDictList
import HandS.Dict
import HandS.Iter
import PyProof.SumWalkG
import PyProof.WalkInts
import KE.KStateDown
import HandS.Head0
import HandS.Head1
import HandS.Head2
import HandS.Head3
import HandS.HeadHook1
import HandS.HeadHook2
import HandS.HeadHook3
import HandS.HeadHook4
import HandS.HeadWalk
import HandS.HeadEnd
import HandS.EndTab
import PySem.Challenge.RW_nearatonce_k89_texts_of_papers_bent
set_option Elab.async false
set_option linter.all false
set_option maxRecDepth 100000
set_option maxHeartbeats 0
section
namespace Nr
open PySem PySem.W PySem.Calls PyProof.Rows
abbrev R : PySem.W.OpenRow := PySem.W.OpenLaw.row PySem.Challenge.rw_nearatonce_k89_texts_of_papers_bent
abbrev qv : Program := PySem.W.view R.prog [0, 94]
def names0 : List PySem.Str := ["gcd", "is_integer", "NearError", "BadField", "BadClock", "BadWish", "BadValue", "BadNumber", "BadPaper", "BadCommand", "NoName", "Misfit", "Nothing", "BadText", "TooMany", "copied", "Paper", "Denial", "Reach", "Relations", "Nearness", "Classes", "Never", "Hinders", "Moment", "Rounds", "Reached", "Unreached", "RealMoment", "Records"]
def names1 : List PySem.Str := ["Smith", "DIGITS", "MOST_DIGITS", "MOST_SIGNS", "GREAT", "BAR", "is_figures", "is_integer_word", "is_fraction_word", "fraction_of", "Line", "lines_of", "last_line", "MANY", "OPEN", "CLOSE", "BEGIN", "END", "NONE", "TRUTHS", "MOST_DEEP", "made_of_two", "made_of", "is_named", "is_told", "value_words", "paper_words", "is_value_word", "read_value", "read_paper_in"]
def names2 : List PySem.Str := ["has_text", "paper_text", "read_paper", "_law_pen", "_law_draw", "_law_pick", "_law_heard", "_law_tx_figures", "_law_tx_integer", "_law_tx_bent", "_law_tx_many", "_law_tx_value", "_law_tx_paper", "_law_tx_read", "_law_tx_wrong_paper", "_law_tx_some"]
def names : List PySem.Str := names0 ++ names1 ++ names2
noncomputable abbrev run1 (w : World) := HandSHeadRun.wholeF (fun p => HandSHeadRun.stepQ (HandSHeadRun.denQ HandSHeadRun.tabQ) p w) HandSHeadRun.fenceQ 40000 R.prog
end Nr
end
set_option maxHeartbeats 0
section
namespace Nr
open PySem PySem.W PySem.Calls PyProof.Rows
theorem rA_f (w : World) : (run1 (w.withFollow "special-get-raises" false)).map (fun x => HandSHeadRun.looksF R.prog x.1.heap x.2.abs) = some true := by kernel_rfl
end Nr
end
set_option maxHeartbeats 0
section
namespace Nr
open PySem PySem.W PySem.Calls PyProof.Rows
theorem rA_t (w : World) : (run1 (w.withFollow "special-get-raises" true)).map (fun x => HandSHeadRun.looksF R.prog x.1.heap x.2.abs) = some true := by kernel_rfl
end Nr
end
set_option maxHeartbeats 0
section
namespace Nr
open PySem PySem.W PySem.Calls PyProof.Rows
theorem rB_f (w : World) : (run1 (w.withFollow "special-get-raises" false)).map (fun x => HandSHeadRun.seenQ qv names (importedModules R.prog.main.body) (fun s => xlAt qv [] s && recOk R.toRowW.records s) x.2.abs) = some (openGood qv names) := by kernel_rfl
end Nr
end
set_option maxHeartbeats 0
section
namespace Nr
open PySem PySem.W PySem.Calls PyProof.Rows
theorem rB_t (w : World) : (run1 (w.withFollow "special-get-raises" true)).map (fun x => HandSHeadRun.seenQ qv names (importedModules R.prog.main.body) (fun s => xlAt qv [] s && recOk R.toRowW.records s) x.2.abs) = some (openGood qv names) := by kernel_rfl
end Nr
end
section
namespace Nr
open PySem PySem.Spec PyProof.Rows L2 LamX NdefX
def top (i : Nat) : Stmt := PySem.Challenge.pw_nearatonce_k89_texts_of_papers_bent.main.body.getD i (.Pass ⟨0, 0, 0, 0⟩)
def frees : List Str := ["isinstance", "int", "bool", "list", "tuple", "dict", "len", "all", "abs", "str", "range", "sum", "enumerate", "super"]
abbrev sFigs : Stmt := top 52
abbrev sIntW : Stmt := top 53
abbrev sLFigs : Stmt := top 85
abbrev sLInt : Stmt := top 86
abbrev sCopied : Stmt := top 18
abbrev sPaperI : Stmt := inClass (top 19) 0
abbrev sRelI : Stmt := inClass (top 24) 0
abbrev sReachI : Stmt := inClass (top 22) 0
abbrev sNearnessI : Stmt := inClass (top 26) 0
abbrev sClassesI : Stmt := inClass (top 28) 0
abbrev sNeverI : Stmt := inClass (top 30) 0
abbrev sHindersI : Stmt := inClass (top 32) 0
abbrev sMomentI : Stmt := inClass (top 34) 0
abbrev sRoundsI : Stmt := inClass (top 36) 0
abbrev sReachedI : Stmt := inClass (top 38) 0
abbrev sUnreachedI : Stmt := inClass (top 39) 0
abbrev sRealMomentI : Stmt := inClass (top 41) 0
abbrev sRecordsI : Stmt := inClass (top 43) 0
abbrev sSmithI : Stmt := inClass (top 45) 0
abbrev sMade2 : Stmt := top 68
abbrev sMade : Stmt := top 69
abbrev sBTI : Stmt := inClass (top 15) 0
abbrev sLineI : Stmt := inClass (top 56) 0
abbrev sRefuse : Stmt := inClass (top 56) 1
abbrev sAhead : Stmt := inClass (top 56) 2
abbrev sTake : Stmt := inClass (top 56) 3
abbrev sOneOf : Stmt := inClass (top 56) 4
abbrev sEnd : Stmt := inClass (top 56) 8
abbrev sVW : Stmt := top 74
abbrev sRV : Stmt := top 75
abbrev sRP : Stmt := top 76
abbrev sLines : Stmt := top 57
abbrev sLast : Stmt := top 58
abbrev sRead : Stmt := top 79
abbrev sIsInt : Stmt := top 2
abbrev sNamed : Stmt := top 70
abbrev sTold : Stmt := top 71
abbrev sWordsV : Stmt := top 72
abbrev sWordsP : Stmt := top 73
abbrev sHasText : Stmt := top 77
abbrev sPText : Stmt := top 78
abbrev sPen : Stmt := top 81
abbrev sDraw : Stmt := top 82
abbrev sPick : Stmt := top 83
abbrev sHeard : Stmt := top 84
abbrev sMany : Stmt := top 88
abbrev sLRead : Stmt := top 91
abbrev sWrong : Stmt := top 92
abbrev sLVal : Stmt := top 89
abbrev sLPap : Stmt := top 90
abbrev sBent : Stmt := top 87
abbrev sSome : Stmt := top 93
abbrev sLaw : Stmt := top 94
def many (w : Str) : Option Nat :=
  if w = "classes" then some 3 else if w = "hinders" then some 2 else if w = "moment" then some 2 else if w = "nearness" then some 4 else if w = "never" then some 2 else if w = "reach" then some 3
  else if w = "reached" then some 4 else if w = "realmoment" then some 1 else if w = "records" then some 1 else if w = "relations" then some 1 else if w = "rounds" then some 2 else if w = "smith" then some 3
  else if w = "unreached" then some 4 else none
def manyKs : List Str := ["classes", "hinders", "moment", "nearness", "never", "reach", "reached", "realmoment", "records", "relations", "rounds", "smith", "unreached"]
def keyTxtsB : List DictEntry → List Str → Bool
  | [], [] => true
  | e :: es, x :: xs => (match e.key with | .str y _ => y == x | _ => false) && keyTxtsB es xs
  | _, _ => false
end Nr
end
set_option maxHeartbeats 4000000
section
/-! NrHook: the head's facts: where they stand, the looks. -/
namespace Nr
open PySem PySem.Spec PyProof.Rows L2 LamX NdefX He
/-- the part of the heap: the module, the statics, what the module names, codes, names of classes, methods, their codes and cells -/
def valsG (g : Addr → Option Obj) (a : Addr) : List Addr := match g a with
  | some ⟨_, _, .dict es _, _⟩ => es.toList.flatMap fun e => refV e.val
  | _ => []
def stepG (g : Addr → Option Obj) (a : Addr) : List Addr := match g a with
  | some ⟨_, _, .func fd, _⟩ => refV fd.code ++ fd.closure.map (·.2)
  | some ⟨_, _, .cls cd, _⟩ => [cd.ns]
  | _ => []
def asN (g : Addr → Option Obj) : List Addr :=
  let l1 := valsG g mainGlobals
  let l2 := l1.flatMap (stepG g)
  let l3 := l2.flatMap (valsG g)
  mainGlobals :: cStatics :: (l1 ++ (l2 ++ (l3 ++ l3.flatMap (stepG g))))
def papers : List (Str × (Str × List Str)) := [("reach", ("Reach", ["factor", "point", "weights"])), ("relations", ("Relations", ["rows"])), ("nearness", ("Nearness", ["factor", "point", "rows", "tree"])), ("classes", ("Classes", ["number", "rows", "entries"])), ("never", ("Never", ["rows", "tree"])), ("hinders", ("Hinders", ["least", "greatest"])),
  ("moment", ("Moment", ["tick", "turns"])), ("rounds", ("Rounds", ["period", "ticks"])), ("reached", ("Reached", ["near", "number", "tick", "point"])), ("unreached", ("Unreached", ["near", "number", "rows", "entries"])), ("realmoment", ("RealMoment", ["time"])), ("records", ("Records", ["rows"])), ("smith", ("Smith", ["left", "factors", "right"]))]
def nmOf (w : Str) : Str := match papers.lookup w with
  | some (n, _) => n
  | none => "Paper"
def clK (K : PySem.W.Frag) (w : Str) : Addr := ga K (nmOf w)
/-! ### defs with the cell of their class -/
abbrev FnC : Type := Option (Str × Str × Arguments × FuncBody × Scope × Addr × List Str × Addr)
def fnC (K : PySem.W.Frag) (p : Str × Option Str) : FnC := match K.lookup (fAd K p) with
  | some ⟨_, _, .func fd, _⟩ => some (fd.name, fd.qualname, fd.params, fd.body, fd.scope, fd.globals, fd.closure.map (·.1), fd.builtins)
  | _ => none
structure InitD where
  cls : Str
  st : Stmt
def InitD.at_ (d : InitD) : Str × Option Str := (d.cls, some "__init__")
def InitD.qual (d : InitD) : Str := d.cls ++ ".__init__"
def InitD.val (d : InitD) : FnC := some ("__init__", d.qual, defArgs d.st, .stmts (defBody d.st), defScope d.st, mainGlobals, ["__class__"], builtinsNs)
/-- its code, its cell, the file -/
def InitD.ok (K : PySem.W.Frag) (file : Str) (d : InitD) : Bool := match K.lookup (fAd K d.at_) with
  | some ⟨_, _, .func fd, _⟩ => (match fd.defaults, fd.code, fd.closure with
    | .none, .ref cda, [(_, cc)] => PySem.W.codeIn K (.ref cda) d.qual && ((match K.lookup cc with
        | some ⟨_, _, .cell (some (.ref D)), _⟩ => decide (D = ga K d.cls)
        | _ => false) && (match K.lookup cda with
        | some ⟨_, _, .fields vs, _⟩ => (match vs[2]? with
          | some (Value.str f _) => file == f
          | _ => false)
        | _ => false))
    | _, _, _ => false)
  | _ => false
theorem InitD.get {K : PySem.W.Frag} {file : Str} {d : InitD} (e : fnC K d.at_ = d.val) (c : d.ok K file = true) : ∃ (cda cc : Addr) (oc cellc kV doc pm ct : Value) (an od celld : Option Addr) (osl cells : Array (Option Value)) (fd : FuncData),
    fd = PySem.W.fnX "__init__" d.qual (defArgs d.st) (defBody d.st) (defScope d.st) [("__class__", cc)] .none kV doc pm an (.ref cda) ct ∧ K.lookup (fAd K d.at_) = some ⟨oc, od, .func fd, osl⟩ ∧ PySem.W.codeIn K (.ref cda) d.qual = true ∧
    K.lookup cc = some ⟨cellc, celld, .cell (some (.ref (ga K d.cls))), cells⟩ ∧ (∃ a b vs c f tf, K.lookup cda = some ⟨a, b, .fields vs, c⟩ ∧ vs[2]? = some (.str f tf) ∧ (file == f) = true) := by
  unfold InitD.ok at c
  unfold fnC at e
  cases q : K.lookup (fAd K d.at_) with
  | none => rw [q] at c; cases c
  | some o =>
    obtain ⟨oc, od, dt, osl⟩ := o
    rw [q] at c e
    cases dt with
    | func fd =>
      obtain ⟨n1, n2, n3, n4, n5, n6, n7, n8, n9, n10, n11, n12, n13, n14, n15⟩ := fd
      have e2 : (some (n1, n2, n3, n4, n5, n6, n7.map (·.1), n15) : FnC) = some (("__init__" : Str), d.qual, defArgs d.st, FuncBody.stmts (defBody d.st), defScope d.st, mainGlobals, [("__class__" : Str)], builtinsNs) := e
      simp only [Option.some.injEq, Prod.mk.injEq] at e2
      obtain ⟨h1, h2, h3, h4, h5, h6, h7, h8⟩ := e2
      subst h1 h2 h3 h4 h5 h6 h8
      dsimp only at c
      have hdf : n8 = .none := by
        cases n8 with
        | none => rfl
        | _ => cases c
      subst hdf
      cases n13 with
      | ref cda =>
        cases n7 with
        | nil => cases h7
        | cons p r =>
          obtain ⟨x, cc⟩ := p
          cases r with
          | cons _ _ => simp at h7
          | nil =>
            have hx : x = "__class__" := by simpa using h7
            subst hx
            obtain ⟨c1, c2⟩ := ba c
            obtain ⟨c3, c4⟩ := ba c2
            cases q2 : K.lookup cc with
            | none => rw [q2] at c3; cases c3
            | some o2 =>
              obtain ⟨o2c, o2d, o2t, o2s⟩ := o2
              rw [q2] at c3
              cases o2t with
              | cell cv =>
                cases cv with
                | none => cases c3
                | some v =>
                  cases v with
                  | ref D =>
                    have eD : D = ga K d.cls := of_decide_eq_true c3
                    subst eD
                    cases q3 : K.lookup cda with
                    | none => rw [q3] at c4; cases c4
                    | some o3 =>
                      obtain ⟨o3c, o3d, o3t, o3s⟩ := o3
                      rw [q3] at c4
                      cases o3t with
                      | fields vs =>
                        dsimp only at c4
                        cases q4 : vs[2]? with
                        | none => rw [q4] at c4; cases c4
                        | some v4 =>
                          rw [q4] at c4
                          cases v4 with
                          | str f tf => exact ⟨cda, cc, oc, o2c, n9, n10, n11, n14, n12, od, o2d, osl, o2s, _, rfl, rfl, c1, q2, o3c, o3d, vs, o3s, f, tf, q3, q4, c4⟩
                          | _ => cases c4
                      | _ => cases c4
                  | _ => cases c3
              | _ => cases c3
      | _ => cases c
    | _ => cases c
end Nr
end
set_option maxHeartbeats 4000000
section
/-! NrHook2: the head's facts: what is told, the Hook. -/
namespace Nr
open PySem PySem.Spec PyProof.Rows L2 LamX NdefX He
/-! ### an error's class -/
def oexB (K : PySem.W.Frag) (C : Addr) : Bool := match K.lookup C with
  | some ⟨.type t, _, .cls ⟨_, _, mro, _, _, hd, _, _, _, _, del⟩, ⟨[_, _, _, _, some (.builtin n), _]⟩⟩ => decide (t = "type") && (hd && (!del && ((match mro with
    | .ref D :: bm => decide (D = C) && PySem.HandSPX.refsVE bm
    | _ => false) && decide (n = "ValueError.__new__"))))
  | _ => false
theorem oexB_ok {K : PySem.W.Frag} {C : Addr} (h : oexB K C = true) : ∃ nm q N bs bm sn sub ab col dd k0 k1 k2 k3 k5, K.lookup C = some (excClassObj nm q C N bs bm true sn sub ab col dd k0 k1 k2 k3 k5 "ValueError.__new__") ∧ PySem.HandSPX.refsVE bm = true := by
  unfold oexB at h
  split at h
  · rename_i t od nm bs mro N q hd sn sub ab col del k0 k1 k2 k3 n k5 e
    obtain ⟨h1, h⟩ := ba h
    obtain ⟨h2, h⟩ := ba h
    obtain ⟨h3, h⟩ := ba h
    obtain ⟨h4, h5⟩ := ba h
    have e1 : t = "type" := of_decide_eq_true h1
    have e5 : n = "ValueError.__new__" := of_decide_eq_true h5
    have e3 : del = false := by
      cases del with
      | false => rfl
      | true => cases h3
    cases mro with
    | nil => cases h4
    | cons m bm =>
      cases m with
      | ref D =>
        obtain ⟨h6, h7⟩ := ba h4
        have e6 : D = C := of_decide_eq_true h6
        subst e1 e5 e3 e6 h2
        exact ⟨nm, q, N, bs, bm, sn, sub, ab, col, od, k0, k1, k2, k3, k5, e, h7⟩
      | _ => cases h4
  · cases h
def exB2 (K : PySem.W.Frag) (D : Addr) : Bool := decide (PySem.W.findIn K (.ref D) "__getattribute__" = some (some (.builtin "BaseException.__getattribute__"))) && (decide (PySem.W.findIn K (.ref D) "__getattr__" = some none) && (decide (PySem.W.subIn K (.ref D) (.type "BaseException") = some true) && (PySem.W.hasDictIn K D &&
  (decide (PySem.W.findIn K (.ref D) "__class__" = some (some (.builtin "object.__class__"))) && (decide (PySem.W.specialIn K (.builtin "object.__class__") "__get__" = some (some (.builtin "getset_descriptor.__get__"))) && (decide (PySem.W.takesIn K (.builtin "object.__class__") = some true) && decide (PySem.W.mroIn K D (.type "object") = some true)))))))
theorem exB2_ok {K : PySem.W.Frag} {D : Addr} (h : exB2 K D = true) : ExcC K D := by
  obtain ⟨h1, h⟩ := ba h
  obtain ⟨h2, h⟩ := ba h
  obtain ⟨h3, h⟩ := ba h
  obtain ⟨h4, h⟩ := ba h
  obtain ⟨h5, h⟩ := ba h
  obtain ⟨h6, h⟩ := ba h
  obtain ⟨h7, h8⟩ := ba h
  exact ⟨of_decide_eq_true h1, of_decide_eq_true h2, of_decide_eq_true h3, h4, of_decide_eq_true h5, of_decide_eq_true h6, of_decide_eq_true h7, of_decide_eq_true h8⟩
/-! ### a paper's class -/
def papTs : List String := ["list", "tuple", "dict", "bool", "int"]
def papNs : List String := ["NoneType", "bool", "int", "tuple"]
def papB (K : PySem.W.Frag) (C : Addr) (nm : Str) : Bool :=
  let Pp := ga K "Paper"
  let g := ma K Pp "__init__"
  decide (PySem.W.ks_superIn K C C "__init__" = some (some (.ref g))) && ((PySem.W.clsIn K C).isSome && (decide (PySem.W.mroIn K C (.ref C) = some true) && (papTs.all (fun t => decide (PySem.W.kitOne K (.ref C) (.type t) = some false)) && (decide (PySem.W.kitOne K (.ref C) (.ref Pp) = some true) &&
    (decide (PySem.W.findIn K (.ref C) "__class__" = some (some (.builtin "object.__class__"))) && decide (PySem.W.mroIn K C (.type "object") = some true))))))
structure PapB (K : PySem.W.Frag) (C : Addr) : Prop where
  find : PySem.W.ks_superIn K C C "__init__" = some (some (.ref (ma K (ga K "Paper") "__init__")))
  cls : ∃ cd, PySem.W.clsIn K C = some cd
  sub : PySem.W.mroIn K C (.ref C) = some true
  nt : ∀ t ∈ papTs, PySem.W.kitOne K (.ref C) (.type t) = some false
  pp : PySem.W.kitOne K (.ref C) (.ref (ga K "Paper")) = some true
  ca : PySem.W.findIn K (.ref C) "__class__" = some (some (.builtin "object.__class__"))
  ob : PySem.W.mroIn K C (.type "object") = some true
theorem papB_ok {K : PySem.W.Frag} {C : Addr} {nm : Str} (h : papB K C nm = true) : PapB K C := by
  unfold papB at h
  obtain ⟨h1, h⟩ := ba h
  obtain ⟨h2, h⟩ := ba h
  obtain ⟨h3, h⟩ := ba h
  obtain ⟨h4, h⟩ := ba h
  obtain ⟨h5, h⟩ := ba h
  obtain ⟨h6, h7⟩ := ba h
  exact ⟨of_decide_eq_true h1, Option.isSome_iff_exists.mp h2, of_decide_eq_true h3, fun t ht => of_decide_eq_true (List.all_eq_true.mp h4 t ht), of_decide_eq_true h5, of_decide_eq_true h6, of_decide_eq_true h7⟩
/-! ### all -/
def defsN : List (Str × Stmt) := [("copied", sCopied), ("is_figures", sFigs), ("is_integer_word", sIntW), ("lines_of", sLines), ("last_line", sLast), ("made_of_two", sMade2), ("made_of", sMade), ("is_integer", sIsInt), ("is_named", sNamed), ("is_told", sTold), ("value_words", sWordsV), ("paper_words", sWordsP),
  ("is_value_word", sVW), ("read_value", sRV), ("read_paper_in", sRP), ("has_text", sHasText), ("paper_text", sPText), ("read_paper", sRead), ("_law_pen", sPen), ("_law_draw", sDraw), ("_law_pick", sPick), ("_law_heard", sHeard), ("_law_tx_figures", sLFigs), ("_law_tx_integer", sLInt),
  ("_law_tx_bent", sBent), ("_law_tx_many", sMany), ("_law_tx_value", sLVal), ("_law_tx_paper", sLPap), ("_law_tx_read", sLRead), ("_law_tx_wrong_paper", sWrong), ("_law_tx_some", sSome), ("law", sLaw)]
def defN (p : Str × Stmt) : DefD := ⟨(p.1, none), p.1, p.1, defArgs p.2, defBody p.2, defScope p.2, [], []⟩
def methsN : List (Str × (Str × Stmt)) := [("Line", ("__init__", sLineI)), ("Line", ("refuse", sRefuse)), ("Line", ("ahead", sAhead)), ("Line", ("take", sTake)), ("Line", ("one_of", sOneOf)), ("Line", ("end", sEnd)), ("Paper", ("__init__", sPaperI))]
def methN (p : Str × (Str × Stmt)) : DefD := ⟨(p.1, some p.2.1), p.2.1, p.1 ++ "." ++ p.2.1, defArgs p.2.2, defBody p.2.2, defScope p.2.2, [], []⟩
def fnN : List DefD := defsN.map defN ++ methsN.map methN
def initsN : List InitD := [⟨"Reach", sReachI⟩, ⟨"Relations", sRelI⟩, ⟨"Nearness", sNearnessI⟩, ⟨"Classes", sClassesI⟩, ⟨"Never", sNeverI⟩, ⟨"Hinders", sHindersI⟩, ⟨"Moment", sMomentI⟩, ⟨"Rounds", sRoundsI⟩, ⟨"Reached", sReachedI⟩, ⟨"Unreached", sUnreachedI⟩, ⟨"RealMoment", sRealMomentI⟩, ⟨"Records", sRecordsI⟩, ⟨"Smith", sSmithI⟩, ⟨"BadText", sBTI⟩]
def faN : List Fa := frees.map Fa.free ++ ([.str "OPEN" "(", .str "CLOSE" ")", .str "BEGIN" "[", .str "END" "]", .str "NONE" "none", .str "DIGITS" "0123456789", .int "MOST_DEEP" 30, .int "MOST_DIGITS" 40, .int "MOST_SIGNS" 200000, .int "GREAT" (10 ^ 40)] ++
  (defsN.map (fun p => Fa.glo p.1) ++ ((["MANY", "TRUTHS", "Paper", "Line", "BadText", "NearError", "TooMany"] : List Str).map Fa.glo ++ (papers.flatMap (fun p => [Fa.glo p.2.1, .cls p.2.1, .mkr p.2.1, .noat p.2.1 "word", .noat p.2.1 "parts"] ++ p.2.2.map (Fa.noat p.2.1)) ++
    ([.cls "Line", .mkr "Line", .noat "Line" "number", .noat "Line" "words", .noat "Line" "at", .noat "BadText" "line", .noat "BadText" "word", .exm "BadText" "NearError" true] ++ (["refuse", "ahead", "take", "one_of", "end"] : List Str).map (Fa.meth "Line"))))))
def tabN : List Tab := [(fun K => ga K "MANY", manyKs)]
def tfN : List Defn := [("Line", some "one_of"), ("read_value", none), ("law", none)]
def fnTyB (K : PySem.W.Frag) (f : Addr) : Bool := decide (PySem.W.typeIn K (.ref f) = some (.type "function")) && PySem.W.fnIn K f
def exN (K : PySem.W.Frag) : Bool :=
  let CB := ga K "BadText"
  (papers.all fun p => papB K (ga K p.2.1) p.2.1) && (papNs.all (fun t => decide (PySem.W.kitOne K (.type t) (.ref (ga K "Paper")) = some false)) && (fnTyB K (ma K (ga K "Paper") "__init__") && (decide (PySem.W.nsIn K cStatics "thirdparty.any" = some none) &&
  (decide (PySem.W.specialIn K (.builtin "object.__class__") "__get__" = some (some (.builtin "getset_descriptor.__get__"))) && (decide (PySem.W.takesIn K (.builtin "object.__class__") = some true) &&
  ((initsN.all fun d => d.ok K R.prog.main.file) && (oexB K CB && (exB2 K CB && (xfB K CB && (decide (PySem.W.findIn K (.ref CB) "__setattr__" = some (some (.builtin "object.__setattr__"))) && (decide (PySem.W.typeIn K (.ref CB) = some (.type "type")) && (PySem.W.keepIn K (.ref CB) &&
  (decide (PySem.W.ks_superIn K CB CB "__init__" = some (some (.builtin "ValueError.__init__"))) && (decide (PySem.W.mroIn K CB (.type "ValueError") = some true) && ((PySem.W.clsIn K CB).isSome && (decide (PySem.W.mroIn K CB (.ref CB) = some true) &&
  (eqO (PySem.W.findIn K (.ref CB) "__init__") (some (some (.ref (ma K CB "__init__")))) && (decide (PySem.W.typeIn K (.ref (ma K CB "__init__")) = some (.type "function")) && (decide (PySem.W.kitOne K (.ref CB) (.ref (ga K "TooMany")) = some false) && (decide (PySem.W.kitOne K (.ref CB) (.ref CB) = some true) &&
  (tupB K "TRUTHS" [.str "no", .str "yes"] && (valsB K (ga K "MANY") (manyKs.map fun k => (k, Dv.int (((many k).getD 0 : Nat) : Int))) && ((match K.lookup (ga K "MANY") with
    | some ⟨_, _, .dict es _, _⟩ => keyTxtsB es.toList manyKs
    | _ => false) && (tfN.map fun p => (cT K p).2).Nodup)))))))))))))))))))))))
def tabsN (g : Addr → Option Obj) (K : PySem.W.Frag) : Bool := tfN.all fun p => PySem.W.codeHdIn K (cT K p).1 (cT K p).2 && ((K.lookup (cT K p).2).isNone && (match g (cT K p).2 with
  | some o => emptyTab o
  | none => false))
abbrev AlN : Type := AlT × (List FnC × Bool)
def obsN (g : Addr → Option Obj) : AlN := (obsT faN fnN tabN (frG g (asN g)), (initsN.map fun d => fnC (frG g (asN g)) d.at_, exN (frG g (asN g)) && tabsN g (frG g (asN g))))
def valN (w : World) : AlN := (valT fnN tabN w, (initsN.map InitD.val, true))
structure SaysN (w : World) (h : Heap) (K : PySem.W.Frag) : Prop where
  t : SaysT faN fnN tabN w K
  i : ∀ d ∈ initsN, fnC K d.at_ = d.val
  more : exN K = true
  hd : ∀ p ∈ tfN, PySem.W.codeHdIn K (cT K p).1 (cT K p).2 = true
  out : ∀ p ∈ tfN, K.lookup (cT K p).2 = none
  empty : ∀ p ∈ tfN, h.get? (cT K p).2 = some { cls := .none, data := .fields #[] }
theorem map_at {α β : Type} {f g : α → β} : ∀ {l : List α}, l.map f = l.map g → ∀ x ∈ l, f x = g x
  | [], _, x, hx => by cases hx
  | a :: r, e, x, hx => by
    injection e with e1 e2
    rcases List.mem_cons.mp hx with h | h
    · rw [h]; exact e1
    · exact map_at e2 x h
theorem saysN_of {w : World} {h : Heap} (e : obsN h.get? = valN w) : SaysN w h (frG h.get? (asN h.get?)) := by
  have e1 : obsT faN fnN tabN (frG h.get? (asN h.get?)) = valT fnN tabN w := congrArg (fun z : AlN => z.1) e
  have e2 : (initsN.map fun d => fnC (frG h.get? (asN h.get?)) d.at_) = initsN.map InitD.val := congrArg (fun z : AlN => z.2.1) e
  have e3 : (exN (frG h.get? (asN h.get?)) && tabsN h.get? (frG h.get? (asN h.get?))) = true := congrArg (fun z : AlN => z.2.2) e
  obtain ⟨h1, h2⟩ := ba e3
  have key : ∀ p ∈ tfN, PySem.W.codeHdIn (frG h.get? (asN h.get?)) (cT (frG h.get? (asN h.get?)) p).1 (cT (frG h.get? (asN h.get?)) p).2 = true ∧ (frG h.get? (asN h.get?)).lookup (cT (frG h.get? (asN h.get?)) p).2 = none ∧ h.get? (cT (frG h.get? (asN h.get?)) p).2 = some { cls := .none, data := .fields #[] } := fun p hp => by
    obtain ⟨h3, h4⟩ := ba (List.all_eq_true.mp h2 p hp)
    obtain ⟨h5, h6⟩ := ba h4
    refine ⟨h3, Option.isNone_iff_eq_none.mp h5, ?_⟩
    cases q : h.get? (cT (frG h.get? (asN h.get?)) p).2 with
    | none =>
      rw [q] at h6
      cases h6
    | some o =>
      rw [q] at h6
      rw [emptyTab_eq h6]
  exact ⟨e1, map_at e2, h1, fun p hp => (key p hp).1, fun p hp => (key p hp).2.1, fun p hp => (key p hp).2.2⟩
def hookN : PySem.W.Hook where
  α := AlN
  obs := fun s => obsN s.heap.get?
  val := fun w => valN w
  says := fun w h => ∃ K : PySem.W.Frag, K.In h ∧ SaysN w h K
  of := fun _ _ e => ⟨_, frG_in, saysN_of e⟩
  keeps := fun _ _ _ ⟨K, hK, c⟩ k => ⟨K, PySem.W.Frag.In.keeps hK k, ⟨c.t, c.i, c.more, c.hd, c.out, fun p hp => k _ _ (c.empty p hp)⟩⟩
noncomputable def obN (s : PySem.W.SharedT) : AlN := obsN (HandSHeadRun.getT s)
theorem obN_eq (s : PySem.W.SharedT) : obN s = hookN.obs s.abs := by
  have e : HandSHeadRun.getT s = s.abs.heap.get? := funext fun a => HandSHeadRun.getT_eq s a
  show obsN (HandSHeadRun.getT s) = obsN s.abs.heap.get?
  rw [e]
end Nr
end
set_option maxHeartbeats 0
section
namespace Nr
open PySem PySem.W PySem.Calls PyProof.Rows
theorem rC_f (w : World) : (run1 (w.withFollow "special-get-raises" false)).map (fun x => obN x.2) = some (hookN.val (w.withFollow "special-get-raises" false)) := by kernel_rfl
end Nr
end
set_option maxHeartbeats 0
section
namespace Nr
open PySem PySem.W PySem.Calls PyProof.Rows
theorem rC_t (w : World) : (run1 (w.withFollow "special-get-raises" true)).map (fun x => obN x.2) = some (hookN.val (w.withFollow "special-get-raises" true)) := by kernel_rfl
end Nr
end
set_option maxHeartbeats 200000
section
/-! NrMath: papers as data, their words, the reading of words, with no program in sight. -/
namespace Nr
open PySem
/-- a value of a paper's part; a paper by its word -/
inductive D where
  | non | bl (b : Bool) | int (i : Int) | tup (xs : List D) | pap (w : Str) (xs : List D)
/-! ### words of integers -/
def isDig (c : Nat) : Bool := decide (48 ≤ c) && decide (c ≤ 57)
def isFigs (w : Str) : Bool := (decide (1 ≤ w.length) && decide (w.length ≤ 40)) && (!decide (w.cps.toList[0]? = some 48) && w.cps.toList.all isDig)
/-- behind a minus -/
def unMinus (w : Str) : Str := if w.cps.toList[0]? = some 45 then ⟨(w.cps.toList.drop 1).toArray⟩ else w
def isIntW (w : Str) : Bool := decide (w = "0") || isFigs (unMinus w)
def numText (i : Int) : Str := Str.ofString (toString i)
mutual
def D.words : D → List Str
  | .non => ["none"]
  | .bl b => [if b then "yes" else "no"]
  | .int i => [numText i]
  | .tup xs => "(" :: (wordsL xs ++ [(")" : Str)])
  | .pap w xs => "[" :: (w :: wordsL xs ++ [("]" : Str)])
def wordsL : List D → List Str
  | [] => []
  | x :: xs => x.words ++ wordsL xs
end
/-! ### the reading by going down -/
inductive Rd (α : Type) where
  | ok (a : α) (at' : Nat) | bad (e : Nat)
def flat (w : Str) : Option D :=
  if w = "none" then some .non else if w = "no" then some (.bl false) else if w = "yes" then some (.bl true) else if isIntW w then some (.int ((intText? w).getD 0)) else none
section
variable (ws : List Str)
/-- values up to a bracket -/
def readT (rv : Nat → Rd D) : Nat → Nat → List D → Rd (List D)
  | 0, at_, _ => .bad at_
  | n + 1, at_, acc => if ws[at_]? = some (")" : Str) then .ok acc (at_ + 1) else match rv at_ with
    | .bad e => .bad e
    | .ok v a => readT rv n a (acc ++ [v])
/-- so many values -/
def readN (rv : Nat → Rd D) : Nat → Nat → List D → Rd (List D)
  | 0, at_, acc => .ok acc at_
  | k + 1, at_, acc => match rv at_ with
    | .bad e => .bad e
    | .ok v a => readN rv k a (acc ++ [v])
/-- a paper's word and its parts -/
def readP (rv : Nat → Rd D) (at_ : Nat) : Rd D := match ws[at_]? with
  | none => .bad at_
  | some w => match many w with
    | none => .bad at_
    | some k => match readN rv k (at_ + 1) [] with
      | .bad e => .bad e
      | .ok xs a => .ok (.pap w xs) a
/-- a value, b brackets more are let -/
def readV : Nat → Nat → Rd D
  | b, at_ => match ws[at_]? with
    | none => .bad at_
    | some w =>
      if w = "(" then (match b with
        | 0 => .bad at_
        | b + 1 => match readT ws (readV b) (ws.length + 1) (at_ + 1) [] with
          | .bad e => .bad e
          | .ok xs a => .ok (.tup xs) a)
      else if w = "[" then (match b with
        | 0 => .bad at_
        | b + 1 => match readP ws (readV b) (at_ + 1) with
          | .bad e => .bad e
          | .ok p a => if ws[a]? = some ("]" : Str) then .ok p (a + 1) else .bad a)
      else match flat w with
        | some d => .ok d (at_ + 1)
        | none => .bad at_
/-- a line: a paper, and nothing behind it -/
def readL : Rd D := match readP ws (readV ws 30) 0 with
  | .bad e => .bad e
  | .ok p a => if ws.length ≤ a then .ok p a else .bad a
end
/-! ### the reading by a stack -/
/-- what is open: a bracket; a paper that still wants so many parts -/
inductive Fr where
  | par | pap (k : Nat)
/-- what the line itself still wants; what is open, the last first; the word that is next -/
structure Ms where
  k : Nat
  fs : List Fr
  at' : Nat
inductive Mr where
  | go (s : Ms) | done (a : Nat) | bad (e : Nat)
/-- one value more stands there -/
def less (k : Nat) : List Fr → Nat × List Fr
  | [] => (k - 1, [])
  | .par :: r => (k, .par :: r)
  | .pap j :: r => (k, .pap (j - 1) :: r)
def isFlat (w : Str) : Bool := decide (w = "none") || (decide (w = "yes") || (decide (w = "no") || isIntW w))
def isPar : List Fr → Bool
  | .par :: _ => true
  | _ => false
section
variable (ws : List Str)
def stp (s : Ms) : Mr :=
  match s.fs, s.k with
  | [], 0 => .done s.at'
  | .pap 0 :: r, k => if ws[s.at']? = some ("]" : Str) then .go ⟨(less k r).1, (less k r).2, s.at' + 1⟩ else .bad s.at'
  | fs, k => match ws[s.at']? with
    | none => .bad s.at'
    | some w =>
      if w = ")" ∧ isPar fs = true then .go ⟨(less k fs.tail).1, (less k fs.tail).2, s.at' + 1⟩
      else if w = "(" ∧ fs.length < 30 then .go ⟨k, .par :: fs, s.at' + 1⟩
      else if w = "[" ∧ fs.length < 30 then (match ws[s.at' + 1]? with
        | none => .bad (s.at' + 1)
        | some x => match many x with
          | none => .bad (s.at' + 1)
          | some j => .go ⟨k, .pap j :: fs, s.at' + 2⟩)
      else if isFlat w = true then .go ⟨(less k fs).1, (less k fs).2, s.at' + 1⟩
      else .bad s.at'
def runM : Nat → Ms → Mr
  | 0, s => .go s
  | n + 1, s => match stp ws s with
    | .go s' => runM n s'
    | r => r
theorem runM_succ (n : Nat) (s : Ms) : runM ws (n + 1) s = match stp ws s with
    | .go s' => runM ws n s'
    | r => r := rfl
theorem runM_add : ∀ (t n : Nat) (s s' : Ms), runM ws t s = .go s' → runM ws (t + n) s = runM ws n s'
  | 0, n, s, s', h => by
    cases h
    rw [Nat.zero_add]
  | t + 1, n, s, s', h => by
    rw [Nat.succ_add, runM_succ]
    rw [runM_succ] at h
    cases q : stp ws s with
    | go s1 =>
      rw [q] at h
      exact runM_add t n s1 s' h
    | done a => rw [q] at h; cases h
    | bad e => rw [q] at h; cases h
theorem runM_end {r : Mr} (hr : ∀ s, r ≠ .go s) : ∀ (t n : Nat) (s : Ms), runM ws t s = r → runM ws (t + n) s = r
  | 0, n, s, h => absurd h.symm (hr s)
  | t + 1, n, s, h => by
    rw [Nat.succ_add, runM_succ]
    rw [runM_succ] at h
    cases q : stp ws s with
    | go s1 =>
      rw [q] at h
      exact runM_end hr t n s1 h
    | done a => rw [q] at h; exact h
    | bad e => rw [q] at h; exact h
/-- each turn takes a word at least -/
theorem stp_at {s s' : Ms} (h : stp ws s = .go s') : s.at' < s'.at' ∧ s.at' < ws.length := by
  have some_lt : ∀ {i : Nat} {w : Str}, ws[i]? = some w → i < ws.length := fun {i w} e => (List.getElem?_eq_some_iff.mp e).1
  unfold stp at h
  split at h
  · cases h
  · split at h
    · rename_i e
      cases h
      exact ⟨Nat.lt_succ_self _, some_lt e⟩
    · cases h
  · split at h
    · cases h
    · rename_i w e
      have hl := some_lt e
      repeat' (split at h)
      all_goals first
        | (cases h; done)
        | (cases h; refine ⟨?_, hl⟩; show s.at' < s.at' + _; omega)
theorem runM_at : ∀ (t : Nat) (s s' : Ms), runM ws t s = .go s' → s.at' + t ≤ s'.at' ∧ (0 < t → s.at' < ws.length)
  | 0, s, s', h => by
    cases h
    exact ⟨Nat.le_refl _, fun z => absurd z (Nat.lt_irrefl _)⟩
  | t + 1, s, s', h => by
    rw [runM_succ] at h
    cases q : stp ws s with
    | go s1 =>
      rw [q] at h
      obtain ⟨h1, h2⟩ := stp_at ws q
      obtain ⟨h3, _⟩ := runM_at t s1 s' h
      exact ⟨by omega, fun _ => h2⟩
    | done a => rw [q] at h; cases h
    | bad e => rw [q] at h; cases h
/-- so many turns are enough -/
theorem runM_ends (s : Ms) (n : Nat) (hn : ws.length - s.at' < n) : ∀ s', runM ws n s ≠ .go s' := by
  induction n generalizing s with
  | zero => exact absurd hn (Nat.not_lt_zero _)
  | succ n ih =>
    intro s' h
    rw [runM_succ] at h
    cases q : stp ws s with
    | go s1 =>
      rw [q] at h
      obtain ⟨h1, h2⟩ := stp_at ws q
      exact ih s1 (by omega) s' h
    | done a => rw [q] at h; cases h
    | bad e => rw [q] at h; cases h
end
/-! ### both readings are one -/
def Want (k : Nat) : List Fr → Prop
  | [] => 0 < k
  | .par :: _ => True
  | .pap j :: _ => 0 < j
section
variable (ws : List Str)
theorem stp_val {k : Nat} {fs : List Fr} {a : Nat} (h : Want k fs) : stp ws ⟨k, fs, a⟩ = (match ws[a]? with
    | none => .bad a
    | some w =>
      if w = ")" ∧ isPar fs = true then .go ⟨(less k fs.tail).1, (less k fs.tail).2, a + 1⟩
      else if w = "(" ∧ fs.length < 30 then .go ⟨k, .par :: fs, a + 1⟩
      else if w = "[" ∧ fs.length < 30 then (match ws[a + 1]? with
        | none => .bad (a + 1)
        | some x => match many x with
          | none => .bad (a + 1)
          | some j => .go ⟨k, .pap j :: fs, a + 2⟩)
      else if isFlat w = true then .go ⟨(less k fs).1, (less k fs).2, a + 1⟩
      else .bad a) := by
  cases fs with
  | nil =>
    cases k with
    | zero => exact absurd h (Nat.lt_irrefl _)
    | succ k => rfl
  | cons f r =>
    cases f with
    | par => rfl
    | pap j =>
      cases j with
      | zero => exact absurd h (Nat.lt_irrefl _)
      | succ j => rfl
theorem run_one {s s' : Ms} (h : stp ws s = .go s') : runM ws 1 s = .go s' := by
  rw [runM_succ, h]
  rfl
theorem run_bad {s : Ms} {e : Nat} (h : stp ws s = .bad e) : runM ws 1 s = .bad e := by
  rw [runM_succ, h]
theorem flat_is {w : Str} {d : D} (h : flat w = some d) : isFlat w = true := by
  unfold flat at h
  unfold isFlat
  by_cases h1 : w = "none"
  · simp [h1]
  · rw [if_neg h1] at h
    by_cases h2 : w = "no"
    · simp [h2]
    · rw [if_neg h2] at h
      by_cases h3 : w = "yes"
      · simp [h3]
      · rw [if_neg h3] at h
        by_cases h4 : isIntW w = true
        · simp [h4]
        · rw [if_neg h4] at h
          cases h
theorem flat_no {w : Str} (h : flat w = none) : isFlat w = false := by
  unfold flat at h
  unfold isFlat
  by_cases h1 : w = "none"
  · rw [if_pos h1] at h; cases h
  · rw [if_neg h1] at h
    by_cases h2 : w = "no"
    · rw [if_pos h2] at h; cases h
    · rw [if_neg h2] at h
      by_cases h3 : w = "yes"
      · rw [if_pos h3] at h; cases h
      · rw [if_neg h3] at h
        by_cases h4 : isIntW w = true
        · rw [if_pos h4] at h; cases h
        · simp [h1, h2, h3, h4]
/-- what the machine does where readV is at work -/
def RunsAs (r : Rd D) (k : Nat) (fs : List Fr) (a : Nat) : Prop := match r with
  | .ok _ a' => ∃ t, 0 < t ∧ runM ws t ⟨k, fs, a⟩ = .go ⟨(less k fs).1, (less k fs).2, a'⟩
  | .bad e => ∃ t, runM ws t ⟨k, fs, a⟩ = .bad e
def VRuns (b : Nat) : Prop := ∀ (k : Nat) (fs : List Fr) (a : Nat), fs.length + b = 30 → Want k fs → (isPar fs = true → ws[a]? ≠ some (")" : Str)) → RunsAs ws (readV ws b a) k fs a
theorem runT {b : Nat} (V : VRuns ws b) {k : Nat} {fs : List Fr} (hl : fs.length + 1 + b = 30) : ∀ (n a : Nat) (acc : List D), ws.length < a + n →
    match readT ws (readV ws b) n a acc with
    | .ok _ a' => ∃ t, runM ws t ⟨k, .par :: fs, a⟩ = .go ⟨(less k fs).1, (less k fs).2, a'⟩
    | .bad e => ∃ t, runM ws t ⟨k, .par :: fs, a⟩ = .bad e
  | 0, a, acc, hn => by
    have hnone : ws[a]? = none := List.getElem?_eq_none (by omega)
    refine ⟨1, run_bad ws ?_⟩
    rw [stp_val ws (by exact True.intro), hnone]
  | n + 1, a, acc, hn => by
    unfold readT
    by_cases hc : ws[a]? = some (")" : Str)
    · rw [if_pos hc]
      refine ⟨1, run_one ws ?_⟩
      rw [stp_val ws (by exact True.intro), hc]
      exact if_pos ⟨rfl, rfl⟩
    · rw [if_neg hc]
      have v := V k (.par :: fs) a (by rw [List.length_cons]; exact hl) True.intro fun _ => hc
      cases q : readV ws b a with
      | bad e =>
        rw [q] at v
        exact v
      | ok d a1 =>
        rw [q] at v
        obtain ⟨t, ht, hr⟩ := v
        have hr : runM ws t ⟨k, .par :: fs, a⟩ = .go ⟨k, .par :: fs, a1⟩ := hr
        have hlt := (runM_at ws t _ _ hr).1
        have hlt : a + t ≤ a1 := hlt
        have ih := runT V (k := k) (fs := fs) hl n a1 (acc ++ [d]) (by omega)
        dsimp only
        cases q2 : readT ws (readV ws b) n a1 (acc ++ [d]) with
        | ok xs a2 =>
          rw [q2] at ih
          obtain ⟨t2, h2⟩ := ih
          exact ⟨t + t2, by rw [runM_add ws t t2 _ _ hr]; exact h2⟩
        | bad e =>
          rw [q2] at ih
          obtain ⟨t2, h2⟩ := ih
          exact ⟨t + t2, by rw [runM_add ws t t2 _ _ hr]; exact h2⟩
theorem runN {b : Nat} (V : VRuns ws b) {k : Nat} {fs : List Fr} (hl : fs.length + 1 + b = 30) : ∀ (j a : Nat) (acc : List D),
    match readN (readV ws b) j a acc with
    | .ok _ a' => ∃ t, runM ws t ⟨k, .pap j :: fs, a⟩ = .go ⟨k, .pap 0 :: fs, a'⟩
    | .bad e => ∃ t, runM ws t ⟨k, .pap j :: fs, a⟩ = .bad e
  | 0, a, acc => ⟨0, rfl⟩
  | j + 1, a, acc => by
    unfold readN
    have v := V k (.pap (j + 1) :: fs) a (by rw [List.length_cons]; exact hl) (Nat.succ_pos j) (fun z => Bool.noConfusion z)
    cases q : readV ws b a with
    | bad e =>
      rw [q] at v
      exact v
    | ok d a1 =>
      rw [q] at v
      obtain ⟨t, ht, hr⟩ := v
      have hr : runM ws t ⟨k, .pap (j + 1) :: fs, a⟩ = .go ⟨k, .pap j :: fs, a1⟩ := hr
      have ih := runN V (k := k) (fs := fs) hl j a1 (acc ++ [d])
      dsimp only
      cases q2 : readN (readV ws b) j a1 (acc ++ [d]) with
      | ok xs a2 =>
        rw [q2] at ih
        obtain ⟨t2, h2⟩ := ih
        exact ⟨t + t2, by rw [runM_add ws t t2 _ _ hr]; exact h2⟩
      | bad e =>
        rw [q2] at ih
        obtain ⟨t2, h2⟩ := ih
        exact ⟨t + t2, by rw [runM_add ws t t2 _ _ hr]; exact h2⟩
theorem ne_words : (("(" : Str) = ")") = False ∧ (("[" : Str) = ")") = False ∧ (("[" : Str) = "(") = False := by
  refine ⟨?_, ?_, ?_⟩ <;> exact eq_false (by decide +kernel)
theorem runV : ∀ b : Nat, VRuns ws b := by
  intro b
  induction b with
  | zero =>
    intro k fs a hl hw hp
    have hl' : ¬ fs.length < 30 := by omega
    unfold readV
    cases q : ws[a]? with
    | none => exact ⟨1, run_bad ws (by rw [stp_val ws hw, q])⟩
    | some w =>
      dsimp only
      have sv := stp_val ws (a := a) hw
      rw [q] at sv
      dsimp only at sv
      have hnp : ¬ (w = ")" ∧ isPar fs = true) := fun z => hp z.2 (by rw [q, z.1])
      rw [if_neg hnp, if_neg (fun z => hl' z.2), if_neg (fun z => hl' z.2)] at sv
      by_cases h1 : w = "("
      · rw [if_pos h1]
        refine ⟨1, run_bad ws ?_⟩
        rw [sv, if_neg]
        rw [h1]
        decide +kernel
      · rw [if_neg h1]
        by_cases h2 : w = "["
        · rw [if_pos h2]
          refine ⟨1, run_bad ws ?_⟩
          rw [sv, if_neg]
          rw [h2]
          decide +kernel
        · rw [if_neg h2]
          cases f : flat w with
          | some d =>
            rw [if_pos (flat_is f)] at sv
            exact ⟨1, Nat.one_pos, run_one ws sv⟩
          | none =>
            rw [if_neg (by rw [flat_no f]; exact Bool.false_ne_true)] at sv
            exact ⟨1, run_bad ws sv⟩
  | succ b ih =>
    intro k fs a hl hw hp
    have hl' : fs.length < 30 := by omega
    have hl2 : fs.length + 1 + b = 30 := by omega
    unfold readV
    cases q : ws[a]? with
    | none => exact ⟨1, run_bad ws (by rw [stp_val ws hw, q])⟩
    | some w =>
      dsimp only
      have sv := stp_val ws (a := a) hw
      rw [q] at sv
      dsimp only at sv
      have hnp : ¬ (w = ")" ∧ isPar fs = true) := fun z => hp z.2 (by rw [q, z.1])
      rw [if_neg hnp] at sv
      by_cases h1 : w = "("
      · rw [if_pos h1]
        rw [if_pos ⟨h1, hl'⟩] at sv
        have one := run_one ws sv
        have t := runT ws ih (k := k) (fs := fs) hl2 (ws.length + 1) (a + 1) [] (by omega)
        cases q2 : readT ws (readV ws b) (ws.length + 1) (a + 1) [] with
        | ok xs a2 =>
          rw [q2] at t
          obtain ⟨t2, h2⟩ := t
          exact ⟨1 + t2, by omega, by rw [runM_add ws 1 t2 _ _ one]; exact h2⟩
        | bad e =>
          rw [q2] at t
          obtain ⟨t2, h2⟩ := t
          exact ⟨1 + t2, by rw [runM_add ws 1 t2 _ _ one]; exact h2⟩
      · rw [if_neg h1]
        rw [if_neg (fun z => h1 z.1)] at sv
        by_cases h2 : w = "["
        · rw [if_pos h2]
          rw [if_pos ⟨h2, hl'⟩] at sv
          unfold readP
          cases q1 : ws[a + 1]? with
          | none =>
            rw [q1] at sv
            exact ⟨1, run_bad ws sv⟩
          | some x =>
            rw [q1] at sv
            dsimp only at sv ⊢
            cases qm : many x with
            | none =>
              rw [qm] at sv
              exact ⟨1, run_bad ws sv⟩
            | some j =>
              rw [qm] at sv
              have one := run_one ws sv
              have n := runN ws ih (k := k) (fs := fs) hl2 j (a + 1 + 1) []
              dsimp only
              cases q2 : readN (readV ws b) j (a + 1 + 1) [] with
              | bad e =>
                rw [q2] at n
                obtain ⟨t2, h2⟩ := n
                exact ⟨1 + t2, by rw [runM_add ws 1 t2 _ _ one]; exact h2⟩
              | ok xs a2 =>
                rw [q2] at n
                obtain ⟨t2, h2⟩ := n
                have both : runM ws (1 + t2) ⟨k, fs, a⟩ = .go ⟨k, .pap 0 :: fs, a2⟩ := by rw [runM_add ws 1 t2 _ _ one]; exact h2
                dsimp only
                by_cases hc : ws[a2]? = some ("]" : Str)
                · rw [if_pos hc]
                  refine ⟨(1 + t2) + 1, by omega, ?_⟩
                  rw [runM_add ws (1 + t2) 1 _ _ both]
                  refine run_one ws ?_
                  show (if ws[a2]? = some ("]" : Str) then _ else _) = _
                  rw [if_pos hc]
                · rw [if_neg hc]
                  refine ⟨(1 + t2) + 1, ?_⟩
                  rw [runM_add ws (1 + t2) 1 _ _ both]
                  refine run_bad ws ?_
                  show (if ws[a2]? = some ("]" : Str) then _ else _) = _
                  rw [if_neg hc]
        · rw [if_neg h2]
          rw [if_neg (fun z => h2 z.1)] at sv
          cases f : flat w with
          | some d =>
            rw [if_pos (flat_is f)] at sv
            exact ⟨1, Nat.one_pos, run_one ws sv⟩
          | none =>
            rw [if_neg (by rw [flat_no f]; exact Bool.false_ne_true)] at sv
            exact ⟨1, run_bad ws sv⟩
/-- the law's own reading of one value is the program's -/
theorem run_value (a n : Nat) (hn : ws.length + 1 < n) : runM ws n ⟨1, [], a⟩ = match readV ws 30 a with
    | .ok _ a' => .done a'
    | .bad e => .bad e := by
  have v := runV ws 30 1 [] a rfl Nat.one_pos (fun z => Bool.noConfusion z)
  cases q : readV ws 30 a with
  | ok d a' =>
    rw [q] at v
    obtain ⟨t, ht, hr⟩ := v
    have hr : runM ws t ⟨1, [], a⟩ = .go ⟨0, [], a'⟩ := hr
    obtain ⟨h1, h2⟩ := runM_at ws t _ _ hr
    have e : runM ws (t + 1) ⟨1, [], a⟩ = .done a' := by
      rw [runM_add ws t 1 _ _ hr]
      rfl
    have le : t ≤ ws.length := by
      by_cases hz : t ≤ ws.length
      · exact hz
      · exfalso
        exact runM_ends ws ⟨1, [], a⟩ t (by show ws.length - a < t; omega) _ hr
    have := runM_end ws (r := .done a') (fun s z => nomatch z) (t + 1) (n - (t + 1)) _ e
    rw [show t + 1 + (n - (t + 1)) = n by omega] at this
    exact this
  | bad e =>
    rw [q] at v
    obtain ⟨t, hr⟩ := v
    by_cases le : t ≤ n
    · have := runM_end ws (r := .bad e) (fun s z => nomatch z) t (n - t) _ hr
      rw [show t + (n - t) = n by omega] at this
      exact this
    · cases h : runM ws n ⟨1, [], a⟩ with
      | go s => exact absurd h (runM_ends ws _ n (by show ws.length - a < n; omega) s)
      | done a2 =>
        have := runM_end ws (r := .done a2) (fun s z => nomatch z) n (t - n) _ h
        rw [show n + (t - n) = t by omega, hr] at this
        cases this
      | bad e2 =>
        have := runM_end ws (r := .bad e2) (fun s z => nomatch z) n (t - n) _ h
        rw [show n + (t - n) = t by omega, hr] at this
        exact this.symm
end
end Nr
end
set_option maxHeartbeats 200000
section
/-! NrMath2: what is read has just that text; what can be told is read back; lines of texts. -/
namespace Nr
open PySem
/-! ### the law's look -/
section
variable (ws : List Str)
/-- so many values read by the stack, one behind another: where the words end, or the first wrong one -/
def wrongN : Nat → Nat → Nat ⊕ Nat
  | 0, a => .inl a
  | j + 1, a => match readV ws 30 a with
    | .bad e => .inr e
    | .ok _ a' => wrongN j a'
/-- the first word that cannot stand -/
def wrongW : Option Nat := match ws[0]? with
  | none => some 0
  | some w => match many w with
    | none => some 0
    | some k => match wrongN ws k 1 with
      | .inr e => some e
      | .inl a => if a < ws.length then some a else none
theorem wrongN_eq : ∀ (j a : Nat) (acc : List D), wrongN ws j a = match readN (readV ws 30) j a acc with
    | .bad e => .inr e
    | .ok _ a' => .inl a'
  | 0, a, acc => rfl
  | j + 1, a, acc => by
    unfold wrongN readN
    cases q : readV ws 30 a with
    | bad e => rfl
    | ok d a' => exact wrongN_eq j a' (acc ++ [d])
theorem wrongW_eq : wrongW ws = match readL ws with
    | .bad e => some e
    | .ok _ _ => none := by
  unfold wrongW readL readP
  cases h : ws[0]? with
  | none => rfl
  | some w =>
    dsimp only
    cases hm : many w with
    | none => rfl
    | some k =>
      dsimp only
      rw [wrongN_eq ws k 1 []]
      cases q : readN (readV ws 30) k 1 [] with
      | bad e => rfl
      | ok xs a =>
        dsimp only
        by_cases hl : a < ws.length
        · rw [if_pos hl, if_neg (by omega)]
        · rw [if_neg hl, if_pos (by omega)]
end
/-! ### what is read has just that text -/
/-- a word that can be met: its integer is told by itself -/
def GoodW (w : Str) : Prop := isIntW w = true → ∃ n : Int, intText? w = some n ∧ numText n = w ∧ n.natAbs < 10 ^ 40
mutual
/-- a value that can be told within so many brackets -/
def D.told : Nat → D → Prop
  | _, .non => True
  | _, .bl _ => True
  | _, .int i => i.natAbs < 10 ^ 40
  | 0, .tup _ => False
  | b + 1, .tup xs => toldL b xs
  | 0, .pap _ _ => False
  | b + 1, .pap w xs => many w = some xs.length ∧ toldL b xs
def toldL : Nat → List D → Prop
  | _, [] => True
  | b, x :: xs => x.told b ∧ toldL b xs
end
theorem wordsL_append : ∀ xs ys : List D, wordsL (xs ++ ys) = wordsL xs ++ wordsL ys
  | [], ys => by simp [wordsL]
  | x :: xs, ys => by
    rw [List.cons_append, wordsL, wordsL, wordsL_append xs ys, List.append_assoc]
theorem toldL_append {b : Nat} : ∀ {xs ys : List D}, toldL b xs → toldL b ys → toldL b (xs ++ ys)
  | [], ys, _, h => by simpa using h
  | x :: xs, ys, h1, h2 => by
    rw [toldL] at h1
    rw [List.cons_append, toldL]
    exact ⟨h1.1, toldL_append h1.2 h2⟩
section
variable (ws : List Str)
/-- from a word on some words stand there -/
def Seg (a : Nat) (xs : List Str) (a' : Nat) : Prop := a' = a + xs.length ∧ ∀ i, i < xs.length → ws[a + i]? = xs[i]?
theorem Seg.nil (a : Nat) : Seg ws a [] a := ⟨rfl, fun i h => absurd h (Nat.not_lt_zero i)⟩
theorem Seg.one {a : Nat} {w : Str} (h : ws[a]? = some w) : Seg ws a [w] (a + 1) := ⟨rfl, fun i hi => by
  have : i = 0 := by simpa using hi
  subst this
  simpa using h⟩
theorem Seg.append {a b c : Nat} {xs ys : List Str} (h1 : Seg ws a xs b) (h2 : Seg ws b ys c) : Seg ws a (xs ++ ys) c := by
  obtain ⟨e1, f1⟩ := h1
  obtain ⟨e2, f2⟩ := h2
  refine ⟨by rw [List.length_append]; omega, fun i hi => ?_⟩
  rw [List.length_append] at hi
  by_cases hx : i < xs.length
  · rw [f1 i hx, List.getElem?_append_left hx]
  · have e := f2 (i - xs.length) (by omega)
    rw [e1] at e
    rw [List.getElem?_append_right (by omega), ← e]
    congr 1
    omega
/-- what a reading gives: words, and that it can be told -/
def Gives (b a : Nat) (r : Rd D) : Prop := match r with
  | .ok d a' => Seg ws a d.words a' ∧ d.told b
  | .bad _ => True
theorem flat_words {w : Str} (g : GoodW w) {d : D} (h : flat w = some d) : d.words = [w] ∧ ∀ b, d.told b := by
  unfold flat at h
  by_cases h1 : w = "none"
  · rw [if_pos h1] at h
    cases h
    exact ⟨by rw [h1]; rfl, fun b => by cases b <;> exact True.intro⟩
  · rw [if_neg h1] at h
    by_cases h2 : w = "no"
    · rw [if_pos h2] at h
      cases h
      exact ⟨by rw [h2]; rfl, fun b => by cases b <;> exact True.intro⟩
    · rw [if_neg h2] at h
      by_cases h3 : w = "yes"
      · rw [if_pos h3] at h
        cases h
        exact ⟨by rw [h3]; rfl, fun b => by cases b <;> exact True.intro⟩
      · rw [if_neg h3] at h
        by_cases h4 : isIntW w = true
        · rw [if_pos h4] at h
          obtain ⟨n, e1, e2, e3⟩ := g h4
          rw [e1] at h
          cases h
          refine ⟨?_, fun b => ?_⟩
          · show [numText n] = [w]
            rw [e2]
          · cases b <;> exact e3
        · rw [if_neg h4] at h
          cases h
theorem givesT {b : Nat} {rv : Nat → Rd D} (V : ∀ a, Gives ws b a (rv a)) : ∀ (n a : Nat) (acc : List D) (a0 : Nat), Seg ws a0 (wordsL acc) a → toldL b acc →
    match readT ws rv n a acc with
    | .ok xs a' => Seg ws a0 (wordsL xs ++ [(")" : Str)]) a' ∧ toldL b xs
    | .bad _ => True
  | 0, _, _, _, _, _ => True.intro
  | n + 1, a, acc, a0, hs, ht => by
    unfold readT
    by_cases hc : ws[a]? = some (")" : Str)
    · rw [if_pos hc]
      exact ⟨hs.append ws (Seg.one ws hc), ht⟩
    · rw [if_neg hc]
      have v := V a
      cases q : rv a with
      | bad e => exact True.intro
      | ok d a1 =>
        rw [q] at v
        obtain ⟨v1, v2⟩ := v
        refine givesT V n a1 (acc ++ [d]) a0 ?_ (toldL_append ht ⟨v2, True.intro⟩)
        rw [wordsL_append]
        refine hs.append ws ?_
        show Seg ws a (d.words ++ []) a1
        rw [List.append_nil]
        exact v1
theorem givesN {b : Nat} {rv : Nat → Rd D} (V : ∀ a, Gives ws b a (rv a)) : ∀ (j a : Nat) (acc : List D) (a0 : Nat), Seg ws a0 (wordsL acc) a → toldL b acc →
    match readN rv j a acc with
    | .ok xs a' => Seg ws a0 (wordsL xs) a' ∧ toldL b xs ∧ xs.length = acc.length + j
    | .bad _ => True
  | 0, _, _, _, hs, ht => ⟨hs, ht, rfl⟩
  | j + 1, a, acc, a0, hs, ht => by
    unfold readN
    have v := V a
    cases q : rv a with
    | bad e => exact True.intro
    | ok d a1 =>
      rw [q] at v
      obtain ⟨v1, v2⟩ := v
      have z := givesN V j a1 (acc ++ [d]) a0 (by
        rw [wordsL_append]
        refine hs.append ws ?_
        show Seg ws a (d.words ++ []) a1
        rw [List.append_nil]
        exact v1) (toldL_append ht ⟨v2, True.intro⟩)
      dsimp only
      cases q2 : readN rv j a1 (acc ++ [d]) with
      | bad e => exact True.intro
      | ok xs a2 =>
        rw [q2] at z
        obtain ⟨z1, z2, z3⟩ := z
        refine ⟨z1, z2, ?_⟩
        rw [z3, List.length_append]
        show acc.length + 1 + j = acc.length + (j + 1)
        omega
/-- a paper's words -/
def D.line : D → List Str
  | .pap w xs => w :: wordsL xs
  | _ => []
def D.named (b : Nat) : D → Prop
  | .pap w xs => many w = some xs.length ∧ toldL b xs
  | _ => False
theorem givesP {b : Nat} {rv : Nat → Rd D} (V : ∀ a, Gives ws b a (rv a)) (a : Nat) : match readP ws rv a with
    | .ok p a' => Seg ws a p.line a' ∧ p.named b
    | .bad _ => True := by
  unfold readP
  cases h : ws[a]? with
  | none => exact True.intro
  | some w =>
    dsimp only
    cases hm : many w with
    | none => exact True.intro
    | some k =>
      dsimp only
      have z := givesN ws V k (a + 1) [] (a + 1) (Seg.nil ws _) True.intro
      cases q : readN rv k (a + 1) [] with
      | bad e => exact True.intro
      | ok xs a' =>
        rw [q] at z
        obtain ⟨z1, z2, z3⟩ := z
        refine ⟨(Seg.one ws h).append ws z1, ?_, z2⟩
        rw [hm, z3]
        simp
theorem givesV (hg : ∀ w ∈ ws, GoodW w) : ∀ (b a : Nat), Gives ws b a (readV ws b a) := by
  intro b
  induction b with
  | zero =>
    intro a
    unfold readV
    cases q : ws[a]? with
    | none => exact True.intro
    | some w =>
      dsimp only
      by_cases h1 : w = "("
      · rw [if_pos h1]; exact True.intro
      · rw [if_neg h1]
        by_cases h2 : w = "["
        · rw [if_pos h2]; exact True.intro
        · rw [if_neg h2]
          cases f : flat w with
          | none => exact True.intro
          | some d =>
            obtain ⟨e1, e2⟩ := flat_words (hg w (List.mem_of_getElem? q)) f
            exact ⟨by rw [e1]; exact Seg.one ws q, e2 0⟩
  | succ b ih =>
    intro a
    unfold readV
    cases q : ws[a]? with
    | none => exact True.intro
    | some w =>
      dsimp only
      by_cases h1 : w = "("
      · rw [if_pos h1]
        have t := givesT ws ih (ws.length + 1) (a + 1) [] (a + 1) (Seg.nil ws _) True.intro
        cases q2 : readT ws (readV ws b) (ws.length + 1) (a + 1) [] with
        | bad e => exact True.intro
        | ok xs a2 =>
          rw [q2] at t
          exact ⟨(Seg.one ws (by rw [q, h1])).append ws t.1, t.2⟩
      · rw [if_neg h1]
        by_cases h2 : w = "["
        · rw [if_pos h2]
          have p := givesP ws ih (a + 1)
          cases q2 : readP ws (readV ws b) (a + 1) with
          | bad e => exact True.intro
          | ok d a2 =>
            rw [q2] at p
            obtain ⟨p1, p2⟩ := p
            dsimp only
            by_cases hc : ws[a2]? = some ("]" : Str)
            · rw [if_pos hc]
              cases d with
              | pap x xs =>
                refine ⟨?_, p2⟩
                have s1 := (Seg.one ws (a := a) (w := ("[" : Str)) (by rw [q, h2])).append ws (p1.append ws (Seg.one ws hc))
                exact s1
              | non => exact p2.elim
              | bl _ => exact p2.elim
              | int _ => exact p2.elim
              | tup _ => exact p2.elim
            · rw [if_neg hc]; exact True.intro
        · rw [if_neg h2]
          cases f : flat w with
          | none => exact True.intro
          | some d =>
            obtain ⟨e1, e2⟩ := flat_words (hg w (List.mem_of_getElem? q)) f
            exact ⟨by rw [e1]; exact Seg.one ws q, e2 _⟩
/-- a line that is read is the line of what is read -/
theorem readL_line (hg : ∀ w ∈ ws, GoodW w) {p : D} {a : Nat} (h : readL ws = .ok p a) : p.line = ws ∧ p.named 30 := by
  unfold readL at h
  have z := givesP ws (givesV ws hg 30) 0
  cases q : readP ws (readV ws 30) 0 with
  | bad e => rw [q] at h; cases h
  | ok d a1 =>
    rw [q] at h z
    dsimp only at h
    by_cases hl : ws.length ≤ a1
    · rw [if_pos hl] at h
      cases h
      obtain ⟨⟨e1, e2⟩, z2⟩ := z
      refine ⟨?_, z2⟩
      rw [Nat.zero_add] at e1
      apply List.ext_getElem?
      intro i
      by_cases hi : i < p.line.length
      · have := e2 i hi
        rw [Nat.zero_add] at this
        exact this.symm
      · rw [List.getElem?_eq_none (by omega), List.getElem?_eq_none (by omega)]
    · rw [if_neg hl] at h
      cases h
end
end Nr
end
set_option maxHeartbeats 200000
section
/-! NrMath3: what fits is read back; texts of lines. -/
namespace Nr
open PySem
/-! ### what fits is read back -/
mutual
/-- a value that fits within so many brackets, its integers read back -/
def D.fit : Nat → D → Prop
  | _, .non => True
  | _, .bl _ => True
  | _, .int i => flat (numText i) = some (.int i)
  | 0, .tup _ => False
  | b + 1, .tup xs => fitL b xs
  | 0, .pap _ _ => False
  | b + 1, .pap w xs => many w = some xs.length ∧ fitL b xs
def fitL : Nat → List D → Prop
  | _, [] => True
  | b, x :: xs => x.fit b ∧ fitL b xs
end
theorem flat_par : flat "(" = none ∧ flat ")" = none ∧ flat "[" = none ∧ flat "]" = none := by
  refine ⟨?_, ?_, ?_, ?_⟩ <;> (unfold flat; rw [if_neg (by decide +kernel), if_neg (by decide +kernel), if_neg (by decide +kernel), if_neg (by decide +kernel)])
theorem flat_ne {w : Str} {d : D} (h : flat w = some d) : w ≠ "(" ∧ w ≠ ")" ∧ w ≠ "[" ∧ w ≠ "]" := by
  obtain ⟨p1, p2, p3, p4⟩ := flat_par
  refine ⟨fun e => ?_, fun e => ?_, fun e => ?_, fun e => ?_⟩ <;> (rw [e] at h; first | (rw [p1] at h; cases h; done) | (rw [p2] at h; cases h; done) | (rw [p3] at h; cases h; done) | (rw [p4] at h; cases h; done))
theorem flat_non : flat "none" = some .non := if_pos rfl
theorem flat_no_ : flat "no" = some (.bl false) := by unfold flat; rw [if_neg (by decide +kernel), if_pos rfl]
theorem flat_yes : flat "yes" = some (.bl true) := by unfold flat; rw [if_neg (by decide +kernel), if_neg (by decide +kernel), if_pos rfl]
/-- the first word of a value -/
theorem words_head {b : Nat} {d : D} (h : d.fit b) : ∃ w r, d.words = w :: r ∧ w ≠ ")" := by
  cases d with
  | non => exact ⟨"none", [], rfl, (flat_ne flat_non).2.1⟩
  | bl c =>
    cases c with
    | true => exact ⟨"yes", [], rfl, (flat_ne flat_yes).2.1⟩
    | false => exact ⟨"no", [], rfl, (flat_ne flat_no_).2.1⟩
  | int i =>
    have h' : flat (numText i) = some (.int i) := by cases b <;> exact h
    exact ⟨numText i, [], rfl, (flat_ne h').2.1⟩
  | tup xs => exact ⟨"(", _, rfl, by decide +kernel⟩
  | pap w xs => exact ⟨"[", _, rfl, by decide +kernel⟩
section
variable (ws : List Str)
theorem Seg.head {a a' : Nat} {w : Str} {r : List Str} (h : Seg ws a (w :: r) a') : ws[a]? = some w ∧ Seg ws (a + 1) r a' := by
  obtain ⟨e, f⟩ := h
  refine ⟨by simpa using f 0 (by simp), by rw [e, List.length_cons]; omega, fun i hi => ?_⟩
  have := f (i + 1) (by rw [List.length_cons]; omega)
  rw [List.getElem?_cons_succ] at this
  rw [← this]
  congr 1
  omega
theorem Seg.split {a a' : Nat} {xs ys : List Str} (h : Seg ws a (xs ++ ys) a') : Seg ws a xs (a + xs.length) ∧ Seg ws (a + xs.length) ys a' := by
  obtain ⟨e, f⟩ := h
  refine ⟨⟨rfl, fun i hi => ?_⟩, by rw [e, List.length_append]; omega, fun i hi => ?_⟩
  · rw [f i (by rw [List.length_append]; omega), List.getElem?_append_left hi]
  · have := f (xs.length + i) (by rw [List.length_append]; omega)
    rw [List.getElem?_append_right (by omega)] at this
    rw [show xs.length + i - xs.length = i by omega] at this
    rw [← this]
    congr 1
    omega
/-- reads back what fits -/
def Backs (b : Nat) (rv : Nat → Rd D) : Prop := ∀ (d : D) (a a' : Nat), d.fit b → Seg ws a d.words a' → rv a = .ok d a'
theorem backT {b : Nat} {rv : Nat → Rd D} (V : Backs ws b rv) : ∀ (xs : List D) (n a a' : Nat) (acc : List D), fitL b xs → Seg ws a (wordsL xs ++ [(")" : Str)]) a' → ws.length < a + n → readT ws rv n a acc = .ok (acc ++ xs) a'
  | [], n, a, a', acc, _, hs, hn => by
    obtain ⟨h1, h2⟩ := Seg.head ws (show Seg ws a ((")" : Str) :: []) a' from hs)
    have hl := (List.getElem?_eq_some_iff.mp h1).1
    obtain ⟨n, rfl⟩ : ∃ m, n = m + 1 := ⟨n - 1, by omega⟩
    unfold readT
    rw [if_pos h1, List.append_nil]
    have := h2.1
    simp at this
    rw [this]
  | x :: xs, n, a, a', acc, hf, hs, hn => by
    obtain ⟨f1, f2⟩ := (show x.fit b ∧ fitL b xs from hf)
    obtain ⟨w, r, ew, nw⟩ := words_head f1
    have hs' : Seg ws a (x.words ++ (wordsL xs ++ [(")" : Str)])) a' := by
      have := hs
      rw [wordsL, List.append_assoc] at this
      exact this
    obtain ⟨s1, s2⟩ := Seg.split ws hs'
    have h0 : ws[a]? = some w := (Seg.head ws (show Seg ws a (w :: r) _ by rw [← ew]; exact s1)).1
    have hl := (List.getElem?_eq_some_iff.mp h0).1
    obtain ⟨n, rfl⟩ : ∃ m, n = m + 1 := ⟨n - 1, by omega⟩
    have hpos : 0 < x.words.length := by rw [ew, List.length_cons]; omega
    unfold readT
    rw [if_neg (by rw [h0]; exact fun z => nw (Option.some.inj z)), V x a _ f1 s1]
    dsimp only
    rw [backT V xs n (a + x.words.length) a' (acc ++ [x]) f2 s2 (by omega), List.append_assoc]
    rfl
theorem backN {b : Nat} {rv : Nat → Rd D} (V : Backs ws b rv) : ∀ (xs : List D) (a a' : Nat) (acc : List D), fitL b xs → Seg ws a (wordsL xs) a' → readN rv xs.length a acc = .ok (acc ++ xs) a'
  | [], a, a', acc, _, hs => by
    have := hs.1
    simp [wordsL] at this
    rw [this, List.append_nil]
    rfl
  | x :: xs, a, a', acc, hf, hs => by
    obtain ⟨f1, f2⟩ := (show x.fit b ∧ fitL b xs from hf)
    obtain ⟨s1, s2⟩ := Seg.split ws (show Seg ws a (x.words ++ wordsL xs) a' from hs)
    show readN rv (xs.length + 1) a acc = _
    unfold readN
    rw [V x a _ f1 s1]
    dsimp only
    rw [backN V xs (a + x.words.length) a' (acc ++ [x]) f2 s2, List.append_assoc]
    rfl
theorem backP {b : Nat} {rv : Nat → Rd D} (V : Backs ws b rv) {w : Str} {xs : List D} {a a' : Nat} (hm : many w = some xs.length) (hf : fitL b xs) (hs : Seg ws a (w :: wordsL xs) a') : readP ws rv a = .ok (.pap w xs) a' := by
  obtain ⟨h1, h2⟩ := Seg.head ws hs
  unfold readP
  rw [h1]
  dsimp only
  rw [hm]
  dsimp only
  rw [backN ws V xs (a + 1) a' [] hf h2]
  rfl
theorem back_flat {b a a' : Nat} {w : Str} {d : D} (h : flat w = some d) (hs : Seg ws a [w] a') : readV ws b a = .ok d a' := by
  obtain ⟨h1, h2⟩ := Seg.head ws hs
  obtain ⟨n1, _, n2, _⟩ := flat_ne h
  have e := h2.1
  simp at e
  unfold readV
  rw [h1]
  dsimp only
  rw [if_neg n1, if_neg n2, h, e]
theorem backV : ∀ b : Nat, Backs ws b (readV ws b) := by
  intro b
  induction b with
  | zero =>
    intro d a a' hf hs
    cases d with
    | non => exact back_flat ws flat_non hs
    | bl c =>
      cases c with
      | true => exact back_flat ws flat_yes hs
      | false => exact back_flat ws flat_no_ hs
    | int i => exact back_flat ws hf hs
    | tup xs => exact hf.elim
    | pap w xs => exact hf.elim
  | succ b ih =>
    intro d a a' hf hs
    cases d with
    | non => exact back_flat ws flat_non hs
    | bl c =>
      cases c with
      | true => exact back_flat ws flat_yes hs
      | false => exact back_flat ws flat_no_ hs
    | int i => exact back_flat ws hf hs
    | tup xs =>
      obtain ⟨h1, h2⟩ := Seg.head ws (show Seg ws a (("(" : Str) :: (wordsL xs ++ [(")" : Str)])) a' from hs)
      unfold readV
      rw [h1]
      dsimp only
      rw [if_pos rfl, backT ws ih xs (ws.length + 1) (a + 1) a' [] hf h2 (by omega)]
      rfl
    | pap w xs =>
      obtain ⟨h1, h2⟩ := Seg.head ws (show Seg ws a (("[" : Str) :: (w :: wordsL xs ++ [("]" : Str)])) a' from hs)
      obtain ⟨s1, s2⟩ := Seg.split ws h2
      obtain ⟨h3, h4⟩ := Seg.head ws s2
      have e := h4.1
      simp at e
      unfold readV
      rw [h1]
      dsimp only
      rw [if_neg (by decide +kernel), if_pos rfl, backP ws ih hf.1 hf.2 s1]
      dsimp only
      rw [if_pos h3]
      rw [e]
      simp
/-- the line of a paper that fits is read back -/
theorem readL_back {w : Str} {xs : List D} (hm : many w = some xs.length) (hf : fitL 30 xs) (he : ws = w :: wordsL xs) : readL ws = .ok (.pap w xs) ws.length := by
  have hs : Seg ws 0 (w :: wordsL xs) ws.length := by
    rw [← he]
    exact ⟨by omega, fun i _ => by rw [Nat.zero_add]⟩
  unfold readL
  rw [backP ws (backV ws 30) hm hf hs]
  dsimp only
  rw [if_pos (Nat.le_refl _)]
end
/-! ### lines of texts -/
/-- without blank and without line feed -/
def Clean (w : Str) : Prop := 32 ∉ w.cps.toList ∧ 10 ∉ w.cps.toList
theorem join_cons (c : Nat) (x y : Str) (r : List Str) : (Str.join ⟨#[c]⟩ (x :: y :: r)).cps.toList = x.cps.toList ++ c :: (Str.join ⟨#[c]⟩ (y :: r)).cps.toList := by
  show (x ++ (⟨#[c]⟩ : Str) ++ Str.join ⟨#[c]⟩ (y :: r)).cps.toList = _
  rw [Str.cps_append, Str.cps_append, Array.toList_append, Array.toList_append, List.append_assoc]
  rfl
theorem cut_one {c : Nat} : ∀ {a b X Y : List Nat}, c ∉ a → c ∉ b → a ++ c :: X = b ++ c :: Y → a = b ∧ X = Y
  | [], [], X, Y, _, _, h => ⟨rfl, (List.cons.inj h).2⟩
  | [], y :: b, X, Y, _, hb, h => absurd (List.mem_cons.mpr (.inl (List.cons.inj h).1)) hb
  | x :: a, [], X, Y, ha, _, h => absurd (List.mem_cons.mpr (.inl (List.cons.inj h).1.symm)) ha
  | x :: a, y :: b, X, Y, ha, hb, h => by
    obtain ⟨h1, h2⟩ := List.cons.inj h
    obtain ⟨e1, e2⟩ := cut_one (fun z => ha (List.mem_cons_of_mem _ z)) (fun z => hb (List.mem_cons_of_mem _ z)) h2
    exact ⟨by rw [h1, e1], e2⟩
theorem str_of {x y : Str} (h : x.cps.toList = y.cps.toList) : x = y := Str.ext' (Array.toList_inj.mp h)
theorem join_inj (c : Nat) : ∀ (xs ys : List Str), xs ≠ [] → ys ≠ [] → (∀ x ∈ xs, c ∉ x.cps.toList) → (∀ y ∈ ys, c ∉ y.cps.toList) → Str.join ⟨#[c]⟩ xs = Str.join ⟨#[c]⟩ ys → xs = ys
  | [], _, h, _, _, _, _ => absurd rfl h
  | _ :: _, [], _, h, _, _, _ => absurd rfl h
  | [x], [y], _, _, _, _, h => by
    have h' : x = y := h
    rw [h']
  | [x], y :: y' :: s, _, _, hx, _, h => by
    have h1 := congrArg (fun z : Str => z.cps.toList) h
    rw [join_cons c y y' s] at h1
    have h2 : x.cps.toList = y.cps.toList ++ c :: (Str.join ⟨#[c]⟩ (y' :: s)).cps.toList := h1
    refine absurd ?_ (hx x List.mem_cons_self)
    rw [h2]
    exact List.mem_append_right _ List.mem_cons_self
  | x :: x' :: r, [y], _, _, _, hy, h => by
    have h1 := congrArg (fun z : Str => z.cps.toList) h
    rw [join_cons c x x' r] at h1
    have h2 : x.cps.toList ++ c :: (Str.join ⟨#[c]⟩ (x' :: r)).cps.toList = y.cps.toList := h1
    refine absurd ?_ (hy y List.mem_cons_self)
    rw [← h2]
    exact List.mem_append_right _ List.mem_cons_self
  | x :: x' :: r, y :: y' :: s, _, _, hx, hy, h => by
    have h1 := congrArg (fun z : Str => z.cps.toList) h
    rw [join_cons c x x' r, join_cons c y y' s] at h1
    obtain ⟨e1, e2⟩ := cut_one (hx x List.mem_cons_self) (hy y List.mem_cons_self) h1
    have ih := join_inj c (x' :: r) (y' :: s) (by simp) (by simp) (fun z hz => hx z (List.mem_cons_of_mem _ hz)) (fun z hz => hy z (List.mem_cons_of_mem _ hz)) (str_of e2)
    rw [str_of e1, ih]
/-- words joined by a sign are split there again -/
theorem split_join (c : Nat) {ws : List Str} (hn : ws ≠ []) (hc : ∀ w ∈ ws, c ∉ w.cps.toList) : Txt.split (Str.join ⟨#[c]⟩ ws) ⟨#[c]⟩ = ws := by
  refine join_inj c _ _ (fun z => ?_) hn (fun x hx => StrLaws.split_free _ c x hx) hc (StrLaws.join_split _ _)
  have := PyProof.Rows.split_pos (Str.join ⟨#[c]⟩ ws) ⟨#[c]⟩
  rw [z] at this
  exact absurd this (by decide)
theorem join_free {c e : Nat} (hce : c ≠ e) : ∀ {ws : List Str}, (∀ w ∈ ws, e ∉ w.cps.toList) → e ∉ (Str.join ⟨#[c]⟩ ws).cps.toList
  | [], _ => fun h => by
    have : e ∈ (Str.empty).cps.toList := h
    simp [Str.empty] at this
  | [x], hx => hx x List.mem_cons_self
  | x :: y :: r, hx => fun h => by
    rw [join_cons] at h
    rcases List.mem_append.mp h with h | h
    · exact hx x List.mem_cons_self h
    · rcases List.mem_cons.mp h with h | h
      · exact hce h.symm
      · exact join_free hce (ws := y :: r) (fun z hz => hx z (List.mem_cons_of_mem _ hz)) h
end Nr
end
set_option maxHeartbeats 200000
section
/-! NrDef1: the first defs: integers' words. -/
namespace Nr
open PySem PySem.Spec PyProof.Rows L2
/-- built-in names that the program leaves as they are -/
structure GF (mg : Str → Option Value) : Prop where
  f : ∀ x, x ∈ frees → mg x = none
theorem digits_are : ("0123456789" : Str).cps.toList = [48, 49, 50, 51, 52, 53, 54, 55, 56, 57] := by decide +kernel
theorem in_digits (c : Nat) : decide (c ∈ ("0123456789" : Str).cps.toList) = isDig c := by
  rw [digits_are]
  unfold isDig
  by_cases h : 48 ≤ c ∧ c ≤ 57
  · rw [decide_eq_true h.1, decide_eq_true h.2]
    refine decide_eq_true ?_
    simp only [List.mem_cons, List.not_mem_nil, or_false]
    omega
  · have e : (decide (48 ≤ c) && decide (c ≤ 57)) = false := by
      by_cases h1 : 48 ≤ c
      · rw [decide_eq_false (fun q => h ⟨h1, q⟩), Bool.and_false]
      · rw [decide_eq_false h1, Bool.false_and]
    rw [e]
    refine decide_eq_false fun q => ?_
    simp only [List.mem_cons, List.not_mem_nil, or_false] at q
    omega
def spFigs : Sp := fun vs H Q _ => ∃ z : Str, vs = [.str z] ∧ z.length ≤ 1000 ∧ ∀ H', Same H H' → Q (.bl (isFigs z)) H'
section
variable {P : Program} {w : World} {K : PySem.W.Frag} {mg : Str → Option Value} {base : Heap}
theorem scFigs : FnScope ["word", "sign"] ["word"] (defScope sFigs) := ⟨rfl, rfl, rfl, by decide +kernel, rfl, by decide +kernel, by decide +kernel⟩
theorem ok_figs {f : Addr} {fd : FuncData} (F : Fun K "is_figures" "is_figures" sFigs f fd) (G : GF mg) (cD : ∃ t, mg "DIGITS" = some (.str "0123456789" t)) (cM : ∃ t, mg "MOST_DIGITS" = some (.int 40 t)) :
    FnOk P w K mg base CX0 1 f fd ["word"] spFigs := by
  obtain ⟨tD, cD⟩ := cD
  obtain ⟨tM, cM⟩ := cM
  refine F.ok scFigs (fun vs H Q E h => ?_) (fun cdv A outer s H vs Q E hr h => ?_)
  · obtain ⟨z, rfl, _⟩ := h
    rfl
  · obtain ⟨z, rfl, hz, k⟩ := h
    have nd := scFigs.nd
    refine ⟨_, pss_one (ps_ret (pe_and (pe_chain op_le op_le pe_int (pe_callB call_len_str (by rfl) (G.f "len" (by decide +kernel)) PySem.boot_len (pa_cons (pv 0) pa_nil)) (pe_glob (v := .int 40) rfl cM ⟨_, rfl⟩))
      (pe_and (pe_cmpR op_ne (pe_ix ix_str (pv 0) pe_int (fun _ _ => rfl)) pe_str (nomark _))
      (pe_one (pe_callB (cr_all rfl) (by rfl) (G.f "all" (by decide +kernel)) (by decide +kernel) (pa_cons
        (pe_lc (own := [("sign", 1)]) (g := gName 1) (tt := tYes) rfl nd (pi_str (pv 0)) (blkOk_by (N := ["word", "sign"]) (sc := defScope sFigs) (by decide +kernel)) (fun _ _ _ _ _ => pg_name (i := 1) nd rfl (Or.inl rfl)) (fun _ _ _ _ _ => pts_nil)
          (fun _ _ _ _ _ => pe_cmpR op_in_sign (pv 1) (pe_glob (v := .str "0123456789") rfl cD ⟨_, rfl⟩) (by rfl))) pa_nil)))))), ?_⟩
    refine ⟨_, rfl, _, rfl, by show z.length ≤ sizeLine; exact Nat.le_of_lt (small1000 hz), _, _, rfl, rfl, _, rfl, ?_⟩
    by_cases h1 : 1 ≤ z.length
    · rw [decide_eq_true (show (1 : Int) ≤ (z.length : Int) by omega)]
      refine iteT ⟨_, _, rfl, rfl, _, rfl, ?_⟩
      by_cases h2 : z.length ≤ 40
      · rw [decide_eq_true (show (z.length : Int) ≤ 40 by omega)]
        have hlen : z.cps.toList.length = z.length := Array.length_toList
        obtain ⟨c, hc⟩ : ∃ c, z.cps.toList[0]? = some c := ⟨_, List.getElem?_eq_getElem (by omega)⟩
        refine iteT ⟨_, rfl, _, _, c, rfl, rfl, Nat.le_of_lt (small1000 hz), atI_nat (j := 0) hc, rfl, _, rfl, ?_⟩
        by_cases h3 : c = 48
        · have e : (!decide (V.str ⟨#[c]⟩ = V.str "0")) = false := by
            subst h3
            decide +kernel
          rw [e]
          refine iteF (cast ?_ (k H (Same.refl H)))
          have e2 : isFigs z = false := by
            unfold isFigs
            rw [hc, h3]
            simp
          rw [e2]
        · have e : (!decide (V.str ⟨#[c]⟩ = V.str "0")) = true := by
            have : ¬ V.str ⟨#[c]⟩ = V.str "0" := fun q => by
              injection q with q
              have q2 := congrArg (fun x : Str => x.cps.toList) q
              have q3 : [c] = [48] := q2.trans (by decide +kernel)
              exact h3 (List.cons.inj q3).1
            rw [decide_eq_false this]
            rfl
          rw [e]
          refine iteT ⟨_, rfl, _, rfl, fun D hD => lc_it walk_str (fun i H' => H' = upd H D (.lst ((z.cps.toList.take i).map fun c => V.bl (isDig c)))) rfl (fun _ _ _ _ => True.intro) (fun i x H1 H2 hi hP hy => ?_) (fun H' hP => ?_)⟩
          · obtain ⟨rfl, c', hc', rfl⟩ := hy
            subst hP
            refine ⟨rfl, _, rfl, c', _, rfl, rfl, _, upd_same, ?_, ?_⟩
            · rw [List.length_map, List.length_take]
              exact small1000 (by omega)
            · rw [upd_upd]
              have e1 : z.cps.toList.take (i + 1) = z.cps.toList.take i ++ [c'] := by
                rw [List.take_succ, Array.getElem?_toList, hc']
                rfl
              rw [e1, List.map_append]
              rw [in_digits c']
              rfl
          · subst hP
            refine ⟨D, z.cps.toList.map isDig, rfl, SqL.of (by rw [upd_same, List.map_map, List.take_of_length_le (by simp)]; rfl), ?_⟩
            have e2 : isFigs z = (z.cps.toList.map isDig).all id := by
              unfold isFigs
              rw [hc, decide_eq_true h1, decide_eq_true h2, decide_eq_false (fun q => h3 (Option.some.inj q))]
              simp [List.all_map, Function.comp_def]
            rw [← e2]
            exact k _ fun b o hb => by rw [upd_ne (ne_of_none hb hD)]; exact hb
      · rw [decide_eq_false (show ¬ (z.length : Int) ≤ 40 by omega)]
        refine iteF (cast ?_ (k H (Same.refl H)))
        have e2 : isFigs z = false := by
          unfold isFigs
          rw [decide_eq_false h2]
          simp
        rw [e2]
    · rw [decide_eq_false (show ¬ (1 : Int) ≤ (z.length : Int) by omega)]
      refine iteF ⟨_, rfl, iteF (cast ?_ (k H (Same.refl H)))⟩
      have e2 : isFigs z = false := by
        unfold isFigs
        rw [decide_eq_false h1]
        simp
      rw [e2]
/-! ### is_integer_word -/
theorem cut_first (z : Str) : decide (cutS z none (some 1) = "-") = decide (z.cps.toList[0]? = some 45) := by
  have e1 : (cutS z none (some 1)).cps.toList = z.cps.toList.take 1 := by
    show ((z.cps.toList.drop 0).take (min 1 z.length - 0)) = _
    rw [List.drop_zero, Nat.sub_zero]
    have hl : z.cps.toList.length = z.length := Array.length_toList
    cases q : z.cps.toList with
    | nil => simp
    | cons c r =>
      rw [q] at hl
      have : min 1 z.length = 1 := by rw [← hl, List.length_cons]; omega
      rw [this]
  have e2 : ("-" : Str).cps.toList = [45] := by decide +kernel
  by_cases h : z.cps.toList[0]? = some 45
  · rw [decide_eq_true h]
    refine decide_eq_true (str_of ?_)
    rw [e1, e2]
    cases q : z.cps.toList with
    | nil => rw [q] at h; cases h
    | cons c r =>
      rw [q] at h
      have hc : c = 45 := Option.some.inj h
      rw [hc]
      rfl
  · rw [decide_eq_false h]
    refine decide_eq_false fun z0 => h ?_
    have := congrArg (fun x : Str => x.cps.toList) z0
    have e3 : (cutS z none (some 1)).cps.toList = ("-" : Str).cps.toList := this
    rw [e1, e2] at e3
    cases q : z.cps.toList with
    | nil => rw [q] at e3; cases e3
    | cons c r =>
      rw [q] at e3
      have hc : c = 45 := (List.cons.inj e3).1
      rw [hc]
      rfl
theorem cut_rest (z : Str) : cutS z (some 1) none = ⟨(z.cps.toList.drop 1).toArray⟩ := by
  apply str_of
  show ((z.cps.toList.drop (min 1 z.length)).take (z.length - min 1 z.length)) = z.cps.toList.drop 1
  have hl : z.cps.toList.length = z.length := Array.length_toList
  cases q : z.cps.toList with
  | nil => simp
  | cons c r =>
    rw [q] at hl
    have h1 : min 1 z.length = 1 := by rw [← hl, List.length_cons]; omega
    rw [h1]
    refine List.take_of_length_le ?_
    rw [List.length_drop, ← hl]
    exact Nat.le_refl _
def spIntW : Sp := fun vs H Q _ => ∃ z : Str, vs = [.str z] ∧ z.length ≤ 1000 ∧ ∀ H', Same H H' → Q (.bl (isIntW z)) H'
theorem scIntW : FnScope ["word"] ["word"] (defScope sIntW) := ⟨rfl, rfl, rfl, by decide +kernel, rfl, by decide +kernel, by decide +kernel⟩
theorem strEq (a b : Str) : decide (V.str a = V.str b) = decide (a = b) := by
  by_cases h : a = b
  · rw [h, decide_eq_true rfl, decide_eq_true rfl]
  · rw [decide_eq_false h, decide_eq_false fun q => h (V.str.inj q)]
theorem unMinus_len (z : Str) : (unMinus z).length ≤ z.length := by
  unfold unMinus
  split
  · show ((z.cps.toList.drop 1).toArray).size ≤ z.cps.size
    rw [List.size_toArray, List.length_drop, Array.length_toList]
    omega
  · exact Nat.le_refl _
theorem ok_intw {f fF : Addr} {fd fdF : FuncData} (F : Fun K "is_integer_word" "is_integer_word" sIntW f fd) (FF : Fun K "is_figures" "is_figures" sFigs fF fdF) (GG : FnOk P w K mg base CX0 1 fF fdF ["word"] spFigs) (bF : Binds K fdF ["word"] []) (mF : mg "is_figures" = some (.ref fF)) :
    FnOk P w K mg base CX0 2 f fd ["word"] spIntW := by
  refine F.ok scIntW (fun vs H Q E h => ?_) (fun cdv A outer s H vs Q E hr h => ?_)
  · obtain ⟨z, rfl, _⟩ := h
    rfl
  · obtain ⟨z, rfl, hz, k⟩ := h
    refine ⟨_, pss_one (ps_ret (pe_or (pe_cmpR op_eq (pv 0) pe_str (nomark _)) (pe_one (pe_call GG hr rfl mF FF.kp bF .nil pass0
      (pa_cons (pe_ifExp (pt_cmpR op_eq (pe_slice sl_str (pv 0) po_none (po_some pe_int)) pe_str (nomark _)) (pe_slice sl_str (pv 0) (po_some pe_int) po_none) (pv 0)) pa_nil))))), ?_⟩
    refine ⟨_, rfl, rfl, _, rfl, ?_⟩
    rw [strEq]
    by_cases h0 : z = "0"
    · rw [decide_eq_true h0]
      refine iteT (cast ?_ (k H (Same.refl H)))
      have : isIntW z = true := by
        unfold isIntW
        rw [decide_eq_true h0]
        rfl
      rw [this]
    · rw [decide_eq_false h0]
      have e0 : isIntW z = isFigs (unMinus z) := by
        unfold isIntW
        rw [decide_eq_false h0]
        rfl
      refine iteF ?_
      have fin : ∀ u : Str, u = unMinus z → spFigs [.str u] H Q E0 := fun u eu => by
        subst eu
        refine ⟨_, rfl, Nat.le_trans (unMinus_len z) hz, fun H' hs => ?_⟩
        rw [← e0]
        exact k H' hs
      refine ⟨_, rfl, _, rfl, z, rfl, Nat.le_of_lt (small1000 hz), rfl, _, rfl, ?_⟩
      rw [strEq, cut_first]
      by_cases h1 : z.cps.toList[0]? = some 45
      · rw [decide_eq_true h1]
        refine iteT ⟨_, rfl, _, rfl, z, rfl, Nat.le_of_lt (small1000 hz), fin _ ?_⟩
        rw [cut_rest]
        unfold unMinus
        rw [if_pos h1]
      · rw [decide_eq_false h1]
        refine iteF ⟨_, rfl, fin z ?_⟩
        unfold unMinus
        rw [if_neg h1]
end
end Nr
end
set_option maxHeartbeats 200000
section
/-! NrDef1b: the law's own words of integers. -/
namespace Nr
open PySem PySem.Spec PyProof.Rows L2
section
variable {P : Program} {w : World} {K : PySem.W.Frag} {mg : Str → Option Value} {base : Heap}
theorem scLFigs : FnScope ["word", "sign"] ["word"] (defScope sLFigs) := ⟨rfl, rfl, rfl, by decide +kernel, rfl, by decide +kernel, by decide +kernel⟩
theorem eqv_nil (ds : List PyData) : PyData.eqv (.list ds) (.list []) = ds.isEmpty := by
  cases ds <;> simp [PyData.eqv, PyData.eqvAll]
theorem dpAll_str {K : PySem.W.Frag} {H : Hp} : ∀ ys : List Str, DpAll K H (ys.map V.str) (ys.map PyData.str)
  | [] => .nil
  | y :: ys => .cons (.str y) (dpAll_str ys)
theorem strs_lay : ∀ ys : List Str, (∀ y ∈ ys, PyData.strOk y = true) → PyData.canLayAll0 (ys.map PyData.str) = true
  | [], _ => rfl
  | y :: ys, h => by simp [PyData.canLayAll0, PyData.canLay0, strs_lay ys (fun z hz => h z (List.mem_cons_of_mem _ hz)), h y]
theorem strs_depth : ∀ ys : List Str, PyData.depthAll (ys.map PyData.str) ≤ 1
  | [] => by simp [PyData.depthAll]
  | y :: ys => by
    have := strs_depth ys
    simp [PyData.depthAll, PyData.depth] at *
    try omega
theorem shaped_strs (ys : List Str) (h : ∀ y ∈ ys, PyData.strOk y = true) : SeqAt.shaped (.list (ys.map PyData.str)) = true := by
  have := strs_depth ys
  simp [SeqAt.shaped, PyData.canLay0, PyData.depth, strs_lay ys h]
  omega
theorem chr_ok {z : Str} (h : PyData.strOk z = true) {c : Nat} (hc : c ∈ z.cps.toList) : PyData.strOk ⟨#[c]⟩ = true := by
  unfold PyData.strOk at *
  have := Array.all_eq_true_iff_forall_mem.1 h c (Array.mem_toList_iff.1 hc)
  simp at this ⊢
  exact this
theorem filter_nil (l : List Nat) : (l.filter fun c => !isDig c).isEmpty = l.all isDig := by
  induction l with
  | nil => rfl
  | cons c l ih =>
    by_cases h : isDig c = true
    · simp [h, ih]
    · simp [h]
def spLFigs : Sp := fun vs H Q E => ∃ z, vs = [.str z] ∧ z.length ≤ 1000 ∧ PyData.strOk z = true ∧ ∀ H', Same H H' → Q (.bl (isFigs z)) H'
theorem ok_lfigs {f : Addr} {fd : FuncData} (F : Fun K "_law_tx_figures" "_law_tx_figures" sLFigs f fd) (G : GF mg) : FnOk P w K mg base CX0 1 f fd ["word"] spLFigs := by
  refine F.ok scLFigs (fun vs H Q E h => ?_) (fun cdv A outer s H vs Q E hr h => ?_)
  · obtain ⟨z, rfl, _⟩ := h
    rfl
  · obtain ⟨z, rfl, hz, hzo, k⟩ := h
    have nd := scLFigs.nd
    refine ⟨_, pss_one (ps_ret (pe_and (pe_chain op_le op_le pe_int (pe_callB call_len_str (by rfl) (G.f "len" (by decide +kernel)) PySem.boot_len (pa_cons (pv 0) pa_nil)) pe_int)
      (pe_and (pe_cmpR op_ne (pe_ix ix_str (pv 0) pe_int (fun _ _ => rfl)) pe_str (nomark _))
      (pe_one (pe_cmpR (op_eqD hr.units)
        (pe_lc (own := [("sign", 1)]) (g := gName 1) rfl nd (pi_str (pv 0)) (blkOk_by (N := ["word", "sign"]) (sc := defScope sLFigs) (by decide +kernel)) (fun _ _ _ _ _ => pg_name (i := 1) nd rfl (Or.inl rfl))
          (fun _ _ _ _ _ => pts_one (pt_cmpR op_notIn_sign (pv 1) pe_str (by rfl)))
          (fun _ _ _ _ _ => pv 1)) (pe_lst pa_nil) (nomark _)))))), ?_⟩
    refine ⟨_, rfl, _, rfl, by show z.length ≤ sizeLine; exact Nat.le_of_lt (small1000 hz), _, _, rfl, rfl, _, rfl, ?_⟩
    by_cases h1 : 1 ≤ z.length
    · rw [decide_eq_true (show (1 : Int) ≤ (z.length : Int) by omega)]
      refine iteT ⟨_, _, rfl, rfl, _, rfl, ?_⟩
      by_cases h2 : z.length ≤ 40
      · rw [decide_eq_true (show (z.length : Int) ≤ 40 by omega)]
        have hlen : z.cps.toList.length = z.length := Array.length_toList
        obtain ⟨c, hc⟩ : ∃ c, z.cps.toList[0]? = some c := ⟨_, List.getElem?_eq_getElem (by omega)⟩
        refine iteT ⟨_, rfl, _, _, c, rfl, rfl, Nat.le_of_lt (small1000 hz), atI_nat (j := 0) hc, rfl, _, rfl, ?_⟩
        by_cases h3 : c = 48
        · have e : (!decide (V.str ⟨#[c]⟩ = V.str "0")) = false := by
            subst h3
            decide +kernel
          rw [e]
          refine iteF (cast ?_ (k H (Same.refl H)))
          have e2 : isFigs z = false := by
            unfold isFigs
            rw [hc, h3]
            simp
          rw [e2]
        · have e : (!decide (V.str ⟨#[c]⟩ = V.str "0")) = true := by
            have : ¬ V.str ⟨#[c]⟩ = V.str "0" := fun q => by
              injection q with q
              have q2 := congrArg (fun x : Str => x.cps.toList) q
              have q3 : [c] = [48] := q2.trans (by decide +kernel)
              exact h3 (List.cons.inj q3).1
            rw [decide_eq_false this]
            rfl
          rw [e]
          refine iteT ⟨_, rfl, z, rfl, fun D hD => lc_it walk_str (fun i H' => H' = upd H D (.lst (((z.cps.toList.take i).filter fun c => !isDig c).map fun c => V.str ⟨#[c]⟩))) rfl (fun _ _ _ _ => True.intro) (fun i x H1 H2 hi hP hy => ?_) (fun H' hP => ?_)⟩
          · obtain ⟨rfl, c', hc', rfl⟩ := hy
            subst hP
            have e1 : z.cps.toList.take (i + 1) = z.cps.toList.take i ++ [c'] := by
              rw [List.take_succ, Array.getElem?_toList, hc']
              rfl
            refine ⟨rfl, _, rfl, c', _, rfl, rfl, _, rfl, ?_⟩
            rw [in_digits]
            rw [e1, List.filter_append, List.map_append]
            by_cases hd : isDig c' = true
            · rw [hd]
              refine iteF ?_
              simp [hd]
            · have hd' : isDig c' = false := by simpa using hd
              rw [hd']
              refine iteT ⟨_, rfl, _, upd_same, ?_, ?_⟩
              · rw [List.length_map]
                have := List.length_filter_le (fun c => !isDig c) (z.cps.toList.take i)
                rw [List.length_take] at this
                exact small1000 (by omega)
              · rw [upd_upd]
                simp [hd']
          · subst hP
            refine ⟨Nat.zero_le _, fun p hp => ?_⟩
            have hDp : D ≠ p := fun q => by rw [← q, upd_same] at hp; cases hp
            rw [List.take_of_length_le (by simp)]
            refine ⟨_, _, .lst (SqL.of (by rw [upd_ne hDp, upd_same]; exact congrArg (fun l => some (HO.lst l)) (List.map_map (f := fun c => (⟨#[c]⟩ : Str)) (g := V.str)).symm)) (dpAll_str _), .lst (SqL.of upd_same) .nil, ?_, rfl, ?_⟩
            · exact shaped_strs _ fun y hy => by
                obtain ⟨c', hc', rfl⟩ := List.mem_map.1 hy
                exact chr_ok hzo (List.mem_filter.1 hc').1
            · rw [eqv_nil]
              have e2 : isFigs z = (List.map PyData.str (List.map (fun c => (⟨#[c]⟩ : Str)) (z.cps.toList.filter fun c => !isDig c))).isEmpty := by
                rw [List.isEmpty_map, List.isEmpty_map, filter_nil]
                unfold isFigs
                rw [hc, decide_eq_true h1, decide_eq_true h2, decide_eq_false (fun q => h3 (Option.some.inj q))]
                simp
              rw [← e2]
              exact k _ fun b o hb => by
                rw [upd_ne (fun q => by rw [upd_ne hDp.symm, ← q] at hp; rw [hp] at hb; cases hb), upd_ne (ne_of_none hb hD)]
                exact hb
      · rw [decide_eq_false (show ¬ (z.length : Int) ≤ 40 by omega)]
        refine iteF (cast ?_ (k H (Same.refl H)))
        have e2 : isFigs z = false := by
          unfold isFigs
          rw [decide_eq_false h2]
          simp
        rw [e2]
    · rw [decide_eq_false (show ¬ (1 : Int) ≤ (z.length : Int) by omega)]
      refine iteF ⟨_, rfl, iteF (cast ?_ (k H (Same.refl H)))⟩
      have e2 : isFigs z = false := by
        unfold isFigs
        rw [decide_eq_false h1]
        simp
      rw [e2]
theorem scLInt : FnScope ["word"] ["word"] (defScope sLInt) := ⟨rfl, rfl, rfl, by decide +kernel, rfl, by decide +kernel, by decide +kernel⟩
theorem unMinus_ok {z : Str} (h : PyData.strOk z = true) : PyData.strOk (unMinus z) = true := by
  unfold unMinus
  split
  · unfold PyData.strOk at *
    refine Array.all_eq_true_iff_forall_mem.2 fun c hc => ?_
    refine Array.all_eq_true_iff_forall_mem.1 h c ?_
    have := Array.mem_toList_iff.2 hc
    exact Array.mem_toList_iff.1 (List.mem_of_mem_tail (by simpa using this))
  · exact h
def spLInt : Sp := fun vs H Q _ => ∃ z : Str, vs = [.str z] ∧ z.length ≤ 1000 ∧ PyData.strOk z = true ∧ ∀ H', Same H H' → Q (.bl (isIntW z)) H'
theorem ok_lint {f fF : Addr} {fd fdF : FuncData} (F : Fun K "_law_tx_integer" "_law_tx_integer" sLInt f fd) (FF : Fun K "_law_tx_figures" "_law_tx_figures" sLFigs fF fdF) (GG : FnOk P w K mg base CX0 1 fF fdF ["word"] spLFigs) (bF : Binds K fdF ["word"] []) (mF : mg "_law_tx_figures" = some (.ref fF)) :
    FnOk P w K mg base CX0 2 f fd ["word"] spLInt := by
  refine F.ok scLInt (fun vs H Q E h => ?_) (fun cdv A outer s H vs Q E hr h => ?_)
  · obtain ⟨z, rfl, _⟩ := h
    rfl
  · obtain ⟨z, rfl, hz, hzo, k⟩ := h
    refine ⟨_, pss_one (ps_ret (pe_or (pe_cmpR op_eq (pv 0) pe_str (nomark _)) (pe_one (pe_call GG hr rfl mF FF.kp bF .nil pass0
      (pa_cons (pe_ifExp (pt_cmpR op_eq (pe_slice sl_str (pv 0) po_none (po_some pe_int)) pe_str (nomark _)) (pe_slice sl_str (pv 0) (po_some pe_int) po_none) (pv 0)) pa_nil))))), ?_⟩
    refine ⟨_, rfl, rfl, _, rfl, ?_⟩
    rw [strEq]
    by_cases h0 : z = "0"
    · rw [decide_eq_true h0]
      refine iteT (cast ?_ (k H (Same.refl H)))
      have : isIntW z = true := by
        unfold isIntW
        rw [decide_eq_true h0]
        rfl
      rw [this]
    · rw [decide_eq_false h0]
      have e0 : isIntW z = isFigs (unMinus z) := by
        unfold isIntW
        rw [decide_eq_false h0]
        rfl
      refine iteF ?_
      have fin : ∀ u : Str, u = unMinus z → spLFigs [.str u] H Q E0 := fun u eu => by
        subst eu
        refine ⟨_, rfl, Nat.le_trans (unMinus_len z) hz, unMinus_ok hzo, fun H' hs => ?_⟩
        rw [← e0]
        exact k H' hs
      refine ⟨_, rfl, _, rfl, z, rfl, Nat.le_of_lt (small1000 hz), rfl, _, rfl, ?_⟩
      rw [strEq, cut_first]
      by_cases h1 : z.cps.toList[0]? = some 45
      · rw [decide_eq_true h1]
        refine iteT ⟨_, rfl, _, rfl, z, rfl, Nat.le_of_lt (small1000 hz), fin _ ?_⟩
        rw [cut_rest]
        unfold unMinus
        rw [if_pos h1]
      · rw [decide_eq_false h1]
        refine iteF ⟨_, rfl, fin z ?_⟩
        unfold unMinus
        rw [if_neg h1]
end
end Nr
end
set_option maxHeartbeats 200000
section
/-! NrHas: a value's trace in the heap. -/
namespace Nr
open PySem PySem.Spec PyProof.Rows L2
mutual
/-- v stands for the data -/
def D.has (cl : Str → Addr) (H : Hp) : D → V → Prop
  | .non, v => v = .non
  | .bl b, v => v = .bl b
  | .int i, v => v = .int i
  | .tup xs, v => ∃ a vs, v = .ref a ∧ H a = some (.tup vs) ∧ hasL cl H xs vs
  | .pap w xs, v => ∃ a dx fs t vs, v = .ref a ∧ H a = some (.ins (cl w) dx fs) ∧ fs.lookup ("word" : Str) = some (V.str w) ∧ fs.lookup ("parts" : Str) = some (V.ref t) ∧ H t = some (.tup vs) ∧ hasL cl H xs vs
def hasL (cl : Str → Addr) (H : Hp) : List D → List V → Prop
  | [], vs => vs = []
  | x :: xs, vs => ∃ v r, vs = v :: r ∧ x.has cl H v ∧ hasL cl H xs r
end
/-- what a trace leans on -/
def isVal (cl : Str → Addr) (o : HO) : Prop := (∃ vs, o = .tup vs) ∨ ∃ w dx fs, o = .ins (cl w) dx fs ∧ (fs.lookup ("parts" : Str)).isSome = true
def Kept (cl : Str → Addr) (H H' : Hp) : Prop := ∀ b o, H b = some o → isVal cl o → H' b = some o
section
variable {cl : Str → Addr} {H H' H'' : Hp}
theorem Kept.refl (H : Hp) : Kept cl H H := fun _ _ h _ => h
theorem Kept.trans (h1 : Kept cl H H') (h2 : Kept cl H' H'') : Kept cl H H'' := fun b o h v => h2 b o (h1 b o h v) v
theorem Kept.of (h : Same H H') : Kept cl H H' := fun b o z _ => h b o z
mutual
theorem D.has_kept (k : Kept cl H H') : ∀ (d : D) {v : V}, d.has cl H v → d.has cl H' v
  | .non, _, h => h
  | .bl _, _, h => h
  | .int _, _, h => h
  | .tup xs, _, ⟨a, vs, e, ha, h⟩ => ⟨a, vs, e, k _ _ ha (.inl ⟨_, rfl⟩), hasL_kept k xs h⟩
  | .pap w xs, _, ⟨a, dx, fs, t, vs, e, ha, h1, h2, ht, h⟩ => ⟨a, dx, fs, t, vs, e, k _ _ ha (.inr ⟨_, _, _, rfl, by rw [h2]; rfl⟩), h1, h2, k _ _ ht (.inl ⟨_, rfl⟩), hasL_kept k xs h⟩
theorem hasL_kept (k : Kept cl H H') : ∀ (xs : List D) {vs : List V}, hasL cl H xs vs → hasL cl H' xs vs
  | [], _, h => h
  | x :: xs, _, ⟨v, r, e, h1, h2⟩ => ⟨v, r, e, D.has_kept k x h1, hasL_kept k xs h2⟩
end
theorem hasL_len : ∀ {xs : List D} {vs : List V}, hasL cl H xs vs → vs.length = xs.length
  | [], _, h => by rw [show _ = [] from h]; rfl
  | x :: xs, _, ⟨v, r, e, h1, h2⟩ => by rw [e, List.length_cons, List.length_cons, hasL_len h2]
theorem hasL_at : ∀ {xs : List D} {vs : List V} {i : Nat} {v : V}, hasL cl H xs vs → vs[i]? = some v → ∃ x, xs[i]? = some x ∧ x.has cl H v
  | [], _, i, v, h, e => by rw [show _ = [] from h] at e; cases e
  | x :: xs, _, 0, v, ⟨u, r, e, h1, h2⟩, q => by
    subst e
    cases q
    exact ⟨x, rfl, h1⟩
  | x :: xs, _, i + 1, v, ⟨u, r, e, h1, h2⟩, q => by
    subst e
    exact hasL_at (xs := xs) (i := i) h2 q
theorem hasL_append : ∀ {xs ys : List D} {vs us : List V}, hasL cl H xs vs → hasL cl H ys us → hasL cl H (xs ++ ys) (vs ++ us)
  | [], ys, _, us, h1, h2 => by rw [show _ = [] from h1]; exact h2
  | x :: xs, ys, _, us, ⟨v, r, e, h1, h2⟩, h3 => by subst e; exact ⟨v, r ++ us, rfl, h1, hasL_append h2 h3⟩
theorem hasL_one {x : D} {v : V} (h : x.has cl H v) : hasL cl H [x] [v] := ⟨v, [], rfl, h, rfl⟩
end
mutual
/-- so wide are its tuples -/
def D.wide : D → Prop
  | .tup xs => xs.length ≤ 1000 ∧ wideL xs
  | .pap _ xs => wideL xs
  | _ => True
def wideL : List D → Prop
  | [] => True
  | x :: xs => x.wide ∧ wideL xs
end
theorem wideL_at : ∀ {xs : List D} {i : Nat} {x : D}, wideL xs → xs[i]? = some x → x.wide
  | [], i, x, _, e => by cases e
  | y :: ys, 0, x, h, e => by cases e; exact (show _ ∧ _ from by rw [wideL] at h; exact h).1
  | y :: ys, i + 1, x, h, e => wideL_at (xs := ys) (i := i) (show _ ∧ _ from by rw [wideL] at h; exact h).2 e
theorem toldL_at : ∀ {b : Nat} {xs : List D} {i : Nat} {x : D}, toldL b xs → xs[i]? = some x → x.told b
  | b, [], i, x, _, e => by cases e
  | b, y :: ys, 0, x, h, e => by cases e; exact (show _ ∧ _ from by rw [toldL] at h; exact h).1
  | b, y :: ys, i + 1, x, h, e => toldL_at (xs := ys) (i := i) (show _ ∧ _ from by rw [toldL] at h; exact h).2 e
end Nr
end
set_option maxHeartbeats 200000
section
/-! NrCopy: copied. -/
namespace Nr
open PySem PySem.Spec PyProof.Rows L2
/-- the paper classes, as the head leaves them -/
structure Pap (K : PySem.W.Frag) (Pp : Addr) (cl : Str → Addr) : Prop where
  ty : ∀ w, (many w).isSome = true → ∀ H a dx fs, H a = some (.ins (cl w) dx fs) → TyOf K H (.ref a) (.ref (cl w))
  nt : ∀ w, (many w).isSome = true → ∀ t ∈ ["list", "tuple", "dict", "bool", "int"], PySem.W.kitOne K (.ref (cl w)) (.type t) = some false
  pp : ∀ w, (many w).isSome = true → PySem.W.kitOne K (.ref (cl w)) (.ref Pp) = some true
  np : ∀ t ∈ ["NoneType", "bool", "int", "tuple"], PySem.W.kitOne K (.type t) (.ref Pp) = some false
/-- papers within are papers -/
def D.good : D → Prop
  | .pap w xs => (many w).isSome = true
  | _ => True
/-- the type of a value -/
def tyD (cl : Str → Addr) : D → Value
  | .non => .type "NoneType"
  | .bl _ => .type "bool"
  | .int _ => .type "int"
  | .tup _ => .type "tuple"
  | .pap w _ => .ref (cl w)
section
variable {K : PySem.W.Frag} {Pp : Addr} {cl : Str → Addr} {H : Hp}
theorem Pap.tyOf (p : Pap K Pp cl) {d : D} {v : V} (h : d.has cl H v) (g : d.good) : TyOf K H v (tyD cl d) := by
  cases d with
  | non => rw [show v = .non from h]; exact .non
  | bl b => rw [show v = .bl b from h]; exact .bl b
  | int i => rw [show v = .int i from h]; exact .int i
  | tup xs => obtain ⟨a, vs, e, ha, _⟩ := h; rw [e]; exact .tup ha
  | pap w xs => obtain ⟨a, dx, fs, t, vs, e, ha, _⟩ := h; rw [e]; exact p.ty w g H a dx fs ha
/-- is it a tuple (or a list)? -/
def D.isTup : D → Bool
  | .tup _ => true
  | _ => false
theorem Pap.kitLT (p : Pap K Pp cl) {d : D} (g : d.good) : PySem.W.kitAny K (tyD cl d) [.type "list", .type "tuple"] = some d.isTup := by
  cases d with
  | non => exact kitAny_cons (kit_ty (b := "list") (r := false) (by decide +kernel)) (fun _ => kitAny_cons (kit_ty (b := "tuple") (r := false) (by decide +kernel)) (fun _ => kitAny_nil) (fun q => nomatch q)) (fun q => nomatch q)
  | bl b => exact kitAny_cons (kit_ty (b := "list") (r := false) (by decide +kernel)) (fun _ => kitAny_cons (kit_ty (b := "tuple") (r := false) (by decide +kernel)) (fun _ => kitAny_nil) (fun q => nomatch q)) (fun q => nomatch q)
  | int i => exact kitAny_cons (kit_ty (b := "list") (r := false) (by decide +kernel)) (fun _ => kitAny_cons (kit_ty (b := "tuple") (r := false) (by decide +kernel)) (fun _ => kitAny_nil) (fun q => nomatch q)) (fun q => nomatch q)
  | tup xs => exact kitAny_cons (kit_ty (b := "list") (r := false) (by decide +kernel)) (fun _ => kitAny_cons (kit_ty (b := "tuple") (r := true) (by decide +kernel)) (fun q => nomatch q) (fun _ => rfl)) (fun q => nomatch q)
  | pap w xs => exact kitAny_cons (p.nt w g "list" (by decide)) (fun _ => kitAny_cons (p.nt w g "tuple" (by decide)) (fun _ => kitAny_nil) (fun q => nomatch q)) (fun q => nomatch q)
theorem Pap.kitD (p : Pap K Pp cl) {d : D} (g : d.good) : PySem.W.kitOne K (tyD cl d) (.type "dict") = some false := by
  cases d with
  | non => exact kit_ty (by decide +kernel)
  | bl b => exact kit_ty (by decide +kernel)
  | int i => exact kit_ty (by decide +kernel)
  | tup xs => exact kit_ty (by decide +kernel)
  | pap w xs => exact p.nt w g "dict" (by decide)
end
theorem kept_lst {cl : Str → Addr} {H : Hp} {D : Addr} {a : List V} {o : HO} (h : H D = some (.lst a)) : Kept cl H (upd H D o) := fun b u hb hv => by
  by_cases e : b = D
  · subst e
    rw [h] at hb
    cases hb
    rcases hv with ⟨vs, q⟩ | ⟨w, dx, fs, q, _⟩ <;> cases q
  · rw [upd_ne e]
    exact hb
theorem same_new {H H' : Hp} {D : Addr} {o : HO} (h : Same H H') (n : H D = none) : Same H (upd H' D o) := fun b u hb => by
  rw [upd_ne (ne_of_none hb n)]
  exact h b u hb
theorem same_none {H H' : Hp} (h : Same H H') {D : Addr} (n : H' D = none) : H D = none := by
  cases q : H D with
  | none => rfl
  | some o => rw [h _ _ q] at n; cases n
theorem told_good {b : Nat} {d : D} (h : d.told b) : d.good := by
  cases d with
  | pap w xs =>
    cases b with
    | zero => exact h.elim
    | succ b => exact (show (many w).isSome = true by rw [(show _ ∧ _ from h).1]; rfl)
  | _ => trivial
def spCopied (cl : Str → Addr) (b : Nat) : Sp := fun vs H Q _ => ∃ (d : D) (v : V), vs = [v] ∧ d.has cl H v ∧ d.told b ∧ d.wide ∧ ∀ v' H', Same H H' → d.has cl H' v' → Q v' H'
section
variable {P : Program} {w : World} {K : PySem.W.Frag} {mg : Str → Option Value} {base : Heap} {Pp : Addr} {cl : Str → Addr}
theorem scCopied : FnScope ["value", "one"] ["value"] (defScope sCopied) := ⟨rfl, rfl, rfl, by decide +kernel, rfl, by decide +kernel, by decide +kernel⟩
def spC (cl : Str → Addr) (b : Nat) : Sp := fun vs H Q E => ∃ b', b = b' + 1 ∧ spCopied cl b' vs H Q E
theorem ok_copied {f : Addr} {fd : FuncData} (p : Pap K Pp cl) (F : Fun K "copied" "copied" sCopied f fd) (G : GF mg) (bF : Binds K fd ["value"] []) (mF : mg "copied" = some (.ref f)) :
    ∀ b, FnOk P w K mg base CX0 b f fd ["value"] (spC cl b) := by
  intro b
  induction b with
  | zero => exact ⟨fun _ _ _ _ ⟨_, e, _⟩ => (nomatch e), fun _ _ _ _ _ _ _ _ _ _ _ _ _ ⟨_, e, _⟩ => (nomatch e)⟩
  | succ b ih =>
    refine F.ok scCopied (fun vs H Q E h => ?_) (fun cdv A outer s H vs Q E hr h => ?_)
    · obtain ⟨_, _, d, v, rfl, _⟩ := h
      rfl
    · obtain ⟨b', eb, d, v, rfl, hv, ht, hw, k⟩ := h
      obtain rfl : b = b' := by omega
      have nd := scCopied.nd
      refine ⟨_, pss_cons (ps_if (pt_val (pe_callB call_isiT (by rfl) (G.f "isinstance" (by decide +kernel)) PyProof.Rows.boot_isinstance (pa_cons (pv 0) (pa_cons (pe_tup (pa_cons (pe_bltn (v := .ty "list") (u := .type "list") (by rfl) (G.f "list" (by decide +kernel)) (by decide +kernel) rfl) (pa_cons (pe_bltn (v := .ty "tuple") (u := .type "tuple") (by rfl) (G.f "tuple" (by decide +kernel)) (by decide +kernel) rfl) pa_nil))) pa_nil))))
          (pss_one (ps_ret (pe_tupleOf (by rfl) (G.f "tuple" (by decide +kernel)) (pe_lc (own := [("one", 1)]) (g := gName 1) (tt := tYes) rfl nd (pi_tup (pv 0)) (blkOk_by (N := ["value", "one"]) (sc := defScope sCopied) (by decide +kernel)) (fun _ _ _ _ _ => pg_name (i := 1) nd rfl (Or.inl rfl)) (fun _ _ _ _ _ => pts_nil)
            (fun _ _ _ _ _ => pe_call ih hr rfl mF F.kp bF .nil pass0 (pa_cons (pv 1) pa_nil)))))) pss_nil)
        (pss_cons (ps_if (pt_val (pe_callB call_isi (by rfl) (G.f "isinstance" (by decide +kernel)) PyProof.Rows.boot_isinstance (pa_cons (pv 0) (pa_cons (pe_bltn (v := .ty "dict") (u := .type "dict") (by rfl) (G.f "dict" (by decide +kernel)) (by decide +kernel) rfl) pa_nil)))) pss_never pss_nil)
        (pss_one (ps_ret (pv 0)))), ?_⟩
      refine ⟨_, rfl, by decide, fun q hq => ?_⟩
      have s1 : Same H (upd H q (.tup [.ty "list", .ty "tuple"])) := same_new (Same.refl H) hq
      have hv1 := D.has_kept (cl := cl) (Kept.of s1) d hv
      have hg := told_good ht
      refine ⟨_, q, _, _, _, _, rfl, upd_same, .cons (.ty _) (.cons (.ty _) .nil), .base (p.tyOf hv1 hg), p.kitLT hg, ?_⟩
      by_cases e : d.isTup = true
      · rw [e]
        cases d with
        | tup xs =>
          obtain ⟨a, us, rfl, ha, hl⟩ := hv1
          have hlen := hasL_len hl
          have hw' : xs.length ≤ 1000 ∧ wideL xs := hw
          obtain ⟨b, rfl⟩ : ∃ c, b = c + 1 := by
            cases b with
            | zero => exact ht.elim
            | succ c => exact ⟨c, rfl⟩
          have ht' : toldL b xs := ht
          refine ⟨_, rfl, iteT ⟨_, rfl, a, rfl, ⟨us, SqT.of ha⟩, fun D hD => lc_it (walk_tup (xs := us)) (fun i H' => ∃ acc, H' D = some (.lst acc) ∧ acc.length = i ∧ hasL cl H' (xs.take i) acc ∧ Same (upd H q (.tup [.ty "list", .ty "tuple"])) H') ⟨[], upd_same, rfl, rfl, same_new (Same.refl _) hD⟩ (fun i H' hi hP => ?_) (fun i x H1 H2 hi hP hy => ?_) (fun H' hP => ?_)⟩⟩
          · obtain ⟨_, _, _, _, hs⟩ := hP
            exact SqT.of (hs _ _ ha)
          · obtain ⟨rfl, hx⟩ := hy
            obtain ⟨acc, hD1, hn, hacc, hs⟩ := hP
            obtain ⟨y, hy, hyv⟩ := hasL_at hl hx
            refine ⟨rfl, _, rfl, b, rfl, y, x, rfl, Nr.D.has_kept (Kept.of hs) y hyv, toldL_at ht' hy, wideL_at hw'.2 hy, fun v' H3 hs3 hv3 => ?_⟩
            have hD3 := hs3 _ _ hD1
            refine ⟨acc, hD3, ?_, acc ++ [v'], upd_same, ?_, ?_, same_new (fun b o hb => hs3 b o (hs b o hb)) hD⟩
            · rw [hn]
              have : us.length ≤ 1000 := by omega
              exact small1000 (by omega)
            · rw [List.length_append, hn]
              rfl
            · have : xs.take (i + 1) = xs.take i ++ [y] := by
                rw [List.take_succ, hy]
                rfl
              rw [this]
              exact hasL_kept (kept_lst hD3) _ (hasL_append (hasL_kept (Kept.of hs3) _ hacc) (hasL_one hv3))
          · obtain ⟨acc, hD1, hn, hacc, hs⟩ := hP
            refine .inl ⟨D, acc, rfl, SqL.of hD1, fun r hr => ?_⟩
            rw [hlen, List.take_length] at hacc
            have s3 : Same H' (upd H' r (.tup acc)) := same_new (Same.refl _) hr
            exact k _ _ (fun b o hb => s3 b o (hs b o (s1 b o hb))) ⟨r, acc, rfl, upd_same, hasL_kept (Kept.of s3) _ hacc⟩
        | non => cases e
        | bl c => cases e
        | int i => cases e
        | pap w' xs => cases e
      · have e' : d.isTup = false := by simpa using e
        rw [e']
        refine ⟨_, rfl, iteF ⟨_, rfl, _, _, _, _, _, rfl, .ty _, .base (p.tyOf hv1 hg), p.kitD hg, _, rfl, iteF ⟨_, rfl, k _ _ s1 hv1⟩⟩⟩
end
end Nr
end
set_option maxHeartbeats 200000
section
/-! NrPaper: Paper.__init__. -/
namespace Nr
open PySem PySem.Spec PyProof.Rows L2
def Off (x : Addr) (H H' : Hp) : Prop := ∀ b o, b ≠ x → H b = some o → H' b = some o
def spPI (cl : Str → Addr) (K : PySem.W.Frag) (b : Nat) : Sp := fun vs H Q _ => ∃ (x t C dx : Addr) (w : Str) (xs : List D) (us : List V), vs = [.ref x, .str w, .ref t] ∧ H x = some (.ins C dx []) ∧ H t = some (.tup us) ∧ hasL cl H xs us ∧ toldL b xs ∧ xs.length ≤ 1000 ∧ wideL xs ∧
  Cls K C ∧ NoAttr K C "word" ∧ NoAttr K C "parts" ∧ ∀ t' us' H', Off x H H' → H' x = some (.ins C dx [("word", .str w), ("parts", .ref t')]) → H' t' = some (.tup us') → (∀ H'', Off x H' H'' → hasL cl H'' xs us') → Q .non H'
section
variable {P : Program} {w : World} {K : PySem.W.Frag} {mg : Str → Option Value} {base : Heap} {Pp : Addr} {cl : Str → Addr}
theorem nox_ex {X : Cx} {body : List Stmt} {D : Ends} {σ : L2.St} {H : Hp} (h : ∃ t, PSs X.nox body t ∧ t D σ H) : ∃ t, PSs X body t ∧ t D σ H := by
  obtain ⟨t, a, b⟩ := h
  exact ⟨t, a.nox, b⟩
theorem scPaperI : FnScope ["self", "word", "parts"] ((["self", "word"] : List Str) ++ [("parts" : Str)]) (defScope sPaperI) := ⟨rfl, rfl, rfl, by decide +kernel, rfl, by decide +kernel, by decide +kernel⟩
theorem off_kept {x C dx : Addr} {fs : List (Str × V)} {H H' : Hp} (h : Off x H H') (hx : H x = some (.ins C dx fs)) (hp : fs.lookup ("parts" : Str) = none) : Kept cl H H' := fun b o hb hv => by
  by_cases e : b = x
  · subst e
    rw [hx] at hb
    cases hb
    rcases hv with ⟨vs, q⟩ | ⟨w, dx', fs', q, r⟩
    · cases q
    · cases q
      rw [hp] at r
      cases r
  · exact h b o e hb
theorem ok_paperI {f fC : Addr} {fd fdC : FuncData} (p : Pap K Pp cl) (F : Fun K "__init__" "Paper.__init__" sPaperI f fd) (FC : Fun K "copied" "copied" sCopied fC fdC) (G : GF mg) (bC : Binds K fdC ["value"] []) (mC : mg "copied" = some (.ref fC)) (b : Nat) :
    FnR P w K mg base CX0 (b + 3) f (fun vs H Q E => ∃ ws rest, vs = ws ++ rest ∧ ws.length = ["self", "word"].length ∧ rest.length ≤ sizeLine ∧ ∀ p, H p = Option.none → spPI cl K b (ws ++ [V.ref p]) (upd H p (.tup rest)) Q E) := by
  obtain ⟨oc, od, kV, doc, pm, an, cdv, ct, osl, rfl, lk, hcd⟩ := F.ex
  refine StX.fn_star (N := ["self", "word", "parts"]) (ps := ["self", "word"]) (pv := "parts") lk hcd scPaperI ?_ (fun us rest hl => ?_) (fun A outer s H vs Q E hr h => ?_)
  · exact StX.cxUp_none
  · exact StX.bind_star2 (B := fun l => bindArgs (PySem.W.fnOf "__init__" "Paper.__init__" (defArgs sPaperI) (defBody sPaperI) (defScope sPaperI) .none kV doc pm an cdv ct) ⟨l, []⟩) (fun _ _ => by rfl) (fun _ _ _ _ => by rfl) us rest hl
  · obtain ⟨x, t, C, dx, w', xs, us, rfl, h1, h2, h3, ht, hl, hw, c, n1, n2, k⟩ := h
    refine nox_ex ⟨_, (pss_cons (ps_fld (pv 0) (pv 1) (by rfl)) (pss_one (ps_fld (pv 0) (pe_call (ok_copied p FC G bC mC (b + 2)) hr rfl mC FC.kp bC .nil pass0 (pa_cons (pv 2) pa_nil)) (by rfl)))), ?_⟩
    refine ⟨_, rfl, _, rfl, x, C, dx, [], rfl, h1, c, n1, by decide, ?_⟩
    have o1 : Off x H (upd H x (.ins C dx (putF "word" (.str w') []))) := fun b o hb e => by
      rw [upd_ne hb]
      exact e
    have hxt : t ≠ x := fun e => by rw [e, h1] at h2; cases h2
    refine ⟨_, rfl, b + 1, rfl, .tup xs, _, rfl, ⟨t, us, rfl, o1 _ _ hxt h2, hasL_kept (off_kept o1 h1 rfl) xs h3⟩, ht, ⟨hl, hw⟩, fun v' H2 hs hv => ?_⟩
    obtain ⟨t', us', rfl, ht', hu'⟩ := hv
    have hx2 := hs _ _ (upd_same (H := H) (a := x))
    refine ⟨_, rfl, x, C, dx, _, rfl, hx2, c, n2, (show 1 < 1000 by decide), ?_⟩
    have hxt' : t' ≠ x := fun e => by rw [e, hx2] at ht'; cases ht'
    have o2 : Off x H2 (upd H2 x (.ins C dx (putF "parts" (.ref t') (putF "word" (.str w') [])))) := fun b o hb e => by
      rw [upd_ne hb]
      exact e
    refine k t' us' _ (fun b o hb e => o2 b o hb (hs b o (o1 b o hb e))) ?_ (o2 _ _ hxt' ht') fun H'' hk => ?_
    · rw [upd_same]
      rfl
    · exact hasL_kept (off_kept (fun b o hb e => hk b o hb (o2 b o hb e)) hx2 rfl) xs hu'
end
end Nr
end
set_option maxHeartbeats 2000000
section
/-! NrSup: a method whose body begins with super().__init__(..), the method found being a def of the program. -/
namespace Nr
open PySem PySem.Spec PyProof.Rows L2 NdefX ClX
/-- what of the text such a method leans on: its class D, the class C of the thing it is called for, the def g that is found behind D -/
structure SupF (prog : Program) (K : PySem.W.Frag) (mg : Str → Option Value) (params : Arguments) (scope : Scope) (nm : Str) (slf : Str) (D C cda cc : Addr) : Prop where
  argn : ∃ ar : Arg, (params.posonlyargs ++ params.args).head? = some ar ∧ ar.arg = slf
  code : ∃ a b vs c file tf, K.lookup cda = some ⟨a, b, .fields vs, c⟩ ∧ vs[2]? = some (.str file tf) ∧ ((prog.main.file : Str) == file) = true
  cell : ∃ a b c, K.lookup cc = some ⟨a, b, .cell (some (.ref D)), c⟩
  clsD : ∃ cd, PySem.W.clsIn K D = some cd
  clsC : ∃ cd, PySem.W.clsIn K C = some cd
  sub : PySem.W.mroIn K C (.ref D) = some true
  ns : mg "super" = none
  top : (prog.main.scope.names.lookup ("super" : Str)).isSome = false
  any : PySem.W.nsIn K cStatics "thirdparty.any" = some none
  nc : (nm == ("__class__" : Str)) = false
  ks : scope.names.lookup ("super" : Str) = some .globalImplicit
  kc : scope.names.lookup ("__class__" : Str) = some .free
  ka : scope.names.lookup slf = some .local
section
variable {X : Cx} {pins : List (Addr × Obj)} {σ : L2.St} {H : Hp} {s : Shared}
/-- a bound record laid -/
theorem metNew {g x : Addr} (I : Inv X pins σ H s) : Inv X ((s.heap.objs.size, PySem.W.methodObj (.ref g) (.ref x)) :: pins) σ H { s with heap := s.heap.push (PySem.W.methodObj (.ref g) (.ref x)), toks := s.toks + 1 } :=
  pin_new I (fun _ _ z => Heap.get?_push_of_some _ z) (Nat.le_refl _) (Heap.get?_push_size s.heap rfl) (fun v z => nomatch z)
/-- .. called -/
theorem metRun {CX : CXT} {k : Nat} {q g x : Addr} {sp : Sp} {E : XK} {Q : VK} {us : List Value} {vs : List V} (F : FnR X.prog X.w X.K X.mg X.base CX k g sp) (hr : Room k X.A) (hx : Passes CX X E)
    (I : Inv X ((q, PySem.W.methodObj (.ref g) (.ref x)) :: pins) σ H s) (r : Vals vs us) (h : sp (.ref x :: vs) H Q E) : wpAny (model X.prog X.w) X.A (call (.ref q) us) (EP X pins σ Q) X.xe s := by
  have z : wpAny (model X.prog X.w) X.A (call (.ref q) us) (EP X ((q, PySem.W.methodObj (.ref g) (.ref x)) :: pins) σ Q) X.xe s :=
    wpAny_call (PySem.W.method_call (pin_at I) (run_fnR (us := .ref x :: us) (vs := .ref x :: vs) F hr hx I (.cons rfl r) h))
  exact thn z fun _ _ y => unpinE y
theorem metCall {pos : Pos} {e : Expr} {es : List Expr} {q g x : Addr} {Q : Value → Shared → Prop} {E : Value → Shared → Prop} {A : Around} (I : Inv X ((q, PySem.W.methodObj (.ref g) (.ref x)) :: pins) σ H s) (hb : X.base.get? q = none) (hf : PySem.W.fnIn X.K g = true)
    (h : wpAny (model X.prog X.w) A (spliced (backTo pos (starEach (e :: es) X.env))) (fun vs s₁ => PySem.W.MethP X.K q g (.ref x) s₁.heap ∧ wpAny (model X.prog X.w) A (call (.ref q) vs) Q E s₁) E s)
    (he : starEach (e :: es) X.env = (false, eval e X.env) :: starEach es X.env) (hpl : (backTo pos (starEach es X.env)).any (·.1) = false) :
    wpAny (model X.prog X.w) A (callWith pos (.ref q) [] (backTo pos (starEach (e :: es) X.env)) []) Q E s := by
  have hL : q ≠ X.env.locals := (I.pin (q, PySem.W.methodObj (.ref g) (.ref x)) (List.mem_append_right _ List.mem_cons_self)).2.2.1
  exact PySem.W.callWith_M (K := X.K) (h₀ := X.base) (first := []) I.ok.mod.kin (news_at hL hb (pin_at I)) List.mem_cons_self hf h he hpl
/-- an expression read in the frame of the def itself (super() looks there) -/
def PEat (X : Cx) (e : Expr) (t : TE) : Prop := ∀ (body : List Stmt) (pins : List (Addr × Obj)) (s : Shared) (σ : L2.St) (H : Hp) (Q : VK), Inv X pins σ H s → t σ H Q →
  PySem.wpAt (model X.prog X.w) X.A (.func body X.env) (eval e X.env) (EP X pins σ Q) X.xe s
/-- what is common: up to the super object -/
theorem sup_obj {body : List Stmt} {q nm slf : Str} {params : Arguments} {scope : Scope} {p0 p1 : Pos} {f D C cda cc x : Addr} {ox : Obj} {oc : Value} {od : Option Addr} {osl : Array (Option Value)} {fd : FuncData} {whole : Sem Value} {R : Value → Shared → Prop} {E : Value → Shared → Prop}
    (henv : X.env = PySem.W.envX q scope X.env.locals f (.ref cda) [("__class__", cc)]) (S : SupF X.prog X.K X.mg params scope nm slf D C cda cc)
    (lk : X.K.lookup f = some ⟨oc, od, .func fd, osl⟩) (hpm : fd.params = params) (hself : X.N[0]? = some slf) (hσ : σ[0]? = some (some (.ref x))) (hx : s.heap.get? x = some ox) (hxc : ox.cls = .ref C) (hnc : ∀ c, ox.data ≠ .cls c) (I : Inv X pins σ H s)
    (h : ∀ (so : Addr) (s1 : Shared), Inv X pins σ H s1 → (∀ b o, s.heap.get? b = some o → s1.heap.get? b = some o) → s1.heap.get? so = some { cls := .type "super", dict := none, data := .fields #[.ref D, .ref x, .ref C], slots := #[] } → R (.ref so) s1) :
    PySem.wpAt (model X.prog X.w) X.A (.func body X.env) (attributeBase (.Call (.Name "super" p0) [] [] p1) nm X.env whole) R E s := by
  obtain ⟨ar, har, hav⟩ := S.argn
  obtain ⟨ca, cb, cvs, ccl, file, tf, hcode, hvs, hfile⟩ := S.code
  obtain ⟨la, lb, lc, hcell⟩ := S.cell
  obtain ⟨cdD, hclsD⟩ := S.clsD
  have KX : X.K.In s.heap := I.kIn
  have hfun : X.env.scope.kind = .function := I.ok.kind
  have ek : ∀ y, X.env.kindOf y = scope.names.lookup y := fun y => (congrArg (fun z : Env => z.kindOf y) henv).trans rfl
  obtain ⟨oD, hD1, hD2⟩ : ∃ oD, s.heap.get? D = some oD ∧ oD.data = .cls cdD := by
    unfold PySem.W.clsIn at hclsD
    split at hclsD
    · rename_i c d cd' sl ho
      cases hclsD
      exact ⟨_, KX _ _ ho, rfl⟩
    · cases hclsD
  obtain ⟨mb, hmb1, hmb2⟩ := I.mod.blt
  obtain ⟨m, hn, hl⟩ := I.loc
  obtain ⟨u0, ru0, lk0⟩ := hl 0 slf (.ref x) hself hσ (.inl ((congrArg (fun z : Env => z.scope.names.lookup slf) henv).trans S.ka))
  obtain rfl : u0 = Value.ref x := ru0
  have hself' : m slf = some (.ref x) := by
    rcases lk0 with ⟨_, z⟩ | ⟨z, _⟩
    · exact z
    · rw [ek, S.ka] at z
      rcases z with z | z <;> cases z
  refine ks_wpAt_super_base (f := f) (cc := cda) (ar := ar) (by rw [ek]; exact S.ks) (by rw [ek]; exact S.kc) S.nc ((congrArg (fun z : Env => z.func) henv).trans rfl) (KX _ _ lk) rfl (by rw [hpm]; exact har) ((congrArg (fun z : Env => z.code) henv).trans rfl) (KX _ _ hcode) rfl hvs hfile S.top ?_
  refine PySem.W.ks_loadName_global hfun (by rw [ek]; exact S.ks) (Calls.loadGlobal_builtin (by rw [I.ok.glob]; exact I.mod.glob.keeps I.bk) S.ns (by rw [I.ok.blt]; exact hmb1.keeps I.bk) ((hmb2 _ (by decide +kernel)).trans (by decide +kernel : bootBuiltins "super" = some (.type "super"))) ⟨rfl, ?_⟩)
  refine wpAny_loadName_free hfun (by rw [ek]; exact S.kc) ((congrArg (fun z : Env => z.cells.lookup (Str.ofString "__class__")) henv).trans rfl) ⟨_, KX _ _ hcell, rfl⟩ ?_
  refine wpAny_loadName_local hfun (by rw [ek, hav]; exact S.ka) hn (by rw [hav]; exact hself') ?_
  obtain ⟨hh, gg, dd, tt, os⟩ := s
  refine ks_wpAny_isType_cls hD1 hD2 ⟨rfl, ?_⟩
  refine ks_wpAny_call_super hD1 hD2 hx hxc hnc (PySem.W.looks_mroIn KX S.sub) (fun h' e1 kp => ?_)
  exact h _ _ (I.kept (t' := tt) kp) kp e1
/-- super().nm(e, ..), nm a def g of the program -/
def tSup (D : Addr) (sp : Sp) (E : XK) (t : TA) : TE := fun σ H Q => ∃ x dx fs, σ[0]? = some (some (V.ref x)) ∧ H x = some (.ins D dx fs) ∧ t σ H fun vs H2 => sp (.ref x :: vs) H2 Q E
theorem pe_sup {CX : CXT} {k : Nat} {q nm slf : Str} {params : Arguments} {scope : Scope} {p0 p1 pos apos : Pos} {f D C cda cc g : Addr} {oc : Value} {od : Option Addr} {osl : Array (Option Value)} {fd : FuncData}
    {e : Expr} {es : List Expr} {t : TA} {sp : Sp} {E : XK} {pl : Sem Bool}
    (henv : X.env = PySem.W.envX q scope X.env.locals f (.ref cda) [("__class__", cc)]) (S : SupF X.prog X.K X.mg params scope nm slf D C cda cc)
    (find : PySem.W.ks_superIn X.K C D nm = some (some (.ref g))) (ty : PySem.W.typeIn X.K (.ref g) = some (.type "function")) (fi : PySem.W.fnIn X.K g = true)
    (lk : X.K.lookup f = some ⟨oc, od, .func fd, osl⟩) (hpm : fd.params = params) (hself : X.N[0]? = some slf)
    (F : FnR X.prog X.w X.K X.mg X.base CX k g sp) (hr : Room k X.A) (hxx : Passes CX X E) (ha : PA X (e :: es) t)
    (hst : starEach (e :: es) X.env = (false, eval e X.env) :: starEach es X.env := by rfl) (hpl : (backTo pos (starEach es X.env)).any (·.1) = false := by rfl)
    (ht : eval (.Call (.Attribute (.Call (.Name "super" p0) [] [] p1) nm apos) (e :: es) [] pos) X.env = (do
      let ov ← attributeBase (.Call (.Name "super" p0) [] [] p1) nm X.env (eval (.Call (.Name "super" p0) [] [] p1) X.env)
      standAt apos.atName
      let (f, first) ← holding [ov] (getMethod ov nm pl)
      callWith pos f first (backTo pos (starEach (e :: es) X.env)) []) := by rfl) :
    PEat X (.Call (.Attribute (.Call (.Name "super" p0) [] [] p1) nm apos) (e :: es) [] pos) (tSup C sp E t) := by
  intro body pins s σ H Q I ⟨x, dx, fs, hσ, hx, h⟩
  obtain ⟨cdC, hclsC⟩ := S.clsC
  obtain ⟨mA, O, _, _, _, _⟩ := ins_get I.hok hx
  obtain ⟨odx, J, _⟩ := O.look
  have hxC : x ≠ C := PySem.W.ks_ne I.kIn J hclsC
  refine ks_wpAt_MethodCall (pl := pl) (sup_obj henv S lk hpm hself hσ J.at_ J.cls (fun c e => by
    have := J.no
    unfold PySem.W.notCls at this
    rw [e] at this
    exact Bool.noConfusion this) I fun so s1 I1 kp e1 => ?_) ht
  have K1 : X.K.In s1.heap := I1.kIn
  obtain ⟨of, hof, hofc⟩ : ∃ of, s1.heap.get? g = some of ∧ of.cls = .type "function" := by
    have ht' : (X.K.lookup g).map (·.cls) = some (.type "function") := ty
    cases z : X.K.lookup g with
    | none => rw [z] at ht'; cases ht'
    | some of => rw [z] at ht'; exact ⟨of, K1 _ _ z, Option.some.inj ht'⟩
  have hfind := find
  unfold PySem.W.ks_superIn at hfind
  rw [hclsC] at hfind
  obtain ⟨hh, gg, dd, tt, os⟩ := s1
  refine ks_wpAny_getMethod_super e1 (PySem.W.looks_opaque K1 S.any) (l₀ := cdC.mro) (fun A Q E s k q => wpAny_bind ((PySem.W.looks_clsIn K1 hclsC) A _ E s k (wpAny_pure q))) rfl K1 hfind hof hofc hxC S.nc ?_
  have I2 := metNew (g := g) (x := x) I1
  refine metCall I2 (base_none I1 (Nat.le_refl _)) fi (thn (ha.run pos _ _ σ H _ I2 h) fun us s3 ⟨vs, H2, I3, rv, q2⟩ => ⟨⟨pin_at I3, I3.kIn⟩, ?_⟩) hst hpl
  exact metRun F hr hxx I3 rv q2
end
/-- the words of the method's function: its class's cell alone is captured -/
abbrev nfS (name qual : Str) (params : Arguments) (body : List Stmt) (scope : Scope) (cc cda : Addr) : NF := ⟨name, qual, params, body, scope, [("__class__", cc)], cda⟩
/-- a method whose first statement is read in its own frame -/
theorem fn_first {CX : CXT} {P : Program} {w : World} {K : PySem.W.Frag} {mg : Str → Option Value} {base : Heap} {k : Nat} {f cda cc : Addr} {name qual : Str} {params : Arguments} {epos : Pos} {e0 : Expr} {rest : List Stmt} {scope : Scope}
    {dV kV doc pm ct oc cellc : Value} {an od celld : Option Addr} {osl cells : Array (Option Value)} {cv : Option Value} {N ps : List Str} {sp : Sp}
    (lk : K.lookup f = some ⟨oc, od, .func (PySem.W.fnX name qual params (.Expr e0 epos :: rest) scope [("__class__", cc)] dV kV doc pm an (.ref cda) ct), osl⟩)
    (hcd : PySem.W.codeIn K (.ref cda) qual = true) (S : NScope N ps ["__class__"] scope) (hcell : K.lookup cc = some ⟨cellc, celld, .cell cv, cells⟩)
    (len : ∀ vs H Q E, sp vs H Q E → vs.length = ps.length)
    (hbody : ∀ (A : Around) (outer : List Env) (s : Shared) (H : Hp) (vs : List V) (Q : VK) (E : XK),
      Room k (A.deeper (envF (nfS name qual params (.Expr e0 epos :: rest) scope cc cda) f s.heap.objs.size)) → sp vs H Q E →
      ∃ (t0 : TE) (t : TS), PEat (ncx CX P w K mg base N (nfS name qual params (.Expr e0 epos :: rest) scope cc cda) f A outer s H E) e0 t0 ∧
        PSs (ncx CX P w K mg base N (nfS name qual params (.Expr e0 epos :: rest) scope cc cda) f A outer s H E) rest t ∧
        t0 (startF N vs [none]) H fun _ H3 => t { nx := fun _ H' => Q .non H', rt := Q } (startF N vs [none]) H3)
    (hin : ∀ L, interactive (envF (nfS name qual params (.Expr e0 epos :: rest) scope cc cda) f L) = false)
    (hsw : ∀ env, swapsWith e0 none epos.line env = pure false) :
    FnOk P w K mg base CX (k + 1) f (PySem.W.fnX name qual params (.Expr e0 epos :: rest) scope [("__class__", cc)] dV kV doc pm an (.ref cda) ct) ps sp := by
  refine ⟨len, fun A outer s H args us vs Q E hr e0' hb r hsp => ?_⟩
  have hl := len _ _ _ _ hsp
  have KX : K.In s.heap := e0'.mod.kin.keeps fun b o e => (e0'.bs b o e).1
  have lim : s.heap.NoLimit := e0'.mod.nolimit.keeps fun b o e => (e0'.bs b o e).1
  have hcc := KX _ _ hcell
  have C0 : CellsAt [(("__class__" : Str), cc)] ["__class__"] [none] s.heap H := by
    have one : ∀ y c, List.lookup y [(("__class__" : Str), cc)] = some c → c = cc ∧ y = ("__class__" : Str) := fun y c q => by
      simp only [List.lookup_cons, List.lookup_nil] at q
      split at q
      · rename_i hy
        cases q
        exact ⟨rfl, by simpa using hy⟩
      · cases q
    refine ⟨rfl, fun y c q => ?_, fun x y c q1 q2 => ?_, fun i y q => ?_⟩
    · obtain ⟨rfl, _⟩ := one y c q
      exact ⟨(e0'.bs _ _ (e0'.mod.kin _ _ hcell)).2, _, _, hcc, rfl⟩
    · exact (one x c q1).2.trans (one y c q2).2.symm
    · match i, q with
      | 0, q =>
        cases q
        exact ⟨cc, by simp [List.lookup_cons], fun v z => nomatch z⟩
  refine ks_codeAny_call_defAt (fd := PySem.W.fnX name qual params (.Expr e0 epos :: rest) scope [("__class__", cc)] dV kV doc pm an (.ref cda) ct) (binds := ps.zip us) hr.depth (KX _ _ lk) rfl lim (PySem.W.codeRec_of KX hcd) rfl
    hb S.nocell (fun ⟨n, _⟩ hy => S.par n (List.of_mem_zip hy).1) (fun h₀ hns kp => ?_) S.co S.gen S.kind
  obtain ⟨t0, t, hfirst, hrest, hq⟩ := hbody A outer s H vs Q E (hr.deeper _) hsp
  have I : Inv (ncx CX P w K mg base N (nfS name qual params (.Expr e0 epos :: rest) scope cc cda) f A outer s H E) [] (startF N vs [none]) H { s with heap := h₀, toks := s.toks + (ps.zip us).length } :=
    inv_startN S hr.hd e0' hl r C0 hns kp
  refine ks_wpAt_execs_cons (ks_wpAt_Expr_any ?_ (hin _) (hsw _))
  refine ks_wpAt_mono (hfirst _ _ _ _ _ _ I hq) (fun u s1 ⟨v, H3, I3, _, q3⟩ => ?_) (fun _ _ z => z)
  refine wpAt_of_wpAny (wpAny_mono (hrest.run [] s1 _ H3 _ I3 q3) (fun fl s' hs => ?_) fun _ _ z => z)
  have fin : ∀ {σ' : L2.St} {H' : Hp} {v : V} {u : Value}, Inv (ncx CX P w K mg base N (nfS name qual params (.Expr e0 epos :: rest) scope cc cda) f A outer s H E) [] σ' H' s' → L2.RelV v u → Q v H' → CE outer P w H s Q u s' :=
    fun {σ' H' v u} J rv q => ⟨v, H', J.os, J.bare, J.base, J.hok, rv, q⟩
  cases fl with
  | ret u =>
    obtain ⟨v, σ', H', J, rv, q⟩ := hs
    exact fin J rv q
  | next =>
    obtain ⟨σ', H', J, q⟩ := hs
    exact fin (v := V.non) (u := Value.none) J rfl q
  | brk =>
    obtain ⟨_, _, _, q⟩ := hs
    exact False.elim q
  | cont =>
    obtain ⟨_, _, _, q⟩ := hs
    exact False.elim q
end Nr
end
set_option maxHeartbeats 2000000
section
/-! NrMisc: o.f as a target among several. -/
namespace Nr
open PySem PySem.Spec PyProof.Rows L2
/-- o.f = what is handed -/
def gFld (K : PySem.W.Frag) (to : TE) (f : Str) : TG := fun v σ H Q => to σ H fun x H1 => ∃ a C dx fs, x = .ref a ∧ H1 a = some (.ins C dx fs) ∧ Cls K C ∧ NoAttr K C f ∧ fs.length < 1000 ∧ Q σ (upd H1 a (.ins C dx (putF f v fs)))
section
variable {X : Cx} {pos : Pos} {o : Expr} {to : TE} {f : Str}
theorem pg_fld (ho : PE X o to) : PG X (.Attribute o f pos) (gFld X.K to f) := by
  refine ⟨fun pins s σ H v u Q I r h => ?_⟩
  rw [assign_Attribute]
  refine wpAny_bind (wpAny_holding (thn (ho.run pins s σ H _ I h) fun ov s1 ⟨x, H1, I1, r1, a, C, dx, fs, ex, ea, c, n, l, q⟩ => ?_))
  subst ex
  obtain rfl : ov = Value.ref a := r1
  refine wpAny_bind (wpAny_standAt (wpAny_bind (wpAny_holding (setattr_ok I1 ea c n l r fun s2 I2 => ?_))))
  exact wpAny_release ⟨σ, _, I2, q⟩
end
end Nr
end
set_option maxHeartbeats 200000
section
/-! NrClass: the paper classes' __init__. -/
namespace Nr
open PySem PySem.Spec PyProof.Rows L2 NdefX ClX
/-- what the head gives of a paper class's __init__ -/
structure ClsI (P : Program) (K : PySem.W.Frag) (mg : Str → Option Value) (st : Stmt) (qual : Str) (C g f : Addr) (fd : FuncData) : Prop where
  ex : ∃ (cda cc : Addr) (oc cellc dV kV doc pm ct : Value) (an od celld : Option Addr) (osl cells : Array (Option Value)) (cv : Option Value),
    fd = PySem.W.fnX "__init__" qual (defArgs st) (defBody st) (defScope st) [("__class__", cc)] dV kV doc pm an (.ref cda) ct ∧
    K.lookup f = some ⟨oc, od, .func fd, osl⟩ ∧ PySem.W.codeIn K (.ref cda) qual = true ∧ K.lookup cc = some ⟨cellc, celld, .cell cv, cells⟩ ∧ SupF P K mg (defArgs st) (defScope st) "__init__" "self" C C cda cc
  find : PySem.W.ks_superIn K C C "__init__" = some (some (.ref g))
  ty : PySem.W.typeIn K (.ref g) = some (.type "function")
  fi : PySem.W.fnIn K g = true
  cls : Cls K C
  n1 : NoAttr K C "word"
  n2 : NoAttr K C "parts"
def spInit (cl : Str → Addr) (w : Str) (n b : Nat) : Sp := fun vs H Q _ => ∃ (x dx : Addr) (xs : List D) (us : List V), vs = .ref x :: us ∧ us.length = n ∧ H x = some (.ins (cl w) dx []) ∧ hasL cl H xs us ∧ toldL b xs ∧ wideL xs ∧
  ∀ fs t us' H', Off x H H' → H' x = some (.ins (cl w) dx fs) → fs.lookup ("word" : Str) = some (V.str w) → fs.lookup ("parts" : Str) = some (V.ref t) → H' t = some (.tup us') → (∀ H'', Off x H' H'' → hasL cl H'' xs us') → Q .non H'
section
variable {P : Program} {w : World} {K : PySem.W.Frag} {mg : Str → Option Value} {base : Heap} {Pp : Addr} {cl : Str → Addr}
theorem scRelI : NScope ["self", "rows", "__class__"] ["self", "rows"] ["__class__"] (defScope sRelI) := nscope_by (by decide +kernel)
theorem ok_relI {f g : Addr} {fd : FuncData} {b : Nat} (I : ClsI P K mg sRelI "Relations.__init__" (cl "relations") g f fd) (na : NoAttr K (cl "relations") "rows")
    (F : FnR P w K mg base CX0 (b + 3) g (fun vs H Q E => ∃ ws rest, vs = ws ++ rest ∧ ws.length = ["self", "word"].length ∧ rest.length ≤ sizeLine ∧ ∀ p, H p = Option.none → spPI cl K b (ws ++ [V.ref p]) (upd H p (.tup rest)) Q E)) :
    FnOk P w K mg base CX0 (b + 4) f fd ["self", "rows"] (spInit cl "relations" 1 b) := by
  obtain ⟨cda, cc, oc, cellc, dV, kV, doc, pm, ct, an, od, celld, osl, cells, cv, rfl, lk, hcd, hc, S⟩ := I.ex
  refine fn_first (N := ["self", "rows", "__class__"]) (k := b + 3) lk hcd scRelI hc (fun vs H Q E h => ?_) (fun A outer s H vs Q E hr h => ?_) (fun _ => by rfl) (fun _ => by rfl)
  · obtain ⟨x, dx, xs, us, rfl, hl, _⟩ := h
    rw [List.length_cons, hl]
    rfl
  · obtain ⟨x, dx, xs, us, rfl, hl, h1, h2, h3, h4, k⟩ := h
    obtain ⟨u, rfl⟩ : ∃ u, us = [u] := by
      match us, hl with
      | [u], _ => exact ⟨u, rfl⟩
    refine ⟨_, _, pe_sup rfl S I.find I.ty I.fi lk rfl rfl F hr pass0 (pa_cons pe_str (pa_cons (pv 1) pa_nil)), pss_one (ps_asg (pe_fld (pv 0) (by rfl)) (pg_tup (by rfl) (pgs_cons (pg_fld (pv 0)) pgs_nil))), ?_⟩
    have hlx : xs.length = 1 := (hasL_len h2).symm.trans hl
    refine ⟨x, dx, [], rfl, h1, _, rfl, [.ref x, .str "relations"], [u], rfl, rfl, (show 1 ≤ sizeLine by decide), fun p hp => ⟨x, p, _, dx, _, xs, [u], rfl, ?_, upd_same, hasL_kept (Kept.of (same_new (Same.refl H) hp)) xs h2, h3, by omega, h4, I.cls, I.n1, I.n2, fun t' us' H' ho hx ht' hk => ?_⟩⟩
    · rw [upd_ne (ne_of_none h1 hp)]
      exact h1
    · obtain ⟨u', rfl⟩ : ∃ u', us' = [u'] := by
        have := (hasL_len (hk H' fun _ _ _ e => e)).trans hlx
        match us', this with
        | [u'], _ => exact ⟨u', rfl⟩
      have htx : t' ≠ x := fun e => by rw [e, hx] at ht'; cases ht'
      refine ⟨_, rfl, x, _, dx, _, _, rfl, hx, I.cls, I.n2, rfl, t', [u'], rfl, SqT.of ht', rfl, _, _, rfl, ⟨_, rfl, x, _, dx, _, rfl, hx, I.cls, na, (show 2 < 1000 by decide), rfl, ?_⟩⟩
      have o3 : ∀ o, Off x H' (upd H' x o) := fun o b u hb e => by
        rw [upd_ne hb]
        exact e
      refine k _ t' [u'] _ (fun b o hb e => o3 _ b o hb (ho b o hb (same_new (Same.refl H) hp b o e))) upd_same rfl rfl (o3 _ _ _ htx ht') fun H'' hk' => hk H'' fun b o hb e => hk' b o hb (o3 _ b o hb e)
end
end Nr
end
set_option maxHeartbeats 200000
section
/-! NrClass2: the other paper classes' __init__ (printed by mkclass.py). -/
namespace Nr
open PySem PySem.Spec PyProof.Rows L2 NdefX ClX
section
variable {P : Program} {w : World} {K : PySem.W.Frag} {mg : Str → Option Value} {base : Heap} {Pp : Addr} {cl : Str → Addr}
theorem scReachI : NScope ["self", "factor", "point", "weights", "__class__"] ["self", "factor", "point", "weights"] ["__class__"] (defScope sReachI) := nscope_by (by decide +kernel)
theorem ok_ReachI {f g : Addr} {fd : FuncData} {b : Nat} (I : ClsI P K mg sReachI "Reach.__init__" (cl "reach") g f fd) (n3 : NoAttr K (cl "reach") "factor") (n4 : NoAttr K (cl "reach") "point") (n5 : NoAttr K (cl "reach") "weights")
    (F : FnR P w K mg base CX0 (b + 3) g (fun vs H Q E => ∃ ws rest, vs = ws ++ rest ∧ ws.length = ["self", "word"].length ∧ rest.length ≤ sizeLine ∧ ∀ p, H p = Option.none → spPI cl K b (ws ++ [V.ref p]) (upd H p (.tup rest)) Q E)) :
    FnOk P w K mg base CX0 (b + 4) f fd ["self", "factor", "point", "weights"] (spInit cl "reach" 3 b) := by
  obtain ⟨cda, cc, oc, cellc, dV, kV, doc, pm, ct, an, od, celld, osl, cells, cv, rfl, lk, hcd, hc, S⟩ := I.ex
  refine fn_first (N := ["self", "factor", "point", "weights", "__class__"]) (k := b + 3) lk hcd scReachI hc (fun vs H Q E h => ?_) (fun A outer s H vs Q E hr h => ?_) (fun _ => by rfl) (fun _ => by rfl)
  · obtain ⟨x, dx, xs, us, rfl, hl, _⟩ := h
    rw [List.length_cons, hl]
    rfl
  · obtain ⟨x, dx, xs, us, rfl, hl, h1, h2, h3, h4, k⟩ := h
    obtain ⟨u0, u1, u2, rfl⟩ : ∃ u0 u1 u2, us = [u0, u1, u2] := by
      match us, hl with
      | [u0, u1, u2], _ => exact ⟨u0, u1, u2, rfl⟩
    have hlx : xs.length = 3 := (hasL_len h2).symm.trans hl
    refine ⟨_, _, pe_sup rfl S I.find I.ty I.fi lk rfl rfl F hr pass0 (pa_cons pe_str (pa_cons (pv 1) (pa_cons (pv 2) (pa_cons (pv 3) pa_nil)))), pss_one (ps_asg (pe_fld (pv 0) (by rfl)) (pg_tup (by rfl) (pgs_cons (pg_fld (pv 0)) (pgs_cons (pg_fld (pv 0)) (pgs_cons (pg_fld (pv 0)) pgs_nil))))), ?_⟩
    refine ⟨x, dx, [], rfl, h1, _, rfl, _, rfl, _, rfl, [.ref x, .str "reach"], [u0, u1, u2], rfl, rfl, (show 3 ≤ sizeLine by decide), fun p hp => ⟨x, p, _, dx, _, xs, [u0, u1, u2], rfl, ?_, upd_same, hasL_kept (Kept.of (same_new (Same.refl H) hp)) xs h2, h3, by omega, h4, I.cls, I.n1, I.n2, fun t' us' H' ho hx ht' hk => ?_⟩⟩
    · rw [upd_ne (ne_of_none h1 hp)]
      exact h1
    · obtain ⟨v0, v1, v2, rfl⟩ : ∃ v0 v1 v2, us' = [v0, v1, v2] := by
        have := (hasL_len (hk H' fun _ _ _ e => e)).trans hlx
        match us', this with
        | [v0, v1, v2], _ => exact ⟨v0, v1, v2, rfl⟩
      have htx : t' ≠ x := fun e => by rw [e, hx] at ht'; cases ht'
      have o3 : ∀ (H'' : Hp) o, Off x H' H'' → Off x H' (upd H'' x o) := fun H'' o h b u hb e => by
        rw [upd_ne hb]
        exact h b u hb e
      have r0 : Off x H' H' := fun _ _ _ e => e
      refine ⟨_, rfl, x, _, dx, _, _, rfl, hx, I.cls, I.n2, rfl, t', [v0, v1, v2], rfl, SqT.of ht', rfl, ?_⟩
      refine ⟨_, _, rfl, _, rfl, x, _, dx, _, rfl, hx, I.cls, n3, (show 2 < 1000 by decide), ?_⟩
      refine ⟨_, _, rfl, _, rfl, x, _, dx, _, rfl, upd_same, I.cls, n4, (show 3 < 1000 by decide), ?_⟩
      refine ⟨_, _, rfl, _, rfl, x, _, dx, _, rfl, upd_same, I.cls, n5, (show 4 < 1000 by decide), ?_⟩
      have oz : ∀ w0 w1 w2 : HO, Off x H' (upd (upd (upd (H') x w0) x w1) x w2) := fun w0 w1 w2 => (o3 _ _ (o3 _ _ (o3 _ _ r0)))
      exact ⟨rfl, k _ t' [v0, v1, v2] _ (fun b o hb e => oz _ _ _ b o hb (ho b o hb (same_new (Same.refl H) hp b o e))) upd_same rfl rfl (oz _ _ _ _ _ htx ht') fun H'' hk' => hk H'' fun b o hb e => hk' b o hb (oz _ _ _ b o hb e)⟩
theorem scNearnessI : NScope ["self", "factor", "point", "rows", "tree", "__class__"] ["self", "factor", "point", "rows", "tree"] ["__class__"] (defScope sNearnessI) := nscope_by (by decide +kernel)
theorem ok_NearnessI {f g : Addr} {fd : FuncData} {b : Nat} (I : ClsI P K mg sNearnessI "Nearness.__init__" (cl "nearness") g f fd) (n3 : NoAttr K (cl "nearness") "factor") (n4 : NoAttr K (cl "nearness") "point") (n5 : NoAttr K (cl "nearness") "rows") (n6 : NoAttr K (cl "nearness") "tree")
    (F : FnR P w K mg base CX0 (b + 3) g (fun vs H Q E => ∃ ws rest, vs = ws ++ rest ∧ ws.length = ["self", "word"].length ∧ rest.length ≤ sizeLine ∧ ∀ p, H p = Option.none → spPI cl K b (ws ++ [V.ref p]) (upd H p (.tup rest)) Q E)) :
    FnOk P w K mg base CX0 (b + 4) f fd ["self", "factor", "point", "rows", "tree"] (spInit cl "nearness" 4 b) := by
  obtain ⟨cda, cc, oc, cellc, dV, kV, doc, pm, ct, an, od, celld, osl, cells, cv, rfl, lk, hcd, hc, S⟩ := I.ex
  refine fn_first (N := ["self", "factor", "point", "rows", "tree", "__class__"]) (k := b + 3) lk hcd scNearnessI hc (fun vs H Q E h => ?_) (fun A outer s H vs Q E hr h => ?_) (fun _ => by rfl) (fun _ => by rfl)
  · obtain ⟨x, dx, xs, us, rfl, hl, _⟩ := h
    rw [List.length_cons, hl]
    rfl
  · obtain ⟨x, dx, xs, us, rfl, hl, h1, h2, h3, h4, k⟩ := h
    obtain ⟨u0, u1, u2, u3, rfl⟩ : ∃ u0 u1 u2 u3, us = [u0, u1, u2, u3] := by
      match us, hl with
      | [u0, u1, u2, u3], _ => exact ⟨u0, u1, u2, u3, rfl⟩
    have hlx : xs.length = 4 := (hasL_len h2).symm.trans hl
    refine ⟨_, _, pe_sup rfl S I.find I.ty I.fi lk rfl rfl F hr pass0 (pa_cons pe_str (pa_cons (pv 1) (pa_cons (pv 2) (pa_cons (pv 3) (pa_cons (pv 4) pa_nil))))), pss_one (ps_asg (pe_fld (pv 0) (by rfl)) (pg_tup (by rfl) (pgs_cons (pg_fld (pv 0)) (pgs_cons (pg_fld (pv 0)) (pgs_cons (pg_fld (pv 0)) (pgs_cons (pg_fld (pv 0)) pgs_nil)))))), ?_⟩
    refine ⟨x, dx, [], rfl, h1, _, rfl, _, rfl, _, rfl, _, rfl, [.ref x, .str "nearness"], [u0, u1, u2, u3], rfl, rfl, (show 4 ≤ sizeLine by decide), fun p hp => ⟨x, p, _, dx, _, xs, [u0, u1, u2, u3], rfl, ?_, upd_same, hasL_kept (Kept.of (same_new (Same.refl H) hp)) xs h2, h3, by omega, h4, I.cls, I.n1, I.n2, fun t' us' H' ho hx ht' hk => ?_⟩⟩
    · rw [upd_ne (ne_of_none h1 hp)]
      exact h1
    · obtain ⟨v0, v1, v2, v3, rfl⟩ : ∃ v0 v1 v2 v3, us' = [v0, v1, v2, v3] := by
        have := (hasL_len (hk H' fun _ _ _ e => e)).trans hlx
        match us', this with
        | [v0, v1, v2, v3], _ => exact ⟨v0, v1, v2, v3, rfl⟩
      have htx : t' ≠ x := fun e => by rw [e, hx] at ht'; cases ht'
      have o3 : ∀ (H'' : Hp) o, Off x H' H'' → Off x H' (upd H'' x o) := fun H'' o h b u hb e => by
        rw [upd_ne hb]
        exact h b u hb e
      have r0 : Off x H' H' := fun _ _ _ e => e
      refine ⟨_, rfl, x, _, dx, _, _, rfl, hx, I.cls, I.n2, rfl, t', [v0, v1, v2, v3], rfl, SqT.of ht', rfl, ?_⟩
      refine ⟨_, _, rfl, _, rfl, x, _, dx, _, rfl, hx, I.cls, n3, (show 2 < 1000 by decide), ?_⟩
      refine ⟨_, _, rfl, _, rfl, x, _, dx, _, rfl, upd_same, I.cls, n4, (show 3 < 1000 by decide), ?_⟩
      refine ⟨_, _, rfl, _, rfl, x, _, dx, _, rfl, upd_same, I.cls, n5, (show 4 < 1000 by decide), ?_⟩
      refine ⟨_, _, rfl, _, rfl, x, _, dx, _, rfl, upd_same, I.cls, n6, (show 5 < 1000 by decide), ?_⟩
      have oz : ∀ w0 w1 w2 w3 : HO, Off x H' (upd (upd (upd (upd (H') x w0) x w1) x w2) x w3) := fun w0 w1 w2 w3 => (o3 _ _ (o3 _ _ (o3 _ _ (o3 _ _ r0))))
      exact ⟨rfl, k _ t' [v0, v1, v2, v3] _ (fun b o hb e => oz _ _ _ _ b o hb (ho b o hb (same_new (Same.refl H) hp b o e))) upd_same rfl rfl (oz _ _ _ _ _ _ htx ht') fun H'' hk' => hk H'' fun b o hb e => hk' b o hb (oz _ _ _ _ b o hb e)⟩
theorem scClassesI : NScope ["self", "number", "rows", "entries", "__class__"] ["self", "number", "rows", "entries"] ["__class__"] (defScope sClassesI) := nscope_by (by decide +kernel)
theorem ok_ClassesI {f g : Addr} {fd : FuncData} {b : Nat} (I : ClsI P K mg sClassesI "Classes.__init__" (cl "classes") g f fd) (n3 : NoAttr K (cl "classes") "number") (n4 : NoAttr K (cl "classes") "rows") (n5 : NoAttr K (cl "classes") "entries")
    (F : FnR P w K mg base CX0 (b + 3) g (fun vs H Q E => ∃ ws rest, vs = ws ++ rest ∧ ws.length = ["self", "word"].length ∧ rest.length ≤ sizeLine ∧ ∀ p, H p = Option.none → spPI cl K b (ws ++ [V.ref p]) (upd H p (.tup rest)) Q E)) :
    FnOk P w K mg base CX0 (b + 4) f fd ["self", "number", "rows", "entries"] (spInit cl "classes" 3 b) := by
  obtain ⟨cda, cc, oc, cellc, dV, kV, doc, pm, ct, an, od, celld, osl, cells, cv, rfl, lk, hcd, hc, S⟩ := I.ex
  refine fn_first (N := ["self", "number", "rows", "entries", "__class__"]) (k := b + 3) lk hcd scClassesI hc (fun vs H Q E h => ?_) (fun A outer s H vs Q E hr h => ?_) (fun _ => by rfl) (fun _ => by rfl)
  · obtain ⟨x, dx, xs, us, rfl, hl, _⟩ := h
    rw [List.length_cons, hl]
    rfl
  · obtain ⟨x, dx, xs, us, rfl, hl, h1, h2, h3, h4, k⟩ := h
    obtain ⟨u0, u1, u2, rfl⟩ : ∃ u0 u1 u2, us = [u0, u1, u2] := by
      match us, hl with
      | [u0, u1, u2], _ => exact ⟨u0, u1, u2, rfl⟩
    have hlx : xs.length = 3 := (hasL_len h2).symm.trans hl
    refine ⟨_, _, pe_sup rfl S I.find I.ty I.fi lk rfl rfl F hr pass0 (pa_cons pe_str (pa_cons (pv 1) (pa_cons (pv 2) (pa_cons (pv 3) pa_nil)))), pss_one (ps_asg (pe_fld (pv 0) (by rfl)) (pg_tup (by rfl) (pgs_cons (pg_fld (pv 0)) (pgs_cons (pg_fld (pv 0)) (pgs_cons (pg_fld (pv 0)) pgs_nil))))), ?_⟩
    refine ⟨x, dx, [], rfl, h1, _, rfl, _, rfl, _, rfl, [.ref x, .str "classes"], [u0, u1, u2], rfl, rfl, (show 3 ≤ sizeLine by decide), fun p hp => ⟨x, p, _, dx, _, xs, [u0, u1, u2], rfl, ?_, upd_same, hasL_kept (Kept.of (same_new (Same.refl H) hp)) xs h2, h3, by omega, h4, I.cls, I.n1, I.n2, fun t' us' H' ho hx ht' hk => ?_⟩⟩
    · rw [upd_ne (ne_of_none h1 hp)]
      exact h1
    · obtain ⟨v0, v1, v2, rfl⟩ : ∃ v0 v1 v2, us' = [v0, v1, v2] := by
        have := (hasL_len (hk H' fun _ _ _ e => e)).trans hlx
        match us', this with
        | [v0, v1, v2], _ => exact ⟨v0, v1, v2, rfl⟩
      have htx : t' ≠ x := fun e => by rw [e, hx] at ht'; cases ht'
      have o3 : ∀ (H'' : Hp) o, Off x H' H'' → Off x H' (upd H'' x o) := fun H'' o h b u hb e => by
        rw [upd_ne hb]
        exact h b u hb e
      have r0 : Off x H' H' := fun _ _ _ e => e
      refine ⟨_, rfl, x, _, dx, _, _, rfl, hx, I.cls, I.n2, rfl, t', [v0, v1, v2], rfl, SqT.of ht', rfl, ?_⟩
      refine ⟨_, _, rfl, _, rfl, x, _, dx, _, rfl, hx, I.cls, n3, (show 2 < 1000 by decide), ?_⟩
      refine ⟨_, _, rfl, _, rfl, x, _, dx, _, rfl, upd_same, I.cls, n4, (show 3 < 1000 by decide), ?_⟩
      refine ⟨_, _, rfl, _, rfl, x, _, dx, _, rfl, upd_same, I.cls, n5, (show 4 < 1000 by decide), ?_⟩
      have oz : ∀ w0 w1 w2 : HO, Off x H' (upd (upd (upd (H') x w0) x w1) x w2) := fun w0 w1 w2 => (o3 _ _ (o3 _ _ (o3 _ _ r0)))
      exact ⟨rfl, k _ t' [v0, v1, v2] _ (fun b o hb e => oz _ _ _ b o hb (ho b o hb (same_new (Same.refl H) hp b o e))) upd_same rfl rfl (oz _ _ _ _ _ htx ht') fun H'' hk' => hk H'' fun b o hb e => hk' b o hb (oz _ _ _ b o hb e)⟩
theorem scNeverI : NScope ["self", "rows", "tree", "__class__"] ["self", "rows", "tree"] ["__class__"] (defScope sNeverI) := nscope_by (by decide +kernel)
theorem ok_NeverI {f g : Addr} {fd : FuncData} {b : Nat} (I : ClsI P K mg sNeverI "Never.__init__" (cl "never") g f fd) (n3 : NoAttr K (cl "never") "rows") (n4 : NoAttr K (cl "never") "tree")
    (F : FnR P w K mg base CX0 (b + 3) g (fun vs H Q E => ∃ ws rest, vs = ws ++ rest ∧ ws.length = ["self", "word"].length ∧ rest.length ≤ sizeLine ∧ ∀ p, H p = Option.none → spPI cl K b (ws ++ [V.ref p]) (upd H p (.tup rest)) Q E)) :
    FnOk P w K mg base CX0 (b + 4) f fd ["self", "rows", "tree"] (spInit cl "never" 2 b) := by
  obtain ⟨cda, cc, oc, cellc, dV, kV, doc, pm, ct, an, od, celld, osl, cells, cv, rfl, lk, hcd, hc, S⟩ := I.ex
  refine fn_first (N := ["self", "rows", "tree", "__class__"]) (k := b + 3) lk hcd scNeverI hc (fun vs H Q E h => ?_) (fun A outer s H vs Q E hr h => ?_) (fun _ => by rfl) (fun _ => by rfl)
  · obtain ⟨x, dx, xs, us, rfl, hl, _⟩ := h
    rw [List.length_cons, hl]
    rfl
  · obtain ⟨x, dx, xs, us, rfl, hl, h1, h2, h3, h4, k⟩ := h
    obtain ⟨u0, u1, rfl⟩ : ∃ u0 u1, us = [u0, u1] := by
      match us, hl with
      | [u0, u1], _ => exact ⟨u0, u1, rfl⟩
    have hlx : xs.length = 2 := (hasL_len h2).symm.trans hl
    refine ⟨_, _, pe_sup rfl S I.find I.ty I.fi lk rfl rfl F hr pass0 (pa_cons pe_str (pa_cons (pv 1) (pa_cons (pv 2) pa_nil))), pss_one (ps_asg (pe_fld (pv 0) (by rfl)) (pg_tup (by rfl) (pgs_cons (pg_fld (pv 0)) (pgs_cons (pg_fld (pv 0)) pgs_nil)))), ?_⟩
    refine ⟨x, dx, [], rfl, h1, _, rfl, _, rfl, [.ref x, .str "never"], [u0, u1], rfl, rfl, (show 2 ≤ sizeLine by decide), fun p hp => ⟨x, p, _, dx, _, xs, [u0, u1], rfl, ?_, upd_same, hasL_kept (Kept.of (same_new (Same.refl H) hp)) xs h2, h3, by omega, h4, I.cls, I.n1, I.n2, fun t' us' H' ho hx ht' hk => ?_⟩⟩
    · rw [upd_ne (ne_of_none h1 hp)]
      exact h1
    · obtain ⟨v0, v1, rfl⟩ : ∃ v0 v1, us' = [v0, v1] := by
        have := (hasL_len (hk H' fun _ _ _ e => e)).trans hlx
        match us', this with
        | [v0, v1], _ => exact ⟨v0, v1, rfl⟩
      have htx : t' ≠ x := fun e => by rw [e, hx] at ht'; cases ht'
      have o3 : ∀ (H'' : Hp) o, Off x H' H'' → Off x H' (upd H'' x o) := fun H'' o h b u hb e => by
        rw [upd_ne hb]
        exact h b u hb e
      have r0 : Off x H' H' := fun _ _ _ e => e
      refine ⟨_, rfl, x, _, dx, _, _, rfl, hx, I.cls, I.n2, rfl, t', [v0, v1], rfl, SqT.of ht', rfl, ?_⟩
      refine ⟨_, _, rfl, _, rfl, x, _, dx, _, rfl, hx, I.cls, n3, (show 2 < 1000 by decide), ?_⟩
      refine ⟨_, _, rfl, _, rfl, x, _, dx, _, rfl, upd_same, I.cls, n4, (show 3 < 1000 by decide), ?_⟩
      have oz : ∀ w0 w1 : HO, Off x H' (upd (upd (H') x w0) x w1) := fun w0 w1 => (o3 _ _ (o3 _ _ r0))
      exact ⟨rfl, k _ t' [v0, v1] _ (fun b o hb e => oz _ _ b o hb (ho b o hb (same_new (Same.refl H) hp b o e))) upd_same rfl rfl (oz _ _ _ _ htx ht') fun H'' hk' => hk H'' fun b o hb e => hk' b o hb (oz _ _ b o hb e)⟩
theorem scHindersI : NScope ["self", "least", "greatest", "__class__"] ["self", "least", "greatest"] ["__class__"] (defScope sHindersI) := nscope_by (by decide +kernel)
theorem ok_HindersI {f g : Addr} {fd : FuncData} {b : Nat} (I : ClsI P K mg sHindersI "Hinders.__init__" (cl "hinders") g f fd) (n3 : NoAttr K (cl "hinders") "least") (n4 : NoAttr K (cl "hinders") "greatest")
    (F : FnR P w K mg base CX0 (b + 3) g (fun vs H Q E => ∃ ws rest, vs = ws ++ rest ∧ ws.length = ["self", "word"].length ∧ rest.length ≤ sizeLine ∧ ∀ p, H p = Option.none → spPI cl K b (ws ++ [V.ref p]) (upd H p (.tup rest)) Q E)) :
    FnOk P w K mg base CX0 (b + 4) f fd ["self", "least", "greatest"] (spInit cl "hinders" 2 b) := by
  obtain ⟨cda, cc, oc, cellc, dV, kV, doc, pm, ct, an, od, celld, osl, cells, cv, rfl, lk, hcd, hc, S⟩ := I.ex
  refine fn_first (N := ["self", "least", "greatest", "__class__"]) (k := b + 3) lk hcd scHindersI hc (fun vs H Q E h => ?_) (fun A outer s H vs Q E hr h => ?_) (fun _ => by rfl) (fun _ => by rfl)
  · obtain ⟨x, dx, xs, us, rfl, hl, _⟩ := h
    rw [List.length_cons, hl]
    rfl
  · obtain ⟨x, dx, xs, us, rfl, hl, h1, h2, h3, h4, k⟩ := h
    obtain ⟨u0, u1, rfl⟩ : ∃ u0 u1, us = [u0, u1] := by
      match us, hl with
      | [u0, u1], _ => exact ⟨u0, u1, rfl⟩
    have hlx : xs.length = 2 := (hasL_len h2).symm.trans hl
    refine ⟨_, _, pe_sup rfl S I.find I.ty I.fi lk rfl rfl F hr pass0 (pa_cons pe_str (pa_cons (pv 1) (pa_cons (pv 2) pa_nil))), pss_one (ps_asg (pe_fld (pv 0) (by rfl)) (pg_tup (by rfl) (pgs_cons (pg_fld (pv 0)) (pgs_cons (pg_fld (pv 0)) pgs_nil)))), ?_⟩
    refine ⟨x, dx, [], rfl, h1, _, rfl, _, rfl, [.ref x, .str "hinders"], [u0, u1], rfl, rfl, (show 2 ≤ sizeLine by decide), fun p hp => ⟨x, p, _, dx, _, xs, [u0, u1], rfl, ?_, upd_same, hasL_kept (Kept.of (same_new (Same.refl H) hp)) xs h2, h3, by omega, h4, I.cls, I.n1, I.n2, fun t' us' H' ho hx ht' hk => ?_⟩⟩
    · rw [upd_ne (ne_of_none h1 hp)]
      exact h1
    · obtain ⟨v0, v1, rfl⟩ : ∃ v0 v1, us' = [v0, v1] := by
        have := (hasL_len (hk H' fun _ _ _ e => e)).trans hlx
        match us', this with
        | [v0, v1], _ => exact ⟨v0, v1, rfl⟩
      have htx : t' ≠ x := fun e => by rw [e, hx] at ht'; cases ht'
      have o3 : ∀ (H'' : Hp) o, Off x H' H'' → Off x H' (upd H'' x o) := fun H'' o h b u hb e => by
        rw [upd_ne hb]
        exact h b u hb e
      have r0 : Off x H' H' := fun _ _ _ e => e
      refine ⟨_, rfl, x, _, dx, _, _, rfl, hx, I.cls, I.n2, rfl, t', [v0, v1], rfl, SqT.of ht', rfl, ?_⟩
      refine ⟨_, _, rfl, _, rfl, x, _, dx, _, rfl, hx, I.cls, n3, (show 2 < 1000 by decide), ?_⟩
      refine ⟨_, _, rfl, _, rfl, x, _, dx, _, rfl, upd_same, I.cls, n4, (show 3 < 1000 by decide), ?_⟩
      have oz : ∀ w0 w1 : HO, Off x H' (upd (upd (H') x w0) x w1) := fun w0 w1 => (o3 _ _ (o3 _ _ r0))
      exact ⟨rfl, k _ t' [v0, v1] _ (fun b o hb e => oz _ _ b o hb (ho b o hb (same_new (Same.refl H) hp b o e))) upd_same rfl rfl (oz _ _ _ _ htx ht') fun H'' hk' => hk H'' fun b o hb e => hk' b o hb (oz _ _ b o hb e)⟩
theorem scMomentI : NScope ["self", "tick", "turns", "__class__"] ["self", "tick", "turns"] ["__class__"] (defScope sMomentI) := nscope_by (by decide +kernel)
theorem ok_MomentI {f g : Addr} {fd : FuncData} {b : Nat} (I : ClsI P K mg sMomentI "Moment.__init__" (cl "moment") g f fd) (n3 : NoAttr K (cl "moment") "tick") (n4 : NoAttr K (cl "moment") "turns")
    (F : FnR P w K mg base CX0 (b + 3) g (fun vs H Q E => ∃ ws rest, vs = ws ++ rest ∧ ws.length = ["self", "word"].length ∧ rest.length ≤ sizeLine ∧ ∀ p, H p = Option.none → spPI cl K b (ws ++ [V.ref p]) (upd H p (.tup rest)) Q E)) :
    FnOk P w K mg base CX0 (b + 4) f fd ["self", "tick", "turns"] (spInit cl "moment" 2 b) := by
  obtain ⟨cda, cc, oc, cellc, dV, kV, doc, pm, ct, an, od, celld, osl, cells, cv, rfl, lk, hcd, hc, S⟩ := I.ex
  refine fn_first (N := ["self", "tick", "turns", "__class__"]) (k := b + 3) lk hcd scMomentI hc (fun vs H Q E h => ?_) (fun A outer s H vs Q E hr h => ?_) (fun _ => by rfl) (fun _ => by rfl)
  · obtain ⟨x, dx, xs, us, rfl, hl, _⟩ := h
    rw [List.length_cons, hl]
    rfl
  · obtain ⟨x, dx, xs, us, rfl, hl, h1, h2, h3, h4, k⟩ := h
    obtain ⟨u0, u1, rfl⟩ : ∃ u0 u1, us = [u0, u1] := by
      match us, hl with
      | [u0, u1], _ => exact ⟨u0, u1, rfl⟩
    have hlx : xs.length = 2 := (hasL_len h2).symm.trans hl
    refine ⟨_, _, pe_sup rfl S I.find I.ty I.fi lk rfl rfl F hr pass0 (pa_cons pe_str (pa_cons (pv 1) (pa_cons (pv 2) pa_nil))), pss_one (ps_asg (pe_fld (pv 0) (by rfl)) (pg_tup (by rfl) (pgs_cons (pg_fld (pv 0)) (pgs_cons (pg_fld (pv 0)) pgs_nil)))), ?_⟩
    refine ⟨x, dx, [], rfl, h1, _, rfl, _, rfl, [.ref x, .str "moment"], [u0, u1], rfl, rfl, (show 2 ≤ sizeLine by decide), fun p hp => ⟨x, p, _, dx, _, xs, [u0, u1], rfl, ?_, upd_same, hasL_kept (Kept.of (same_new (Same.refl H) hp)) xs h2, h3, by omega, h4, I.cls, I.n1, I.n2, fun t' us' H' ho hx ht' hk => ?_⟩⟩
    · rw [upd_ne (ne_of_none h1 hp)]
      exact h1
    · obtain ⟨v0, v1, rfl⟩ : ∃ v0 v1, us' = [v0, v1] := by
        have := (hasL_len (hk H' fun _ _ _ e => e)).trans hlx
        match us', this with
        | [v0, v1], _ => exact ⟨v0, v1, rfl⟩
      have htx : t' ≠ x := fun e => by rw [e, hx] at ht'; cases ht'
      have o3 : ∀ (H'' : Hp) o, Off x H' H'' → Off x H' (upd H'' x o) := fun H'' o h b u hb e => by
        rw [upd_ne hb]
        exact h b u hb e
      have r0 : Off x H' H' := fun _ _ _ e => e
      refine ⟨_, rfl, x, _, dx, _, _, rfl, hx, I.cls, I.n2, rfl, t', [v0, v1], rfl, SqT.of ht', rfl, ?_⟩
      refine ⟨_, _, rfl, _, rfl, x, _, dx, _, rfl, hx, I.cls, n3, (show 2 < 1000 by decide), ?_⟩
      refine ⟨_, _, rfl, _, rfl, x, _, dx, _, rfl, upd_same, I.cls, n4, (show 3 < 1000 by decide), ?_⟩
      have oz : ∀ w0 w1 : HO, Off x H' (upd (upd (H') x w0) x w1) := fun w0 w1 => (o3 _ _ (o3 _ _ r0))
      exact ⟨rfl, k _ t' [v0, v1] _ (fun b o hb e => oz _ _ b o hb (ho b o hb (same_new (Same.refl H) hp b o e))) upd_same rfl rfl (oz _ _ _ _ htx ht') fun H'' hk' => hk H'' fun b o hb e => hk' b o hb (oz _ _ b o hb e)⟩
theorem scRoundsI : NScope ["self", "period", "ticks", "__class__"] ["self", "period", "ticks"] ["__class__"] (defScope sRoundsI) := nscope_by (by decide +kernel)
theorem ok_RoundsI {f g : Addr} {fd : FuncData} {b : Nat} (I : ClsI P K mg sRoundsI "Rounds.__init__" (cl "rounds") g f fd) (n3 : NoAttr K (cl "rounds") "period") (n4 : NoAttr K (cl "rounds") "ticks")
    (F : FnR P w K mg base CX0 (b + 3) g (fun vs H Q E => ∃ ws rest, vs = ws ++ rest ∧ ws.length = ["self", "word"].length ∧ rest.length ≤ sizeLine ∧ ∀ p, H p = Option.none → spPI cl K b (ws ++ [V.ref p]) (upd H p (.tup rest)) Q E)) :
    FnOk P w K mg base CX0 (b + 4) f fd ["self", "period", "ticks"] (spInit cl "rounds" 2 b) := by
  obtain ⟨cda, cc, oc, cellc, dV, kV, doc, pm, ct, an, od, celld, osl, cells, cv, rfl, lk, hcd, hc, S⟩ := I.ex
  refine fn_first (N := ["self", "period", "ticks", "__class__"]) (k := b + 3) lk hcd scRoundsI hc (fun vs H Q E h => ?_) (fun A outer s H vs Q E hr h => ?_) (fun _ => by rfl) (fun _ => by rfl)
  · obtain ⟨x, dx, xs, us, rfl, hl, _⟩ := h
    rw [List.length_cons, hl]
    rfl
  · obtain ⟨x, dx, xs, us, rfl, hl, h1, h2, h3, h4, k⟩ := h
    obtain ⟨u0, u1, rfl⟩ : ∃ u0 u1, us = [u0, u1] := by
      match us, hl with
      | [u0, u1], _ => exact ⟨u0, u1, rfl⟩
    have hlx : xs.length = 2 := (hasL_len h2).symm.trans hl
    refine ⟨_, _, pe_sup rfl S I.find I.ty I.fi lk rfl rfl F hr pass0 (pa_cons pe_str (pa_cons (pv 1) (pa_cons (pv 2) pa_nil))), pss_one (ps_asg (pe_fld (pv 0) (by rfl)) (pg_tup (by rfl) (pgs_cons (pg_fld (pv 0)) (pgs_cons (pg_fld (pv 0)) pgs_nil)))), ?_⟩
    refine ⟨x, dx, [], rfl, h1, _, rfl, _, rfl, [.ref x, .str "rounds"], [u0, u1], rfl, rfl, (show 2 ≤ sizeLine by decide), fun p hp => ⟨x, p, _, dx, _, xs, [u0, u1], rfl, ?_, upd_same, hasL_kept (Kept.of (same_new (Same.refl H) hp)) xs h2, h3, by omega, h4, I.cls, I.n1, I.n2, fun t' us' H' ho hx ht' hk => ?_⟩⟩
    · rw [upd_ne (ne_of_none h1 hp)]
      exact h1
    · obtain ⟨v0, v1, rfl⟩ : ∃ v0 v1, us' = [v0, v1] := by
        have := (hasL_len (hk H' fun _ _ _ e => e)).trans hlx
        match us', this with
        | [v0, v1], _ => exact ⟨v0, v1, rfl⟩
      have htx : t' ≠ x := fun e => by rw [e, hx] at ht'; cases ht'
      have o3 : ∀ (H'' : Hp) o, Off x H' H'' → Off x H' (upd H'' x o) := fun H'' o h b u hb e => by
        rw [upd_ne hb]
        exact h b u hb e
      have r0 : Off x H' H' := fun _ _ _ e => e
      refine ⟨_, rfl, x, _, dx, _, _, rfl, hx, I.cls, I.n2, rfl, t', [v0, v1], rfl, SqT.of ht', rfl, ?_⟩
      refine ⟨_, _, rfl, _, rfl, x, _, dx, _, rfl, hx, I.cls, n3, (show 2 < 1000 by decide), ?_⟩
      refine ⟨_, _, rfl, _, rfl, x, _, dx, _, rfl, upd_same, I.cls, n4, (show 3 < 1000 by decide), ?_⟩
      have oz : ∀ w0 w1 : HO, Off x H' (upd (upd (H') x w0) x w1) := fun w0 w1 => (o3 _ _ (o3 _ _ r0))
      exact ⟨rfl, k _ t' [v0, v1] _ (fun b o hb e => oz _ _ b o hb (ho b o hb (same_new (Same.refl H) hp b o e))) upd_same rfl rfl (oz _ _ _ _ htx ht') fun H'' hk' => hk H'' fun b o hb e => hk' b o hb (oz _ _ b o hb e)⟩
theorem scReachedI : NScope ["self", "near", "number", "tick", "point", "__class__"] ["self", "near", "number", "tick", "point"] ["__class__"] (defScope sReachedI) := nscope_by (by decide +kernel)
theorem ok_ReachedI {f g : Addr} {fd : FuncData} {b : Nat} (I : ClsI P K mg sReachedI "Reached.__init__" (cl "reached") g f fd) (n3 : NoAttr K (cl "reached") "near") (n4 : NoAttr K (cl "reached") "number") (n5 : NoAttr K (cl "reached") "tick") (n6 : NoAttr K (cl "reached") "point")
    (F : FnR P w K mg base CX0 (b + 3) g (fun vs H Q E => ∃ ws rest, vs = ws ++ rest ∧ ws.length = ["self", "word"].length ∧ rest.length ≤ sizeLine ∧ ∀ p, H p = Option.none → spPI cl K b (ws ++ [V.ref p]) (upd H p (.tup rest)) Q E)) :
    FnOk P w K mg base CX0 (b + 4) f fd ["self", "near", "number", "tick", "point"] (spInit cl "reached" 4 b) := by
  obtain ⟨cda, cc, oc, cellc, dV, kV, doc, pm, ct, an, od, celld, osl, cells, cv, rfl, lk, hcd, hc, S⟩ := I.ex
  refine fn_first (N := ["self", "near", "number", "tick", "point", "__class__"]) (k := b + 3) lk hcd scReachedI hc (fun vs H Q E h => ?_) (fun A outer s H vs Q E hr h => ?_) (fun _ => by rfl) (fun _ => by rfl)
  · obtain ⟨x, dx, xs, us, rfl, hl, _⟩ := h
    rw [List.length_cons, hl]
    rfl
  · obtain ⟨x, dx, xs, us, rfl, hl, h1, h2, h3, h4, k⟩ := h
    obtain ⟨u0, u1, u2, u3, rfl⟩ : ∃ u0 u1 u2 u3, us = [u0, u1, u2, u3] := by
      match us, hl with
      | [u0, u1, u2, u3], _ => exact ⟨u0, u1, u2, u3, rfl⟩
    have hlx : xs.length = 4 := (hasL_len h2).symm.trans hl
    refine ⟨_, _, pe_sup rfl S I.find I.ty I.fi lk rfl rfl F hr pass0 (pa_cons pe_str (pa_cons (pv 1) (pa_cons (pv 2) (pa_cons (pv 3) (pa_cons (pv 4) pa_nil))))), pss_one (ps_asg (pe_fld (pv 0) (by rfl)) (pg_tup (by rfl) (pgs_cons (pg_fld (pv 0)) (pgs_cons (pg_fld (pv 0)) (pgs_cons (pg_fld (pv 0)) (pgs_cons (pg_fld (pv 0)) pgs_nil)))))), ?_⟩
    refine ⟨x, dx, [], rfl, h1, _, rfl, _, rfl, _, rfl, _, rfl, [.ref x, .str "reached"], [u0, u1, u2, u3], rfl, rfl, (show 4 ≤ sizeLine by decide), fun p hp => ⟨x, p, _, dx, _, xs, [u0, u1, u2, u3], rfl, ?_, upd_same, hasL_kept (Kept.of (same_new (Same.refl H) hp)) xs h2, h3, by omega, h4, I.cls, I.n1, I.n2, fun t' us' H' ho hx ht' hk => ?_⟩⟩
    · rw [upd_ne (ne_of_none h1 hp)]
      exact h1
    · obtain ⟨v0, v1, v2, v3, rfl⟩ : ∃ v0 v1 v2 v3, us' = [v0, v1, v2, v3] := by
        have := (hasL_len (hk H' fun _ _ _ e => e)).trans hlx
        match us', this with
        | [v0, v1, v2, v3], _ => exact ⟨v0, v1, v2, v3, rfl⟩
      have htx : t' ≠ x := fun e => by rw [e, hx] at ht'; cases ht'
      have o3 : ∀ (H'' : Hp) o, Off x H' H'' → Off x H' (upd H'' x o) := fun H'' o h b u hb e => by
        rw [upd_ne hb]
        exact h b u hb e
      have r0 : Off x H' H' := fun _ _ _ e => e
      refine ⟨_, rfl, x, _, dx, _, _, rfl, hx, I.cls, I.n2, rfl, t', [v0, v1, v2, v3], rfl, SqT.of ht', rfl, ?_⟩
      refine ⟨_, _, rfl, _, rfl, x, _, dx, _, rfl, hx, I.cls, n3, (show 2 < 1000 by decide), ?_⟩
      refine ⟨_, _, rfl, _, rfl, x, _, dx, _, rfl, upd_same, I.cls, n4, (show 3 < 1000 by decide), ?_⟩
      refine ⟨_, _, rfl, _, rfl, x, _, dx, _, rfl, upd_same, I.cls, n5, (show 4 < 1000 by decide), ?_⟩
      refine ⟨_, _, rfl, _, rfl, x, _, dx, _, rfl, upd_same, I.cls, n6, (show 5 < 1000 by decide), ?_⟩
      have oz : ∀ w0 w1 w2 w3 : HO, Off x H' (upd (upd (upd (upd (H') x w0) x w1) x w2) x w3) := fun w0 w1 w2 w3 => (o3 _ _ (o3 _ _ (o3 _ _ (o3 _ _ r0))))
      exact ⟨rfl, k _ t' [v0, v1, v2, v3] _ (fun b o hb e => oz _ _ _ _ b o hb (ho b o hb (same_new (Same.refl H) hp b o e))) upd_same rfl rfl (oz _ _ _ _ _ _ htx ht') fun H'' hk' => hk H'' fun b o hb e => hk' b o hb (oz _ _ _ _ b o hb e)⟩
theorem scUnreachedI : NScope ["self", "near", "number", "rows", "entries", "__class__"] ["self", "near", "number", "rows", "entries"] ["__class__"] (defScope sUnreachedI) := nscope_by (by decide +kernel)
theorem ok_UnreachedI {f g : Addr} {fd : FuncData} {b : Nat} (I : ClsI P K mg sUnreachedI "Unreached.__init__" (cl "unreached") g f fd) (n3 : NoAttr K (cl "unreached") "near") (n4 : NoAttr K (cl "unreached") "number") (n5 : NoAttr K (cl "unreached") "rows") (n6 : NoAttr K (cl "unreached") "entries")
    (F : FnR P w K mg base CX0 (b + 3) g (fun vs H Q E => ∃ ws rest, vs = ws ++ rest ∧ ws.length = ["self", "word"].length ∧ rest.length ≤ sizeLine ∧ ∀ p, H p = Option.none → spPI cl K b (ws ++ [V.ref p]) (upd H p (.tup rest)) Q E)) :
    FnOk P w K mg base CX0 (b + 4) f fd ["self", "near", "number", "rows", "entries"] (spInit cl "unreached" 4 b) := by
  obtain ⟨cda, cc, oc, cellc, dV, kV, doc, pm, ct, an, od, celld, osl, cells, cv, rfl, lk, hcd, hc, S⟩ := I.ex
  refine fn_first (N := ["self", "near", "number", "rows", "entries", "__class__"]) (k := b + 3) lk hcd scUnreachedI hc (fun vs H Q E h => ?_) (fun A outer s H vs Q E hr h => ?_) (fun _ => by rfl) (fun _ => by rfl)
  · obtain ⟨x, dx, xs, us, rfl, hl, _⟩ := h
    rw [List.length_cons, hl]
    rfl
  · obtain ⟨x, dx, xs, us, rfl, hl, h1, h2, h3, h4, k⟩ := h
    obtain ⟨u0, u1, u2, u3, rfl⟩ : ∃ u0 u1 u2 u3, us = [u0, u1, u2, u3] := by
      match us, hl with
      | [u0, u1, u2, u3], _ => exact ⟨u0, u1, u2, u3, rfl⟩
    have hlx : xs.length = 4 := (hasL_len h2).symm.trans hl
    refine ⟨_, _, pe_sup rfl S I.find I.ty I.fi lk rfl rfl F hr pass0 (pa_cons pe_str (pa_cons (pv 1) (pa_cons (pv 2) (pa_cons (pv 3) (pa_cons (pv 4) pa_nil))))), pss_one (ps_asg (pe_fld (pv 0) (by rfl)) (pg_tup (by rfl) (pgs_cons (pg_fld (pv 0)) (pgs_cons (pg_fld (pv 0)) (pgs_cons (pg_fld (pv 0)) (pgs_cons (pg_fld (pv 0)) pgs_nil)))))), ?_⟩
    refine ⟨x, dx, [], rfl, h1, _, rfl, _, rfl, _, rfl, _, rfl, [.ref x, .str "unreached"], [u0, u1, u2, u3], rfl, rfl, (show 4 ≤ sizeLine by decide), fun p hp => ⟨x, p, _, dx, _, xs, [u0, u1, u2, u3], rfl, ?_, upd_same, hasL_kept (Kept.of (same_new (Same.refl H) hp)) xs h2, h3, by omega, h4, I.cls, I.n1, I.n2, fun t' us' H' ho hx ht' hk => ?_⟩⟩
    · rw [upd_ne (ne_of_none h1 hp)]
      exact h1
    · obtain ⟨v0, v1, v2, v3, rfl⟩ : ∃ v0 v1 v2 v3, us' = [v0, v1, v2, v3] := by
        have := (hasL_len (hk H' fun _ _ _ e => e)).trans hlx
        match us', this with
        | [v0, v1, v2, v3], _ => exact ⟨v0, v1, v2, v3, rfl⟩
      have htx : t' ≠ x := fun e => by rw [e, hx] at ht'; cases ht'
      have o3 : ∀ (H'' : Hp) o, Off x H' H'' → Off x H' (upd H'' x o) := fun H'' o h b u hb e => by
        rw [upd_ne hb]
        exact h b u hb e
      have r0 : Off x H' H' := fun _ _ _ e => e
      refine ⟨_, rfl, x, _, dx, _, _, rfl, hx, I.cls, I.n2, rfl, t', [v0, v1, v2, v3], rfl, SqT.of ht', rfl, ?_⟩
      refine ⟨_, _, rfl, _, rfl, x, _, dx, _, rfl, hx, I.cls, n3, (show 2 < 1000 by decide), ?_⟩
      refine ⟨_, _, rfl, _, rfl, x, _, dx, _, rfl, upd_same, I.cls, n4, (show 3 < 1000 by decide), ?_⟩
      refine ⟨_, _, rfl, _, rfl, x, _, dx, _, rfl, upd_same, I.cls, n5, (show 4 < 1000 by decide), ?_⟩
      refine ⟨_, _, rfl, _, rfl, x, _, dx, _, rfl, upd_same, I.cls, n6, (show 5 < 1000 by decide), ?_⟩
      have oz : ∀ w0 w1 w2 w3 : HO, Off x H' (upd (upd (upd (upd (H') x w0) x w1) x w2) x w3) := fun w0 w1 w2 w3 => (o3 _ _ (o3 _ _ (o3 _ _ (o3 _ _ r0))))
      exact ⟨rfl, k _ t' [v0, v1, v2, v3] _ (fun b o hb e => oz _ _ _ _ b o hb (ho b o hb (same_new (Same.refl H) hp b o e))) upd_same rfl rfl (oz _ _ _ _ _ _ htx ht') fun H'' hk' => hk H'' fun b o hb e => hk' b o hb (oz _ _ _ _ b o hb e)⟩
theorem scRealMomentI : NScope ["self", "time", "__class__"] ["self", "time"] ["__class__"] (defScope sRealMomentI) := nscope_by (by decide +kernel)
theorem ok_RealMomentI {f g : Addr} {fd : FuncData} {b : Nat} (I : ClsI P K mg sRealMomentI "RealMoment.__init__" (cl "realmoment") g f fd) (n3 : NoAttr K (cl "realmoment") "time")
    (F : FnR P w K mg base CX0 (b + 3) g (fun vs H Q E => ∃ ws rest, vs = ws ++ rest ∧ ws.length = ["self", "word"].length ∧ rest.length ≤ sizeLine ∧ ∀ p, H p = Option.none → spPI cl K b (ws ++ [V.ref p]) (upd H p (.tup rest)) Q E)) :
    FnOk P w K mg base CX0 (b + 4) f fd ["self", "time"] (spInit cl "realmoment" 1 b) := by
  obtain ⟨cda, cc, oc, cellc, dV, kV, doc, pm, ct, an, od, celld, osl, cells, cv, rfl, lk, hcd, hc, S⟩ := I.ex
  refine fn_first (N := ["self", "time", "__class__"]) (k := b + 3) lk hcd scRealMomentI hc (fun vs H Q E h => ?_) (fun A outer s H vs Q E hr h => ?_) (fun _ => by rfl) (fun _ => by rfl)
  · obtain ⟨x, dx, xs, us, rfl, hl, _⟩ := h
    rw [List.length_cons, hl]
    rfl
  · obtain ⟨x, dx, xs, us, rfl, hl, h1, h2, h3, h4, k⟩ := h
    obtain ⟨u0, rfl⟩ : ∃ u0, us = [u0] := by
      match us, hl with
      | [u0], _ => exact ⟨u0, rfl⟩
    have hlx : xs.length = 1 := (hasL_len h2).symm.trans hl
    refine ⟨_, _, pe_sup rfl S I.find I.ty I.fi lk rfl rfl F hr pass0 (pa_cons pe_str (pa_cons (pv 1) pa_nil)), pss_one (ps_asg (pe_fld (pv 0) (by rfl)) (pg_tup (by rfl) (pgs_cons (pg_fld (pv 0)) pgs_nil))), ?_⟩
    refine ⟨x, dx, [], rfl, h1, _, rfl, [.ref x, .str "realmoment"], [u0], rfl, rfl, (show 1 ≤ sizeLine by decide), fun p hp => ⟨x, p, _, dx, _, xs, [u0], rfl, ?_, upd_same, hasL_kept (Kept.of (same_new (Same.refl H) hp)) xs h2, h3, by omega, h4, I.cls, I.n1, I.n2, fun t' us' H' ho hx ht' hk => ?_⟩⟩
    · rw [upd_ne (ne_of_none h1 hp)]
      exact h1
    · obtain ⟨v0, rfl⟩ : ∃ v0, us' = [v0] := by
        have := (hasL_len (hk H' fun _ _ _ e => e)).trans hlx
        match us', this with
        | [v0], _ => exact ⟨v0, rfl⟩
      have htx : t' ≠ x := fun e => by rw [e, hx] at ht'; cases ht'
      have o3 : ∀ (H'' : Hp) o, Off x H' H'' → Off x H' (upd H'' x o) := fun H'' o h b u hb e => by
        rw [upd_ne hb]
        exact h b u hb e
      have r0 : Off x H' H' := fun _ _ _ e => e
      refine ⟨_, rfl, x, _, dx, _, _, rfl, hx, I.cls, I.n2, rfl, t', [v0], rfl, SqT.of ht', rfl, ?_⟩
      refine ⟨_, _, rfl, _, rfl, x, _, dx, _, rfl, hx, I.cls, n3, (show 2 < 1000 by decide), ?_⟩
      have oz : ∀ w0 : HO, Off x H' (upd (H') x w0) := fun w0 => (o3 _ _ r0)
      exact ⟨rfl, k _ t' [v0] _ (fun b o hb e => oz _ b o hb (ho b o hb (same_new (Same.refl H) hp b o e))) upd_same rfl rfl (oz _ _ _ htx ht') fun H'' hk' => hk H'' fun b o hb e => hk' b o hb (oz _ b o hb e)⟩
theorem scRecordsI : NScope ["self", "rows", "__class__"] ["self", "rows"] ["__class__"] (defScope sRecordsI) := nscope_by (by decide +kernel)
theorem ok_RecordsI {f g : Addr} {fd : FuncData} {b : Nat} (I : ClsI P K mg sRecordsI "Records.__init__" (cl "records") g f fd) (n3 : NoAttr K (cl "records") "rows")
    (F : FnR P w K mg base CX0 (b + 3) g (fun vs H Q E => ∃ ws rest, vs = ws ++ rest ∧ ws.length = ["self", "word"].length ∧ rest.length ≤ sizeLine ∧ ∀ p, H p = Option.none → spPI cl K b (ws ++ [V.ref p]) (upd H p (.tup rest)) Q E)) :
    FnOk P w K mg base CX0 (b + 4) f fd ["self", "rows"] (spInit cl "records" 1 b) := by
  obtain ⟨cda, cc, oc, cellc, dV, kV, doc, pm, ct, an, od, celld, osl, cells, cv, rfl, lk, hcd, hc, S⟩ := I.ex
  refine fn_first (N := ["self", "rows", "__class__"]) (k := b + 3) lk hcd scRecordsI hc (fun vs H Q E h => ?_) (fun A outer s H vs Q E hr h => ?_) (fun _ => by rfl) (fun _ => by rfl)
  · obtain ⟨x, dx, xs, us, rfl, hl, _⟩ := h
    rw [List.length_cons, hl]
    rfl
  · obtain ⟨x, dx, xs, us, rfl, hl, h1, h2, h3, h4, k⟩ := h
    obtain ⟨u0, rfl⟩ : ∃ u0, us = [u0] := by
      match us, hl with
      | [u0], _ => exact ⟨u0, rfl⟩
    have hlx : xs.length = 1 := (hasL_len h2).symm.trans hl
    refine ⟨_, _, pe_sup rfl S I.find I.ty I.fi lk rfl rfl F hr pass0 (pa_cons pe_str (pa_cons (pv 1) pa_nil)), pss_one (ps_asg (pe_fld (pv 0) (by rfl)) (pg_tup (by rfl) (pgs_cons (pg_fld (pv 0)) pgs_nil))), ?_⟩
    refine ⟨x, dx, [], rfl, h1, _, rfl, [.ref x, .str "records"], [u0], rfl, rfl, (show 1 ≤ sizeLine by decide), fun p hp => ⟨x, p, _, dx, _, xs, [u0], rfl, ?_, upd_same, hasL_kept (Kept.of (same_new (Same.refl H) hp)) xs h2, h3, by omega, h4, I.cls, I.n1, I.n2, fun t' us' H' ho hx ht' hk => ?_⟩⟩
    · rw [upd_ne (ne_of_none h1 hp)]
      exact h1
    · obtain ⟨v0, rfl⟩ : ∃ v0, us' = [v0] := by
        have := (hasL_len (hk H' fun _ _ _ e => e)).trans hlx
        match us', this with
        | [v0], _ => exact ⟨v0, rfl⟩
      have htx : t' ≠ x := fun e => by rw [e, hx] at ht'; cases ht'
      have o3 : ∀ (H'' : Hp) o, Off x H' H'' → Off x H' (upd H'' x o) := fun H'' o h b u hb e => by
        rw [upd_ne hb]
        exact h b u hb e
      have r0 : Off x H' H' := fun _ _ _ e => e
      refine ⟨_, rfl, x, _, dx, _, _, rfl, hx, I.cls, I.n2, rfl, t', [v0], rfl, SqT.of ht', rfl, ?_⟩
      refine ⟨_, _, rfl, _, rfl, x, _, dx, _, rfl, hx, I.cls, n3, (show 2 < 1000 by decide), ?_⟩
      have oz : ∀ w0 : HO, Off x H' (upd (H') x w0) := fun w0 => (o3 _ _ r0)
      exact ⟨rfl, k _ t' [v0] _ (fun b o hb e => oz _ b o hb (ho b o hb (same_new (Same.refl H) hp b o e))) upd_same rfl rfl (oz _ _ _ htx ht') fun H'' hk' => hk H'' fun b o hb e => hk' b o hb (oz _ b o hb e)⟩
theorem scSmithI : NScope ["self", "left", "factors", "right", "__class__"] ["self", "left", "factors", "right"] ["__class__"] (defScope sSmithI) := nscope_by (by decide +kernel)
theorem ok_SmithI {f g : Addr} {fd : FuncData} {b : Nat} (I : ClsI P K mg sSmithI "Smith.__init__" (cl "smith") g f fd) (n3 : NoAttr K (cl "smith") "left") (n4 : NoAttr K (cl "smith") "factors") (n5 : NoAttr K (cl "smith") "right")
    (F : FnR P w K mg base CX0 (b + 3) g (fun vs H Q E => ∃ ws rest, vs = ws ++ rest ∧ ws.length = ["self", "word"].length ∧ rest.length ≤ sizeLine ∧ ∀ p, H p = Option.none → spPI cl K b (ws ++ [V.ref p]) (upd H p (.tup rest)) Q E)) :
    FnOk P w K mg base CX0 (b + 4) f fd ["self", "left", "factors", "right"] (spInit cl "smith" 3 b) := by
  obtain ⟨cda, cc, oc, cellc, dV, kV, doc, pm, ct, an, od, celld, osl, cells, cv, rfl, lk, hcd, hc, S⟩ := I.ex
  refine fn_first (N := ["self", "left", "factors", "right", "__class__"]) (k := b + 3) lk hcd scSmithI hc (fun vs H Q E h => ?_) (fun A outer s H vs Q E hr h => ?_) (fun _ => by rfl) (fun _ => by rfl)
  · obtain ⟨x, dx, xs, us, rfl, hl, _⟩ := h
    rw [List.length_cons, hl]
    rfl
  · obtain ⟨x, dx, xs, us, rfl, hl, h1, h2, h3, h4, k⟩ := h
    obtain ⟨u0, u1, u2, rfl⟩ : ∃ u0 u1 u2, us = [u0, u1, u2] := by
      match us, hl with
      | [u0, u1, u2], _ => exact ⟨u0, u1, u2, rfl⟩
    have hlx : xs.length = 3 := (hasL_len h2).symm.trans hl
    refine ⟨_, _, pe_sup rfl S I.find I.ty I.fi lk rfl rfl F hr pass0 (pa_cons pe_str (pa_cons (pv 1) (pa_cons (pv 2) (pa_cons (pv 3) pa_nil)))), pss_one (ps_asg (pe_fld (pv 0) (by rfl)) (pg_tup (by rfl) (pgs_cons (pg_fld (pv 0)) (pgs_cons (pg_fld (pv 0)) (pgs_cons (pg_fld (pv 0)) pgs_nil))))), ?_⟩
    refine ⟨x, dx, [], rfl, h1, _, rfl, _, rfl, _, rfl, [.ref x, .str "smith"], [u0, u1, u2], rfl, rfl, (show 3 ≤ sizeLine by decide), fun p hp => ⟨x, p, _, dx, _, xs, [u0, u1, u2], rfl, ?_, upd_same, hasL_kept (Kept.of (same_new (Same.refl H) hp)) xs h2, h3, by omega, h4, I.cls, I.n1, I.n2, fun t' us' H' ho hx ht' hk => ?_⟩⟩
    · rw [upd_ne (ne_of_none h1 hp)]
      exact h1
    · obtain ⟨v0, v1, v2, rfl⟩ : ∃ v0 v1 v2, us' = [v0, v1, v2] := by
        have := (hasL_len (hk H' fun _ _ _ e => e)).trans hlx
        match us', this with
        | [v0, v1, v2], _ => exact ⟨v0, v1, v2, rfl⟩
      have htx : t' ≠ x := fun e => by rw [e, hx] at ht'; cases ht'
      have o3 : ∀ (H'' : Hp) o, Off x H' H'' → Off x H' (upd H'' x o) := fun H'' o h b u hb e => by
        rw [upd_ne hb]
        exact h b u hb e
      have r0 : Off x H' H' := fun _ _ _ e => e
      refine ⟨_, rfl, x, _, dx, _, _, rfl, hx, I.cls, I.n2, rfl, t', [v0, v1, v2], rfl, SqT.of ht', rfl, ?_⟩
      refine ⟨_, _, rfl, _, rfl, x, _, dx, _, rfl, hx, I.cls, n3, (show 2 < 1000 by decide), ?_⟩
      refine ⟨_, _, rfl, _, rfl, x, _, dx, _, rfl, upd_same, I.cls, n4, (show 3 < 1000 by decide), ?_⟩
      refine ⟨_, _, rfl, _, rfl, x, _, dx, _, rfl, upd_same, I.cls, n5, (show 4 < 1000 by decide), ?_⟩
      have oz : ∀ w0 w1 w2 : HO, Off x H' (upd (upd (upd (H') x w0) x w1) x w2) := fun w0 w1 w2 => (o3 _ _ (o3 _ _ (o3 _ _ r0)))
      exact ⟨rfl, k _ t' [v0, v1, v2] _ (fun b o hb e => oz _ _ _ b o hb (ho b o hb (same_new (Same.refl H) hp b o e))) upd_same rfl rfl (oz _ _ _ _ _ htx ht') fun H'' hk' => hk H'' fun b o hb e => hk' b o hb (oz _ _ _ b o hb e)⟩
end
end Nr
end
set_option maxHeartbeats 200000
section
/-! NrMade: a paper made. -/
namespace Nr
open PySem PySem.Spec PyProof.Rows L2
theorem init_makes {cl : Str → Addr} {w : Str} {n b : Nat} {H : Hp} {xs : List D} {us : List V} {Q : VK} {E : XK} (hl : hasL cl H xs us) (hn : us.length = n) (ht : toldL b xs) (hw : wideL xs)
    (k : ∀ v H', Same H H' → (D.pap w xs).has cl H' v → Q v H') : ∀ x dx, H x = none → H dx = none → dx ≠ x → spInit cl w n b (.ref x :: us) (upd (upd H dx (.own x)) x (.ins (cl w) dx [])) (fun v H2 => v = .non ∧ Q (.ref x) H2) E := by
  intro x dx nx nd hne
  have s1 : Same H (upd (upd H dx (.own x)) x (.ins (cl w) dx [])) := same_new (same_new (Same.refl H) nd) nx
  refine ⟨x, dx, xs, us, rfl, hn, upd_same, hasL_kept (Kept.of s1) xs hl, ht, hw, fun fs t us' H' ho hx h1 h2 ht' hk => ⟨rfl, ?_⟩⟩
  exact k _ _ (Same.made nx nd fun b o e hb => ho b o hb e) ⟨x, dx, fs, t, us', rfl, hx, h1, h2, ht', hk H' fun _ _ _ e => e⟩
end Nr
end
set_option maxHeartbeats 200000
section
/-! NrMadeOf: made_of_two, made_of. -/
namespace Nr
open PySem PySem.Spec PyProof.Rows L2
/-- a class that the head made, with its __init__ -/
def MkC (P : Program) (w : World) (K : PySem.W.Frag) (mg : Str → Option Value) (base : Heap) (cl : Str → Addr) (b : Nat) (nm wd : Str) (ps : List Str) : Prop :=
  ∃ (f : Addr) (fd : FuncData), Mk K (cl wd) f ∧ FnOk P w K mg base CX0 (b + 4) f fd ("self" :: ps) (spInit cl wd ps.length b) ∧ Binds K fd ("self" :: ps) [] ∧ mg nm = some (.ref (cl wd))
def spMade (cl : Str → Addr) (b : Nat) : Sp := fun vs H Q _ => ∃ (wd : Str) (l : Addr) (us : List V) (xs : List D), vs = [.str wd, .ref l] ∧ H l = some (.lst us) ∧ hasL cl H xs us ∧ many wd = some xs.length ∧ toldL b xs ∧ wideL xs ∧
  ∀ v H', Same H H' → (D.pap wd xs).has cl H' v → Q v H'
section
variable {P : Program} {w : World} {K : PySem.W.Frag} {mg : Str → Option Value} {base : Heap} {cl : Str → Addr}
theorem scMade2 : FnScope ["word", "parts"] ["word", "parts"] (defScope sMade2) := ⟨rfl, rfl, rfl, by decide +kernel, rfl, by decide +kernel, by decide +kernel⟩
theorem ok_made2 {f : Addr} {fd : FuncData} {b : Nat} (F : Fun K "made_of_two" "made_of_two" sMade2 f fd)
    (m1 : MkC P w K mg base cl b "Relations" "relations" ["rows"]) (m2 : MkC P w K mg base cl b "RealMoment" "realmoment" ["time"]) (m3 : MkC P w K mg base cl b "Records" "records" ["rows"])
    (m4 : MkC P w K mg base cl b "Moment" "moment" ["tick", "turns"]) (m5 : MkC P w K mg base cl b "Never" "never" ["rows", "tree"]) (m6 : MkC P w K mg base cl b "Rounds" "rounds" ["period", "ticks"]) (m7 : MkC P w K mg base cl b "Hinders" "hinders" ["least", "greatest"]) :
    FnOk P w K mg base CX0 (b + 6) f fd ["word", "parts"] (fun vs H Q E => spMade cl b vs H Q E ∧ ∀ us l, vs[1]? = some (.ref l) → H l = some (.lst us) → us.length < 3) := by
  obtain ⟨f1, d1, k1, o1, b1, g1⟩ := m1
  obtain ⟨f2, d2, k2, o2, b2, g2⟩ := m2
  obtain ⟨f3, d3, k3, o3, b3, g3⟩ := m3
  obtain ⟨f4, d4, k4, o4, b4, g4⟩ := m4
  obtain ⟨f5, d5, k5, o5, b5, g5⟩ := m5
  obtain ⟨f6, d6, k6, o6, b6, g6⟩ := m6
  obtain ⟨f7, d7, k7, o7, b7, g7⟩ := m7
  refine F.ok scMade2 (fun vs H Q E h => ?_) (fun cdv A outer s H vs Q E hr h => ?_)
  · obtain ⟨⟨wd, l, us, xs, rfl, _⟩, _⟩ := h
    rfl
  · obtain ⟨⟨wd, l, us, xs, rfl, h1, h2, h3, h4, h5, k⟩, hlt⟩ := h
    refine ⟨_, pss_cons (ps_if (pt_cmpR op_eq (pv 0) pe_str (nomark _)) (pss_one (ps_ret (pe_make k1 o1 hr rfl g1 b1 .nil pass0 (pa_cons (pe_ix ix_list (pv 1) pe_int (fun _ _ => rfl)) pa_nil)))) pss_nil)
      (pss_cons (ps_if (pt_cmpR op_eq (pv 0) pe_str (nomark _)) (pss_one (ps_ret (pe_make k2 o2 hr rfl g2 b2 .nil pass0 (pa_cons (pe_ix ix_list (pv 1) pe_int (fun _ _ => rfl)) pa_nil)))) pss_nil)
      (pss_cons (ps_if (pt_cmpR op_eq (pv 0) pe_str (nomark _)) (pss_one (ps_ret (pe_make k3 o3 hr rfl g3 b3 .nil pass0 (pa_cons (pe_ix ix_list (pv 1) pe_int (fun _ _ => rfl)) pa_nil)))) pss_nil)
      (pss_cons (ps_if (pt_cmpR op_eq (pv 0) pe_str (nomark _)) (pss_one (ps_ret (pe_make k4 o4 hr rfl g4 b4 .nil pass0 (pa_cons (pe_ix ix_list (pv 1) pe_int (fun _ _ => rfl)) (pa_cons (pe_ix ix_list (pv 1) pe_int (fun _ _ => rfl)) pa_nil))))) pss_nil)
      (pss_cons (ps_if (pt_cmpR op_eq (pv 0) pe_str (nomark _)) (pss_one (ps_ret (pe_make k5 o5 hr rfl g5 b5 .nil pass0 (pa_cons (pe_ix ix_list (pv 1) pe_int (fun _ _ => rfl)) (pa_cons (pe_ix ix_list (pv 1) pe_int (fun _ _ => rfl)) pa_nil))))) pss_nil)
      (pss_one (ps_ret (pe_ifExp (pt_cmpR op_eq (pv 0) pe_str (nomark _)) (pe_make k6 o6 hr rfl g6 b6 .nil pass0 (pa_cons (pe_ix ix_list (pv 1) pe_int (fun _ _ => rfl)) (pa_cons (pe_ix ix_list (pv 1) pe_int (fun _ _ => rfl)) pa_nil)))
        (pe_make k7 o7 hr rfl g7 b7 .nil pass0 (pa_cons (pe_ix ix_list (pv 1) pe_int (fun _ _ => rfl)) (pa_cons (pe_ix ix_list (pv 1) pe_int (fun _ _ => rfl)) pa_nil)))))))))), ?_⟩
    refine ⟨_, rfl, rfl, _, rfl, ?_⟩
    rw [strEq]
    by_cases c1 : wd = "relations"
    · subst c1
      rw [decide_eq_true rfl]
      have e : xs.length = 1 := by
        rw [show many "relations" = some 1 by decide +kernel] at h3
        exact (Option.some.inj h3).symm
      obtain ⟨u, rfl⟩ : ∃ u, us = [u] := by
        have := (hasL_len h2).trans e
        match us, this with
        | [u], _ => exact ⟨u, rfl⟩
      exact iteT ⟨_, rfl, l, [u], 0, u, rfl, rfl, SqL.of h1, rfl, init_makes h2 rfl h4 h5 k⟩
    rw [decide_eq_false c1]
    refine iteF ⟨_, rfl, rfl, _, rfl, ?_⟩
    rw [strEq]
    by_cases c2 : wd = "realmoment"
    · subst c2
      rw [decide_eq_true rfl]
      have e : xs.length = 1 := by
        rw [show many "realmoment" = some 1 by decide +kernel] at h3
        exact (Option.some.inj h3).symm
      obtain ⟨u, rfl⟩ : ∃ u, us = [u] := by
        have := (hasL_len h2).trans e
        match us, this with
        | [u], _ => exact ⟨u, rfl⟩
      exact iteT ⟨_, rfl, l, [u], 0, u, rfl, rfl, SqL.of h1, rfl, init_makes h2 rfl h4 h5 k⟩
    rw [decide_eq_false c2]
    refine iteF ⟨_, rfl, rfl, _, rfl, ?_⟩
    rw [strEq]
    by_cases c3 : wd = "records"
    · subst c3
      rw [decide_eq_true rfl]
      have e : xs.length = 1 := by
        rw [show many "records" = some 1 by decide +kernel] at h3
        exact (Option.some.inj h3).symm
      obtain ⟨u, rfl⟩ : ∃ u, us = [u] := by
        have := (hasL_len h2).trans e
        match us, this with
        | [u], _ => exact ⟨u, rfl⟩
      exact iteT ⟨_, rfl, l, [u], 0, u, rfl, rfl, SqL.of h1, rfl, init_makes h2 rfl h4 h5 k⟩
    rw [decide_eq_false c3]
    refine iteF ⟨_, rfl, rfl, _, rfl, ?_⟩
    rw [strEq]
    by_cases c4 : wd = "moment"
    · subst c4
      rw [decide_eq_true rfl]
      have e : xs.length = 2 := by
        rw [show many "moment" = some 2 by decide +kernel] at h3
        exact (Option.some.inj h3).symm
      obtain ⟨u, v, rfl⟩ : ∃ u v, us = [u, v] := by
        have := (hasL_len h2).trans e
        match us, this with
        | [u, v], _ => exact ⟨u, v, rfl⟩
      exact iteT ⟨_, rfl, l, [u, v], 0, u, rfl, rfl, SqL.of h1, rfl, _, rfl, l, [u, v], 1, v, rfl, rfl, SqL.of h1, rfl, init_makes h2 rfl h4 h5 k⟩
    rw [decide_eq_false c4]
    refine iteF ⟨_, rfl, rfl, _, rfl, ?_⟩
    rw [strEq]
    by_cases c5 : wd = "never"
    · subst c5
      rw [decide_eq_true rfl]
      have e : xs.length = 2 := by
        rw [show many "never" = some 2 by decide +kernel] at h3
        exact (Option.some.inj h3).symm
      obtain ⟨u, v, rfl⟩ : ∃ u v, us = [u, v] := by
        have := (hasL_len h2).trans e
        match us, this with
        | [u, v], _ => exact ⟨u, v, rfl⟩
      exact iteT ⟨_, rfl, l, [u, v], 0, u, rfl, rfl, SqL.of h1, rfl, _, rfl, l, [u, v], 1, v, rfl, rfl, SqL.of h1, rfl, init_makes h2 rfl h4 h5 k⟩
    rw [decide_eq_false c5]
    refine iteF ⟨_, rfl, rfl, _, rfl, ?_⟩
    rw [strEq]
    by_cases c6 : wd = "rounds"
    · subst c6
      rw [decide_eq_true rfl]
      have e : xs.length = 2 := by
        rw [show many "rounds" = some 2 by decide +kernel] at h3
        exact (Option.some.inj h3).symm
      obtain ⟨u, v, rfl⟩ : ∃ u v, us = [u, v] := by
        have := (hasL_len h2).trans e
        match us, this with
        | [u, v], _ => exact ⟨u, v, rfl⟩
      exact iteT ⟨_, rfl, l, [u, v], 0, u, rfl, rfl, SqL.of h1, rfl, _, rfl, l, [u, v], 1, v, rfl, rfl, SqL.of h1, rfl, init_makes h2 rfl h4 h5 k⟩
    rw [decide_eq_false c6]
    have hlt' := hlt us l rfl h1
    have c7 : wd = "hinders" := by
      refine Classical.byContradiction fun c7 => ?_
      have hx := hasL_len h2
      unfold many at h3
      rw [if_neg c7, if_neg c4, if_neg c5, if_neg c2, if_neg c3, if_neg c1, if_neg c6] at h3
      split at h3
      · have := Option.some.inj h3; omega
      split at h3
      · have := Option.some.inj h3; omega
      split at h3
      · have := Option.some.inj h3; omega
      split at h3
      · have := Option.some.inj h3; omega
      split at h3
      · have := Option.some.inj h3; omega
      split at h3
      · have := Option.some.inj h3; omega
      cases h3
    subst c7
    have e : xs.length = 2 := by
      rw [show many "hinders" = some 2 by decide +kernel] at h3
      exact (Option.some.inj h3).symm
    obtain ⟨u, v, rfl⟩ : ∃ u v, us = [u, v] := by
      have := (hasL_len h2).trans e
      match us, this with
      | [u, v], _ => exact ⟨u, v, rfl⟩
    exact iteF ⟨_, rfl, l, [u, v], 0, u, rfl, rfl, SqL.of h1, rfl, _, rfl, l, [u, v], 1, v, rfl, rfl, SqL.of h1, rfl, init_makes h2 rfl h4 h5 k⟩
end
end Nr
end
set_option maxHeartbeats 200000
section
/-! NrMadeOf2: made_of. -/
namespace Nr
open PySem PySem.Spec PyProof.Rows L2
section
variable {P : Program} {w : World} {K : PySem.W.Frag} {mg : Str → Option Value} {base : Heap} {cl : Str → Addr}
theorem scMade : FnScope ["word", "parts"] ["word", "parts"] (defScope sMade) := ⟨rfl, rfl, rfl, by decide +kernel, rfl, by decide +kernel, by decide +kernel⟩
theorem ok_made {f f2 : Addr} {fd fd2 : FuncData} {b : Nat} (F : Fun K "made_of" "made_of" sMade f fd) (G : GF mg) (F2 : Fun K "made_of_two" "made_of_two" sMade2 f2 fd2) (B2 : Binds K fd2 ["word", "parts"] []) (M2 : mg "made_of_two" = some (.ref f2))
    (O2 : FnOk P w K mg base CX0 (b + 6) f2 fd2 ["word", "parts"] (fun vs H Q E => spMade cl b vs H Q E ∧ ∀ us l, vs[1]? = some (.ref l) → H l = some (.lst us) → us.length < 3))
    (m1 : MkC P w K mg base cl b "Classes" "classes" ["number", "rows", "entries"]) (m2 : MkC P w K mg base cl b "Reach" "reach" ["factor", "point", "weights"]) (m3 : MkC P w K mg base cl b "Smith" "smith" ["left", "factors", "right"]) (m4 : MkC P w K mg base cl b "Nearness" "nearness" ["factor", "point", "rows", "tree"]) (m5 : MkC P w K mg base cl b "Reached" "reached" ["near", "number", "tick", "point"]) (m6 : MkC P w K mg base cl b "Unreached" "unreached" ["near", "number", "rows", "entries"]) :
    FnOk P w K mg base CX0 (b + 7) f fd ["word", "parts"] (spMade cl b) := by
  obtain ⟨f1, d1, k1, o1, b1, g1⟩ := m1
  obtain ⟨f2', d2, k2, o2, b2, g2⟩ := m2
  obtain ⟨f3, d3, k3, o3, b3, g3⟩ := m3
  obtain ⟨f4, d4, k4, o4, b4, g4⟩ := m4
  obtain ⟨f5, d5, k5, o5, b5, g5⟩ := m5
  obtain ⟨f6, d6, k6, o6, b6, g6⟩ := m6
  refine F.ok scMade (fun vs H Q E h => ?_) (fun cdv A outer s H vs Q E hr' h => ?_)
  · obtain ⟨wd, l, us, xs, rfl, _⟩ := h
    rfl
  · obtain ⟨wd, l, us, xs, rfl, h1, h2, h3, h4, h5, k⟩ := h
    have hr := hr'.mono (show b + 5 ≤ b + 6 by omega)
    refine ⟨_, pss_cons (ps_if (pt_cmpR op_lt (pe_callB call_len_seq (by rfl) (G.f "len" (by decide +kernel)) PySem.boot_len (pa_cons (pv 1) pa_nil)) pe_int (nomark _)) (pss_one (ps_ret (pe_call O2 hr' rfl M2 F2.kp B2 .nil pass0 (pa_cons (pv 0) (pa_cons (pv 1) pa_nil))))) pss_nil)
      (pss_cons (ps_if (pt_cmpR op_eq (pv 0) pe_str (nomark _)) (pss_one (ps_ret (pe_make k1 o1 hr rfl g1 b1 .nil pass0 (pa_cons (pe_ix ix_list (pv 1) pe_int (fun _ _ => rfl)) (pa_cons (pe_ix ix_list (pv 1) pe_int (fun _ _ => rfl)) (pa_cons (pe_ix ix_list (pv 1) pe_int (fun _ _ => rfl)) pa_nil)))))) pss_nil)
      (pss_cons (ps_if (pt_cmpR op_eq (pv 0) pe_str (nomark _)) (pss_one (ps_ret (pe_make k2 o2 hr rfl g2 b2 .nil pass0 (pa_cons (pe_ix ix_list (pv 1) pe_int (fun _ _ => rfl)) (pa_cons (pe_ix ix_list (pv 1) pe_int (fun _ _ => rfl)) (pa_cons (pe_ix ix_list (pv 1) pe_int (fun _ _ => rfl)) pa_nil)))))) pss_nil)
      (pss_cons (ps_if (pt_cmpR op_eq (pv 0) pe_str (nomark _)) (pss_one (ps_ret (pe_make k3 o3 hr rfl g3 b3 .nil pass0 (pa_cons (pe_ix ix_list (pv 1) pe_int (fun _ _ => rfl)) (pa_cons (pe_ix ix_list (pv 1) pe_int (fun _ _ => rfl)) (pa_cons (pe_ix ix_list (pv 1) pe_int (fun _ _ => rfl)) pa_nil)))))) pss_nil)
      (pss_cons (ps_if (pt_cmpR op_eq (pv 0) pe_str (nomark _)) (pss_one (ps_ret (pe_make k4 o4 hr rfl g4 b4 .nil pass0 (pa_cons (pe_ix ix_list (pv 1) pe_int (fun _ _ => rfl)) (pa_cons (pe_ix ix_list (pv 1) pe_int (fun _ _ => rfl)) (pa_cons (pe_ix ix_list (pv 1) pe_int (fun _ _ => rfl)) (pa_cons (pe_ix ix_list (pv 1) pe_int (fun _ _ => rfl)) pa_nil))))))) pss_nil)
      (pss_cons (ps_if (pt_cmpR op_eq (pv 0) pe_str (nomark _)) (pss_one (ps_ret (pe_make k5 o5 hr rfl g5 b5 .nil pass0 (pa_cons (pe_ix ix_list (pv 1) pe_int (fun _ _ => rfl)) (pa_cons (pe_ix ix_list (pv 1) pe_int (fun _ _ => rfl)) (pa_cons (pe_ix ix_list (pv 1) pe_int (fun _ _ => rfl)) (pa_cons (pe_ix ix_list (pv 1) pe_int (fun _ _ => rfl)) pa_nil))))))) pss_nil)
      (pss_one (ps_ret (pe_make k6 o6 hr rfl g6 b6 .nil pass0 (pa_cons (pe_ix ix_list (pv 1) pe_int (fun _ _ => rfl)) (pa_cons (pe_ix ix_list (pv 1) pe_int (fun _ _ => rfl)) (pa_cons (pe_ix ix_list (pv 1) pe_int (fun _ _ => rfl)) (pa_cons (pe_ix ix_list (pv 1) pe_int (fun _ _ => rfl)) pa_nil)))))))))))), ?_⟩
    refine ⟨_, rfl, l, us, rfl, .inl (SqL.of h1), _, _, rfl, rfl, _, rfl, ?_⟩
    by_cases c0 : us.length < 3
    · rw [decide_eq_true (show (us.length : Int) < 3 by omega)]
      exact iteT ⟨_, rfl, _, rfl, ⟨wd, l, us, xs, rfl, h1, h2, h3, h4, h5, k⟩, fun us' l' e1 e2 => by cases e1; rw [h1] at e2; cases e2; exact c0⟩
    rw [decide_eq_false (show ¬ (us.length : Int) < 3 by omega)]
    refine iteF ⟨_, rfl, rfl, _, rfl, ?_⟩
    rw [strEq]
    by_cases c1 : wd = "classes"
    · subst c1
      rw [decide_eq_true rfl]
      have e : xs.length = 3 := by
        rw [show many "classes" = some 3 by decide +kernel] at h3
        exact (Option.some.inj h3).symm
      obtain ⟨u, v, x, rfl⟩ : ∃ u v x, us = [u, v, x] := by
        have := (hasL_len h2).trans e
        match us, this with
        | [u, v, x], _ => exact ⟨u, v, x, rfl⟩
      exact iteT ⟨_, rfl, l, [u, v, x], 0, u, rfl, rfl, SqL.of h1, rfl, _, rfl, l, [u, v, x], 1, v, rfl, rfl, SqL.of h1, rfl, _, rfl, l, [u, v, x], 2, x, rfl, rfl, SqL.of h1, rfl, init_makes h2 rfl h4 h5 k⟩
    rw [decide_eq_false c1]
    refine iteF ⟨_, rfl, rfl, _, rfl, ?_⟩
    rw [strEq]
    by_cases c2 : wd = "reach"
    · subst c2
      rw [decide_eq_true rfl]
      have e : xs.length = 3 := by
        rw [show many "reach" = some 3 by decide +kernel] at h3
        exact (Option.some.inj h3).symm
      obtain ⟨u, v, x, rfl⟩ : ∃ u v x, us = [u, v, x] := by
        have := (hasL_len h2).trans e
        match us, this with
        | [u, v, x], _ => exact ⟨u, v, x, rfl⟩
      exact iteT ⟨_, rfl, l, [u, v, x], 0, u, rfl, rfl, SqL.of h1, rfl, _, rfl, l, [u, v, x], 1, v, rfl, rfl, SqL.of h1, rfl, _, rfl, l, [u, v, x], 2, x, rfl, rfl, SqL.of h1, rfl, init_makes h2 rfl h4 h5 k⟩
    rw [decide_eq_false c2]
    refine iteF ⟨_, rfl, rfl, _, rfl, ?_⟩
    rw [strEq]
    by_cases c3 : wd = "smith"
    · subst c3
      rw [decide_eq_true rfl]
      have e : xs.length = 3 := by
        rw [show many "smith" = some 3 by decide +kernel] at h3
        exact (Option.some.inj h3).symm
      obtain ⟨u, v, x, rfl⟩ : ∃ u v x, us = [u, v, x] := by
        have := (hasL_len h2).trans e
        match us, this with
        | [u, v, x], _ => exact ⟨u, v, x, rfl⟩
      exact iteT ⟨_, rfl, l, [u, v, x], 0, u, rfl, rfl, SqL.of h1, rfl, _, rfl, l, [u, v, x], 1, v, rfl, rfl, SqL.of h1, rfl, _, rfl, l, [u, v, x], 2, x, rfl, rfl, SqL.of h1, rfl, init_makes h2 rfl h4 h5 k⟩
    rw [decide_eq_false c3]
    refine iteF ⟨_, rfl, rfl, _, rfl, ?_⟩
    rw [strEq]
    by_cases c4 : wd = "nearness"
    · subst c4
      rw [decide_eq_true rfl]
      have e : xs.length = 4 := by
        rw [show many "nearness" = some 4 by decide +kernel] at h3
        exact (Option.some.inj h3).symm
      obtain ⟨u, v, x, y, rfl⟩ : ∃ u v x y, us = [u, v, x, y] := by
        have := (hasL_len h2).trans e
        match us, this with
        | [u, v, x, y], _ => exact ⟨u, v, x, y, rfl⟩
      exact iteT ⟨_, rfl, l, [u, v, x, y], 0, u, rfl, rfl, SqL.of h1, rfl, _, rfl, l, [u, v, x, y], 1, v, rfl, rfl, SqL.of h1, rfl, _, rfl, l, [u, v, x, y], 2, x, rfl, rfl, SqL.of h1, rfl, _, rfl, l, [u, v, x, y], 3, y, rfl, rfl, SqL.of h1, rfl, init_makes h2 rfl h4 h5 k⟩
    rw [decide_eq_false c4]
    refine iteF ⟨_, rfl, rfl, _, rfl, ?_⟩
    rw [strEq]
    by_cases c5 : wd = "reached"
    · subst c5
      rw [decide_eq_true rfl]
      have e : xs.length = 4 := by
        rw [show many "reached" = some 4 by decide +kernel] at h3
        exact (Option.some.inj h3).symm
      obtain ⟨u, v, x, y, rfl⟩ : ∃ u v x y, us = [u, v, x, y] := by
        have := (hasL_len h2).trans e
        match us, this with
        | [u, v, x, y], _ => exact ⟨u, v, x, y, rfl⟩
      exact iteT ⟨_, rfl, l, [u, v, x, y], 0, u, rfl, rfl, SqL.of h1, rfl, _, rfl, l, [u, v, x, y], 1, v, rfl, rfl, SqL.of h1, rfl, _, rfl, l, [u, v, x, y], 2, x, rfl, rfl, SqL.of h1, rfl, _, rfl, l, [u, v, x, y], 3, y, rfl, rfl, SqL.of h1, rfl, init_makes h2 rfl h4 h5 k⟩
    rw [decide_eq_false c5]
    have c6 : wd = "unreached" := by
      refine Classical.byContradiction fun c6 => ?_
      have hx := hasL_len h2
      unfold many at h3
      rw [if_neg c1, if_neg c4, if_neg c2, if_neg c5, if_neg c3, if_neg c6] at h3
      repeat (split at h3; (have := Option.some.inj h3; omega))
      cases h3
    subst c6
    have e : xs.length = 4 := by
      rw [show many "unreached" = some 4 by decide +kernel] at h3
      exact (Option.some.inj h3).symm
    obtain ⟨u, v, x, y, rfl⟩ : ∃ u v x y, us = [u, v, x, y] := by
      have := (hasL_len h2).trans e
      match us, this with
      | [u, v, x, y], _ => exact ⟨u, v, x, y, rfl⟩
    exact iteF ⟨_, rfl, l, [u, v, x, y], 0, u, rfl, rfl, SqL.of h1, rfl, _, rfl, l, [u, v, x, y], 1, v, rfl, rfl, SqL.of h1, rfl, _, rfl, l, [u, v, x, y], 2, x, rfl, rfl, SqL.of h1, rfl, _, rfl, l, [u, v, x, y], 3, y, rfl, rfl, SqL.of h1, rfl, init_makes h2 rfl h4 h5 k⟩
end
end Nr
end
set_option maxHeartbeats 2000000
section
/-! NrExc: super().__init__(..) in an own exception class over ValueError, with own classes between. -/
namespace Nr
open PySem PySem.Spec PyProof.Rows L2 NdefX ClX
/-- ValueError.__init__ bound to an exception -/
abbrev wrapV (x : Addr) : Obj := { cls := .type "method-wrapper", dict := none, data := .fields #[.builtin "ValueError.__init__", .ref x], slots := #[] }
theorem wrapV_type : typeOf (.builtin "ValueError.__init__") = pure (.type "wrapper_descriptor") := by
  show builtinType _ = _
  rw [builtinType_eq_fast]
  kernel_rfl
theorem wrapV_name : (kfb_private% "nameAndClass") (Value.builtin "ValueError.__init__") = (pure (("__init__" : Str), Value.type "ValueError") : Sem (Str × Value)) := by kernel_rfl
section
open PySem.W
variable {prog : Program} {w : World} {M : Model} {A : Around} {E : Value → Shared → Prop} {hp : Heap} {gs : Array GenState} {dr : Drawn} {tk : Nat} {os : OsState}
theorem wrapV_get {x C : Addr} {P : Fin → Shared → Prop} (inst : W.Looks M hp (isInstance (.ref x) (.type "ValueError")) true) (hq : P (.done (.ret (.ref hp.objs.size))) ⟨hp.push (wrapV x), gs, dr, tk, os⟩) :
    wpAny M A (Builtin.«wrapper_descriptor.__get__» ⟨[.builtin "ValueError.__init__", .ref x, .ref C], []⟩) P E ⟨hp, gs, dr, tk, os⟩ := by
  unfold Builtin.«wrapper_descriptor.__get__»
  refine wpAny_bind (wpAny_of_eq (a := (.builtin "ValueError.__init__", some (.ref x), some (.ref C))) (by first | rfl | kernel_rfl) ?_)
  show wpAny M A ((kfb_private% "checkInstance") (.builtin "ValueError.__init__") (.ref x) >>= fun _ => newFields "method-wrapper" [.builtin "ValueError.__init__", .ref x] >>= fun r => ret r) P E _
  refine wpAny_bind ?_
  show wpAny M A ((kfb_private% "nameAndClass") (.builtin "ValueError.__init__") >>= _) _ E _
  refine wpAny_bind (wpAny_of_eq wrapV_name ?_)
  show wpAny M A (isInstance (.ref x) (.type "ValueError") >>= _) _ E _
  refine wpAny_bind (inst.at ?_)
  exact KFB.if_not rfl (wpAny_pure (wpAny_bind (wpAny_newObj_type (wpAny_pure hq))))
theorem supV_find {so D x C : Addr} {l₀ l : List Value} {K : Frag} {name : Str} {tt : Tok} {Q : Fin → Shared → Prop}
    (hs : hp.get? so = some { cls := .type "super", dict := none, data := .fields #[.ref D, .ref x, .ref C], slots := #[] }) (ho : W.Looks (model prog w) hp (opaqueClassAbove (.ref C)) none)
    (hm : W.Looks (model prog w) hp (mroOf (.ref C)) l₀) (el : (l₀.dropWhile (· != .ref D)).drop 1 = l) (X : K.In hp)
    (al : alongIn K name l = some (some (.builtin "ValueError.__init__"))) (ne : x ≠ C) (nn : (name == ("__class__" : Str)) = false) (inst : W.Looks (model prog w) hp (isInstance (.ref x) (.type "ValueError")) true)
    (hq : Q (.done (.ret (.ref hp.objs.size))) ⟨hp.push (wrapV x), gs, dr, tk, os⟩) :
    wpAny (model prog w) A (Builtin.«super.__getattribute__» ⟨[.ref so, .str name tt], []⟩) Q E ⟨hp, gs, dr, tk, os⟩ := by
  have q1 := ESX.slot_wd.lookup
  have q2 : (Value.ref x == Value.ref C) = false := by simp [ne]
  have q3 := wrapV_type
  have q4 : Shared.TypeIs ⟨hp, gs, dr, tk, os⟩ (.builtin "ValueError.__init__") "wrapper_descriptor" := wrapV_type
  have d0 : ({ cls := .type "super", dict := none, data := .fields #[.ref D, .ref x, .ref C], slots := #[] } : Obj).data = .fields #[.ref D, .ref x, .ref C] := rfl
  have d1 : (#[.ref D, .ref x, .ref C] : Array Value)[0]? = some (.ref D) := rfl
  have d2 : (#[.ref D, .ref x, .ref C] : Array Value)[1]? = some (.ref x) := rfl
  have d3 : (#[.ref D, .ref x, .ref C] : Array Value)[2]? = some (.ref C) := rfl
  unfold Builtin.«super.__getattribute__»
  repeat (first
    | (with_reducible refine wpAny_field hs d0 d1 ?_)
    | (with_reducible refine wpAny_field hs d0 d2 ?_)
    | (with_reducible refine wpAny_field hs d0 d3 ?_)
    | (with_reducible refine ks_wpAny_notOpaque ho ?_)
    | (with_reducible refine Looks.at hm ?_; rw [el])
    | (refine ks_forIn_along X (fun _ _ => rfl) rfl ?_ al)
    | (with_reducible refine wpAny_call_entry ESX.slot_wd q4 ESX.entry_wd ?_ (ESX.args_wd _ _ _))
    | (with_reducible refine wrapV_get inst ?_)
    | (with_reducible refine ⟨_, rfl, ?_⟩)
    | (simp only [nn, q2, Bool.or_false, Bool.false_eq_true, if_false])
    | wp_step
    | dsimp only)
  all_goals exact hq
theorem supV_meth {so D x C : Addr} {l₀ l : List Value} {K : Frag} {name : Str} {pl : Sem Bool} {Q : Value × List Value → Shared → Prop}
    (hs : hp.get? so = some { cls := .type "super", dict := none, data := .fields #[.ref D, .ref x, .ref C], slots := #[] }) (ho : W.Looks (model prog w) hp (opaqueClassAbove (.ref C)) none)
    (hm : W.Looks (model prog w) hp (mroOf (.ref C)) l₀) (el : (l₀.dropWhile (· != .ref D)).drop 1 = l) (X : K.In hp)
    (al : alongIn K name l = some (some (.builtin "ValueError.__init__"))) (ne : x ≠ C) (nn : (name == ("__class__" : Str)) = false) (inst : W.Looks (model prog w) hp (isInstance (.ref x) (.type "ValueError")) true)
    (hq : Q (.ref hp.objs.size, []) ⟨hp.push (wrapV x), gs, dr, tk + 1, os⟩) :
    wpAny (model prog w) A (getMethod (.ref so) name pl) Q E ⟨hp, gs, dr, tk, os⟩ := by
  have q1 := F.ks_slot_super_ga.lookup
  have q2 := F.ks_canon_super_ga
  have ty : ∀ t', (⟨hp, gs, dr, t', os⟩ : Shared).TypeIs (.ref so) "super" := fun _ => ⟨_, hs, rfl⟩
  unfold getMethod
  refine wpAny_bind (wpAny_specialOf (ty _) q1 ?_)
  show wpAny _ _ (if (Manifest.canonical "super.__getattribute__" != "object.__getattribute__") = true then _ else _) _ _ _
  rw [if_pos q2]
  unfold getAttr getAttrBy
  refine wpAny_bind (wpAny_bind (wpAny_mkText (wpAny_holding (wpAny_bind (wpAny_typeOf (ty _) (wpAny_bind (wpAny_of_eq q1 ?_)))))))
  show wpAny _ _ (getAttrByItsOwn (.ref so) (.str name tk) (.type "super") (.builtin "super.__getattribute__") true false) _ _ _
  unfold getAttrByItsOwn hookBefore callGetattribute boundAndCalled
  refine wpAny_bind (wpAny_of_eq (show (if onTheHeap (.type "super") then typeLookup (.type "super") "__getattr__" else pure none) = pure none from rfl) ?_)
  refine wpAny_bind (wpAny_attempt (wpAny_holding ?_))
  show wpAny _ _ (bindSpecial (.builtin "super.__getattribute__") (.ref so) >>= _) _ _ _
  refine wpAny_bind (wpAny_of_eq (F.ks_slot_super_ga.bind _) ?_)
  refine wpAny_mono (Q := fun v s' => v = .ref hp.objs.size ∧ s' = ⟨hp.push (wrapV x), gs, dr, tk + 1, os⟩) (E := fun _ _ => False)
    (wpAny_call_entry F.ks_slot_super_ga (ty _) F.ks_entry_super_ga (supV_find hs ho hm el X al ne nn inst ⟨_, rfl, rfl, rfl⟩) (F.ks_gaArgs_super _ _)) (fun v s' hv => ?_) fun _ _ z => z.elim
  obtain ⟨rfl, rfl⟩ := hv
  exact wpAny_pure (wpAny_pure hq)
end
section
open PySem.W PySem.Calls PyProof.Rows
variable {prog : Program} {w : World} {M : Model} {A : Around} {E : Value → Shared → Prop} {s : Shared}
theorem wrapV_with {pos : Pos} {u x : Addr} {first : List Value} {env : Env} {e : Expr} {rest : List Expr} {Q : Value → Shared → Prop}
    (h : wpAny M A (spliced (backTo pos (starEach (e :: rest) env))) (fun vs s₁ => s₁.heap.get? u = some (wrapV x) ∧ wpAny M A (call (.ref u) (first ++ vs)) Q E s₁) E s)
    (he : starEach (e :: rest) env = (false, eval e env) :: starEach rest env) (hpl : (backTo pos (starEach rest env)).any (·.1) = false) :
    wpAny M A (callWith pos (.ref u) first (backTo pos (starEach (e :: rest) env)) []) Q E s := by
  rw [he] at h ⊢
  have plain : (backTo pos ((false, eval e env) :: starEach rest env)).any (·.1) = false := by
    show (false || (backTo pos (starEach rest env)).any (·.1)) = false
    rw [hpl]
    rfl
  have h2 : wpAny M A (evalArgs (.ref u) true (backTo pos ((false, eval e env) :: starEach rest env)) []) (fun a s₁ => s₁.heap.get? u = some (wrapV x) ∧ wpAny M A (call (.ref u) (first ++ a.pos) a.kw) Q E s₁) E s := evalArgs_plain h
  unfold callWith
  refine wpAny_bind (wpAny_holding (wpAny_mono h2 (fun a s₁ h₁ => wpAny_bind (wpAny_standAt ?_)) fun _ _ x => x))
  obtain ⟨ho, hcall⟩ := h₁
  simp only [plain, List.any_nil, Bool.or_false]
  refine wpAny_bind (m := keeperOf (.ref u)) ?_
  unfold keeperOf
  refine wpAny_bind (wpAny_load ho ?_)
  simp only [wrapV, show (Value.type "method-wrapper" != Value.type "method") = true by decide, show (Value.type "method-wrapper" == Value.type "builtin_function_or_method" || Value.type "method-wrapper" == Value.type "method-wrapper") = true by decide, if_true]
  exact wpAny_pure (wpAny_bind (wpAny_mono hcall (fun r s₂ hr => wpAny_bind (wpAny_holding (wpAny_point (wpAny_pure hr)))) fun _ _ x => x))
end
section
variable {prog : Program} {w : World} {A : Around} {E : Value → Shared → Prop} {hp : Heap} {gs : Array GenState} {dr : Drawn} {tk : Nat} {os : OsState}
variable {nm q : Str} {C N : Addr} {bs bm : List Value} {hdct : Bool} {sn : List Str} {sub : List Value} {ab : Bool} {col : Option Bool} {dd : Option Addr} {k0 k1 k2 k3 k5 : Option Value}
theorem wrapV_call {u e t0 : Addr} {rest : List Value} {Q : Value → Shared → Prop}
    (hC : hp.get? C = some (excClassObj nm q C N bs bm hdct sn sub ab col dd k0 k1 k2 k3 k5 "ValueError.__new__")) (he : hp.get? e = some (HandSPX.excO C t0)) (hu : hp.get? u = some (wrapV e)) (hl : rest.length ≤ sizeLine)
    (hq : ∀ h' t1, (∀ b o, b ≠ e → hp.get? b = some o → h'.get? b = some o) → h'.get? e = some (HandSPX.excO C t1) → Q .none ⟨h', gs, dr, tk, os⟩) :
    wpAny (model prog w) A (call (.ref u) rest) Q E ⟨hp, gs, dr, tk, os⟩ := by
  refine wpAny_call (codeAny_of_tree ?_)
  show wpAny _ A.in1 (callAny (.ref u) ⟨rest, []⟩) _ _ _
  simp only [callAny]
  refine wpAny_bind (wpAny_load hu ?_)
  simp only [wrapV, show (Value.type "method-wrapper" == Value.type "method" || Value.type "method-wrapper" == Value.type "builtin_function_or_method" || Value.type "method-wrapper" == Value.type "method-wrapper") = true by decide, if_true]
  refine W.KFB.if_so (by decide) ?_
  refine wpAny_bind (ESX.check_bound F.excBase_ValueError hC he rfl ?_)
  refine wpAny_bind (wpAny_pure (wpAny_pure ?_))
  refine ⟨Code.quiet_builtin _ (by decide +kernel), codeAny_builtin F.excBase_ValueError.initEntry ?_⟩
  rw [Around.under_plainId F.excBase_ValueError.init.plain _]
  wp_walk
  refine hq _ hp.objs.size (fun b o hb ho => ?_) ?_
  · exact (Heap.get?_update_other _ _ (Ne.symm hb)).trans (Heap.get?_push_of_some _ ho)
  · exact (Heap.get?_update_self _ (Heap.get?_push_of_some _ he) rfl).trans rfl
end
/-- super().__init__(e, ..) of an exception that is being made: what is found is ValueError's -/
def tSupV (C : Addr) (ta : TA) : TE := fun σ H Q => ∃ x : Addr, σ[0]? = some (some (V.ref x)) ∧ H x = some (exo x C none) ∧ ta σ H fun vs H1 => vs.length ≤ 1000 ∧ H1 x = some (exo x C none) ∧ Q .non H1
section
variable {X : Cx}
theorem pe_supV {q nm slf : Str} {params : Arguments} {scope : Scope} {p0 p1 pos apos : Pos} {f D C cda cc : Addr} {oc : Value} {od : Option Addr} {osl : Array (Option Value)} {fd : FuncData}
    {e : Expr} {es : List Expr} {t : TA} {pl : Sem Bool} (T : OexC X.K C)
    (henv : X.env = PySem.W.envX q scope X.env.locals f (.ref cda) [("__class__", cc)]) (S : SupF X.prog X.K X.mg params scope nm slf D C cda cc)
    (find : PySem.W.ks_superIn X.K C D nm = some (some (.builtin "ValueError.__init__"))) (hve : PySem.W.mroIn X.K C (.type "ValueError") = some true)
    (lk : X.K.lookup f = some ⟨oc, od, .func fd, osl⟩) (hpm : fd.params = params) (hself : X.N[0]? = some slf) (ha : PA X (e :: es) t)
    (hst : starEach (e :: es) X.env = (false, eval e X.env) :: starEach es X.env := by rfl) (hpl : (backTo pos (starEach es X.env)).any (·.1) = false := by rfl)
    (ht : eval (.Call (.Attribute (.Call (.Name "super" p0) [] [] p1) nm apos) (e :: es) [] pos) X.env = (do
      let ov ← attributeBase (.Call (.Name "super" p0) [] [] p1) nm X.env (eval (.Call (.Name "super" p0) [] [] p1) X.env)
      standAt apos.atName
      let (f, first) ← holding [ov] (getMethod ov nm pl)
      callWith pos f first (backTo pos (starEach (e :: es) X.env)) []) := by rfl) :
    PEat X (.Call (.Attribute (.Call (.Name "super" p0) [] [] p1) nm apos) (e :: es) [] pos) (tSupV C t) := by
  intro body pins s σ H Q I ⟨x, hσ, hx, h⟩
  obtain ⟨cdC, hclsC⟩ := S.clsC
  obtain ⟨t0, hxo⟩ := exo_at I.hok hx
  have J : PySem.W.InstAt s.heap x { cls := .ref C, dict := none, data := .fields #[.ref t0, .none, .none, .none, .bool false, .none] } C none := ⟨hxo, rfl, rfl, trivial⟩
  have hxC : x ≠ C := PySem.W.ks_ne I.kIn J hclsC
  refine ks_wpAt_MethodCall (pl := pl) (sup_obj henv S lk hpm hself hσ hxo rfl (fun c e => nomatch e) I fun so s1 I1 kp e1 => ?_) ht
  have K1 : X.K.In s1.heap := I1.kIn
  have hfind := find
  unfold PySem.W.ks_superIn at hfind
  rw [hclsC] at hfind
  have J1 : PySem.W.InstAt s1.heap x { cls := .ref C, dict := none, data := .fields #[.ref t0, .none, .none, .none, .bool false, .none] } C none := ⟨kp _ _ hxo, rfl, rfl, trivial⟩
  have inst : PySem.W.Looks (model X.prog X.w) s1.heap (isInstance (.ref x) (.type "ValueError")) true := J1.type.andThen (PySem.W.looks_mroIn K1 hve)
  obtain ⟨hh, gg, dd, tt, os⟩ := s1
  refine supV_meth e1 (PySem.W.looks_opaque K1 S.any) (l₀ := cdC.mro) (fun A Q E s k q => wpAny_bind ((PySem.W.looks_clsIn K1 hclsC) A _ E s k (wpAny_pure q))) rfl K1 hfind hxC S.nc inst ?_
  have I2 : Inv X ((hh.objs.size, wrapV x) :: pins) σ H ⟨hh.push (wrapV x), gg, dd, tt + 1, os⟩ := pin_new I1 (fun _ _ z => Heap.get?_push_of_some _ z) (Nat.le_refl _) (Heap.get?_push_size hh rfl) (fun v z => nomatch z)
  refine wrapV_with (thn (ha.run pos _ _ σ H _ I2 h) fun us s3 ⟨vs, H2, I3, rv, hl, hx2, q2⟩ => ⟨pin_at I3, ?_⟩) hst hpl
  obtain ⟨nm', q', N, bs, bm, sn, sub, ab, col, dd', k0, k1, k2, k3, k5, hC, hbm⟩ := T.cls
  obtain ⟨t2, hxo2⟩ := exo_at I3.hok hx2
  have hlen : us.length ≤ sizeLine := by
    rw [← Paired.length rv, sizeLine_eq]
    omega
  have hu := pin_at I3
  obtain ⟨h3, g3, d3, k3', o3⟩ := s3
  refine wrapV_call (I3.kIn _ _ hC) hxo2 hu hlen fun h' t3 k hx3 => ?_
  have I4 := I3.write (t' := k3') (x := x) (e := x) (o := exo x C none) (by rw [hx2]; exact True.intro) (.inl rfl) k ⟨_, hx3⟩ (exo_ok hx3)
  have eu : upd H2 x (exo x C none) = H2 := by
    funext b
    by_cases hb : b = x
    · rw [hb, upd_same, hx2]
    · rw [upd_ne hb]
  rw [eu] at I4
  exact unpinE ⟨.non, H2, I4, rfl, q2⟩
end
end Nr
end
set_option maxHeartbeats 2000000
section
/-! NrTry: a caught exception that is kept under another name behind its suite. -/
namespace PySem.W
open PySem PySem.Spec PySem.Calls PyProof.Rows
section
variable {prog : Program} {w : World} {A : Around} {E : Value → Shared → Prop} {s : Shared} {K : Frag} {x D : Addr} {ox od : Obj}
/-- e.__class__ of an exception that has a dict of its own -/
theorem nr_classE {Q : Option Value → Shared → Prop} (g1 : findIn K (.ref D) "__getattribute__" = some (some (.builtin "BaseException.__getattribute__"))) (g2 : findIn K (.ref D) "__getattr__" = some none) (g3 : subIn K (.ref D) (.type "BaseException") = some true)
    (g4 : hasDictIn K D = true) (g5 : findIn K (.ref D) "__class__" = some (some (.builtin "object.__class__")))
    (g6 : specialIn K (.builtin "object.__class__") "__get__" = some (some (.builtin "getset_descriptor.__get__"))) (g7 : takesIn K (.builtin "object.__class__") = some true) (g8 : mroIn K D (.type "object") = some true)
    (X : K.In s.heap) (I : InstAt s.heap x ox D (some od)) (h : Q (some (.ref D)) { s with toks := s.toks + 1 }) : wpAny (model prog w) A (getAttr? (.ref x) "__class__") Q E s := by
  have hf : findObj K D (some od) "__class__" = some (.bind (.builtin "getset_descriptor.__get__") (.builtin "object.__class__")) := findObj_data (by obtain ⟨cd, hc, _⟩ := any_some g4; rw [hc]; rfl) g5 g6 g7
  obtain ⟨hp, gs, dr, t, os⟩ := s
  have L0 := I.type (M := model prog w)
  have L1 := looks_findIn (M := model prog w) X g1
  have L2 := looks_findIn (M := model prog w) X g2
  have L3 := looks_find (M := model prog w) X I hf
  have sub : Looks (model prog w) hp (isInstance (.ref x) (.type "BaseException")) true := L0.andThen (looks_subIn X g3)
  have q0 : (false && onTheHeap (Value.builtin "BaseException.__getattribute__")) = false := rfl
  have q2 : (Value.builtin "BaseException.__getattribute__" == Value.builtin "object.__getattribute__") = false := by decide +kernel
  have q1 : (onTheHeap (Value.ref D) && Value.builtin "BaseException.__getattribute__" == Value.builtin "object.__getattribute__") = false := by rw [q2]; rfl
  unfold getAttr? getAttrBy? getAttrBy
  refine wpAny_bind (wpAny_mkText (wpAny_bind (wpAny_attempt (wpAny_holding (wpAny_bind (L0.at (wpAny_bind (L1.at ?_))))))))
  show wpAny _ _ (if (onTheHeap (Value.ref D) && Value.builtin "BaseException.__getattribute__" == Value.builtin "object.__getattribute__") = true then _ else _) _ _ _
  rw [q1, if_neg Bool.false_ne_true]
  unfold getAttrByItsOwn hookBefore
  refine wpAny_bind ?_
  rw [if_pos (show onTheHeap (Value.ref D) = true from rfl)]
  refine L2.at ?_
  refine wpAny_bind (wpAny_attempt (wpAny_holding ?_))
  unfold callGetattribute
  rw [q0, if_neg Bool.false_ne_true]
  unfold boundAndCalled
  rw [PySem.F.excAttr_ValueError.ga.bind (.ref x)]
  refine wpAny_bind (wpAny_pure ?_)
  show wpAny _ _ (call (.builtin "BaseException.__getattribute__") [.ref x, .str "__class__" t]) _ _ _
  refine wpAny_call (codeAny_call_builtin PySem.F.excAttr_ValueError.ga.plain PySem.F.entry_bexc_ga ?_)
  refine @check_slot (model prog w) _ _ ⟨hp, gs, dr, t + 1, os⟩ "BaseException.__getattribute__" "BaseException" "__getattribute__" (.ref x) [.str "__class__" t] [] _ (by decide +kernel) (by decide +kernel) sub (PySem.F.args_bexc_ga (.ref x) (.str "__class__" t)) ?_
  unfold Builtin.«object.__getattribute__»
  refine wpAny_bind (wpAny_of_eq (a := ((Value.ref x : Value), [Value.str "__class__" t])) (by first | rfl | (simp only [slotArgs]; rfl)) ?_)
  refine wpAny_bind (wpAny_pure (wpAny_bind (L0.at (wpAny_bind (L3.at ?_)))))
  show wpAny _ _ (holding [Value.builtin "object.__class__"] (call (.builtin "getset_descriptor.__get__") [.builtin "object.__class__", .ref x, .ref D]) >>= ret) _ _ _
  refine wpAny_bind (wpAny_holding (wpAny_call (class_get (s := ⟨hp, gs, dr, t + 1, os⟩) (ox := ox) (od := some od) X I g8 ?_)))
  refine wpAny_pure ?_
  show wpAny _ _ (handedOut (.ref D)) _ _ _
  rw [handedOut_of (v := .ref D) rfl]
  first
    | exact wpAny_pure (wpAny_pure h)
    | exact wpAny_pure h
    | exact wpAny_pure (wpAny_bind (wpAny_pure (wpAny_pure h)))
theorem nr_kitE (g1 : findIn K (.ref D) "__getattribute__" = some (some (.builtin "BaseException.__getattribute__"))) (g2 : findIn K (.ref D) "__getattr__" = some none) (g3 : subIn K (.ref D) (.type "BaseException") = some true) (g4 : hasDictIn K D = true) (g5 : findIn K (.ref D) "__class__" = some (some (.builtin "object.__class__")))
    (g6 : specialIn K (.builtin "object.__class__") "__get__" = some (some (.builtin "getset_descriptor.__get__"))) (g7 : takesIn K (.builtin "object.__class__") = some true) (g8 : mroIn K D (.type "object") = some true) :
    KitX K (.ref x) (.ref D) (fun h => InstAt h x ox D (some od)) :=
  have base : KitX K (.ref x) (.ref D) (fun h => InstAt h x ox D none) := handS_kitx_exc g1 g2 g3 g4 g5 g6 g7 g8
  { ty := fun _ _ _ I => I.type
    it := fun _ _ X _ => by
      obtain ⟨cdD, hcD, _⟩ := any_some g4
      unfold clsIn at hcD
      split at hcD
      · rename_i c' d' cd' sl' ho
        intro A' Q' E' s' k q
        unfold isType loadHead
        exact wpAny_bind (wpAny_loadPart (k _ _ (X _ _ ho)) (wpAny_pure q))
      · cases hcD
    ne := base.ne
    ca := fun X I k => nr_classE g1 g2 g3 g4 g5 g6 g7 g8 X I k }
end
end PySem.W
namespace Nr
open PySem PySem.Spec PyProof.Rows L2
/-- an exception of the class cls at a, its dict at d, that lies there -/
def ExK (cls : Value) (d : Option Addr) (a : Addr) : HO := .ext fun h => ∃ (oe : Obj) (vs : Array Value), h.get? a = some oe ∧ Zc cls d oe ∧ oe.data = .fields vs
theorem exK_ok {P : Program} {w : World} {H : Hp} {h : Heap} {a : Addr} {cls : Value} {d : Option Addr} {oe : Obj} {vs : Array Value} (e : h.get? a = some oe) (z : Zc cls d oe) (dd : oe.data = .fields vs) : ObjOk P w H h a (ExK cls d a) :=
  ⟨⟨oe, vs, e, z, dd⟩, ⟨oe, e⟩, fun _ _ ⟨o, v, q, r⟩ k => ⟨o, v, k o q, r⟩⟩
section
variable {X : Cx} {pins : List (Addr × Obj)} {σ : L2.St} {H : Hp} {s : Shared}
/-- an object of ours that is new since the entry, untracked till now, is tracked from here on -/
theorem trackNew {a : Addr} {o : HO} (I : Inv X pins σ H s) (n0 : X.s_0.heap.get? a = none) (hn : H a = none) (hL : a ≠ X.env.locals) (hC : ∀ x c, X.env.cells.lookup x = some c → c ≠ a)
    (hP : ∀ p ∈ X.pn ++ pins, p.1 ≠ a) (new : ObjOk X.prog X.w (upd H a o) s.heap a o) : Inv X pins σ (upd H a o) s := by
  refine ⟨I.ok, I.os, I.bare, ⟨I.base.keep, I.base.slot, fun b u e n hx => ?_, I.base.there, fun b xs e => ?_, fun b u v e => ?_, fun b ps e => ?_⟩, I.loc, I.cell, ?_, fun x c e => ?_, fun p hp => ?_, I.hok.laidN (fun _ _ q => q) hn new, I.len⟩
  · rw [upd_ne (fun z => by rw [z, n0] at e; cases e)]
    exact I.base.free b u e n hx
  · have q := I.base.tups b xs e
    rw [upd_ne (ne_of_none q hn)]
    exact q
  · have q := I.base.frzs b u v e
    rw [upd_ne (ne_of_none q hn)]
    exact q
  · obtain ⟨m, q⟩ := I.base.tbls b ps e
    exact ⟨m, by rw [upd_ne (ne_of_none q hn)]; exact q⟩
  · rw [upd_ne (Ne.symm hL)]
    exact I.free
  · rw [upd_ne (hC x c e)]
    exact I.freeC x c e
  · obtain ⟨e, n, ne, nf, dd⟩ := I.pin p hp
    exact ⟨e, by rw [upd_ne (hP p hp)]; exact n, ne, nf, dd⟩
/-- what the clause 'except x as n: y = n' wishes of an exception of the body: slot i is n's, slot j is y's -/
def wKeep (K : PySem.W.Frag) (c : Value) (i j : Nat) (Wout : WX) (D : Ends) : WX := fun cls d σ H =>
  ∃ b, PySem.W.exmOne K cls c = some b ∧ (b = true → ∀ a, H a = none → D.nx (((σ.set i (some (.ref a))).set j (some (.ref a))).set i none) (upd H a (ExK cls d a))) ∧ (b = false → Wout cls d σ H)
variable {x n y : Str} {c : Value} {i j : Nat} {body : List Stmt} {np nnp ynp apos pos pos' : Pos} {tb : WX → TS} {Wout : WX}
theorem ps_try_keep (hs : X.stack = X.env :: X.outer) (hf : X.env.frame = some X.env.locals) (hex : X.ex = []) (hN : X.N.Nodup) (hi : X.N[i]? = some n) (hln : X.env.kindOf n = some .local) (hj : X.N[j]? = some y) (hly : X.env.kindOf y = some .local) (hij : i ≠ j)
    (hdn : (n == ("__debug__" : Str)) = false) (hdc : (n == ("__classdict__" : Str)) = false) (hc : Names X x c) (tk : Takes X Wout)
    (hsw : swapsWith (.Name n nnp) (some (.Name y ynp)) apos.line X.env = pure false)
    (hb : ∀ (W : WX) (pn : List (Addr × Obj)) (xe : Value → Shared → Prop), Takes (X.tr pn xe) W → PassesOwn (model X.prog X.w) X.A X.env xe → PSs (X.tr pn xe) body (tb W)) :
    PS X (.Try body [.ExceptHandler (some (.Name x np)) (some n) [.Assign [.Name y ynp] (.Name n nnp) apos] pos'] [] [] pos) (fun D σ H => tb (wKeep X.K c i j Wout D) D σ H) := by
  refine ⟨fun pins s σ H D I h => ?_⟩
  have ok := I.ok
  have hfr : X.A.frames = some (X.env :: X.outer) := by rw [ok.frames, hs]
  have locN : Loc X.env.scope n := .inl hln
  have locY : Loc X.env.scope y := .inl hly
  refine wpAny_Try_except ?_
  refine wpAny_mono ((hb (wKeep X.K c i j Wout D) (X.pn ++ pins) (fun e s₁ => wpAny (model X.prog X.w) X.A (noteFrame e X.env) (fun _ s₂ => wpAny (model X.prog X.w) X.A (setFlight e none) (fun _ s₃ =>
    wpAny (model X.prog X.w) X.A (handleBy e X.env [.ExceptHandler (some (.Name x np)) (some n) [.Assign [.Name y ynp] (.Name n nnp) apos] pos']) (SP X pins D) X.xe s₃) X.xe s₂) X.xe s₁) (fun u s' xx => ?_) PassesOwn.looking).run [] s σ H D (I.toTry _) h) (fun f s1 hsp => ?_) (fun e s1 he => he)
  · obtain ⟨a, B, sI, pins', σ', H', cls, d, rfl, J', nb, up, sky, na, os, ag, b, hb1, hyes, hno⟩ := xx
    have J : Inv X pins σ' H' sI := J'.ofTry ok
    have sky' : Sky B (X.env :: X.outer) a (Zc cls d) X.env.locals s'.heap := by rw [← hs]; exact sky
    show wpAny (model X.prog X.w) X.A (noteFrame (.ref a) X.env) _ _ _
    refine Sky.land Zc.steady hfr hf sky' fun h3 fl3 up3 => ?_
    have J3 : Inv X pins σ' H' { s' with heap := h3 } := J.landed nb fl3.1 (up.trans up3) os ag
    obtain ⟨oe3, vs3, he3, hz3, hd3⟩ := fl3.there
    have notFr : ∀ {h : Heap} {o : Obj} {vs : Array Value}, h.FunFrames B (X.env :: X.outer) → h.get? a = some o → o.data = .fields vs → a ∉ frs (X.env :: X.outer) := fun {h o vs} ff e dd hm => by
      obtain ⟨_, o', e', hnf⟩ := ff.mem hm
      rw [e] at e'; cases e'
      exact hnf _ dd
    have nfr := notFr fl3.2.2.1 he3 hd3
    have nL : a ≠ X.env.locals := fun z => nfr (List.mem_filterMap.mpr ⟨X.env, List.mem_cons_self, by rw [hf, z]⟩)
    have nF : a ∉ X.fs := fun hm => by
      obtain ⟨e, he, q⟩ := List.mem_filterMap.mp hm
      exact nfr (List.mem_filterMap.mpr ⟨e, List.mem_cons_of_mem _ he, q⟩)
    have nB : B.get? a = none := fl3.2.1
    have nI : sI.heap.get? a = none := by
      cases q : sI.heap.get? a with
      | none => rfl
      | some o =>
        have z := nb a o q (by rw [hs]; exact nfr)
        rw [nB] at z
        cases z
    have n0 : X.s_0.heap.get? a = none := by
      cases q : X.s_0.heap.get? a with
      | none => rfl
      | some o =>
        obtain ⟨o', z⟩ := J.base.there a o q (by rw [hex]; exact fun z => nomatch z)
        rw [nI] at z
        cases z
    have nC : ∀ x c, X.env.cells.lookup x = some c → c ≠ a := fun x c e z => by
      obtain ⟨v, o, ho, _⟩ := J.cell x c e
      rw [z, nI] at ho
      cases ho
    have nP : ∀ p ∈ X.pn ++ pins, p.1 ≠ a := fun p hp z => by
      have q := (J.pin p hp).1
      rw [z, nI] at q
      cases q
    have S3 := J3.suite he3 hd3 na nL nF
    refine wpAny_handleBy_cons (codeAny_handlers_test ?_) (by intro q; cases q)
    have LT : PySem.W.Looks (model X.prog X.w) h3 (typeOf (.ref a)) cls := fun A Q E s k q => wpAny_typeOf_ref (k _ _ he3) (by rw [hz3.1]; exact q)
    have LM := PySem.W.exm_one (M := model X.prog X.w) (J3.kIn) LT hb1
    have test : ∀ {Q : Value → Shared → Prop} {E : Value → Shared → Prop}, Q c { s' with heap := h3 } → wpAny (model X.prog X.w) (X.A.mark (some (.ref a))) (eval (.Name x np) X.env) Q E { s' with heap := h3 } := fun {Q E} q => by
      obtain ⟨hg, hdbg, hm | ⟨hm, hv, hnn⟩⟩ := hc
      · exact ld_glob (X := X.suite a ((a, oe3) :: (X.pn ++ pins))) S3 hg hm q hdbg
      · exact ld_blt (X := X.suite a ((a, oe3) :: (X.pn ++ pins))) S3 hg hm hv q hnn hdbg
    refine test (LM.here ?_)
    cases b with
    | true =>
      refine codeAny_handlers_suite_as ?_
      refine HandSPX.lands_againZ fl3 fun h4 fl4 up4 => ?_
      have J4 : Inv X pins σ' H' { s' with heap := h4 } := J.landed nb fl4.1 ((up.trans up3).trans up4) os ag
      obtain ⟨oe4, vs4, he4, hz4, hd4⟩ := fl4.there
      have S4 := J4.suite he4 hd4 na nL nF
      have hlt : i < σ'.length := by
        rw [S4.len]
        exact (List.getElem?_eq_some_iff.mp hi).1
      refine store_ok (X := X.suite a ((a, oe4) :: (X.pn ++ pins))) (v := .ref a) S4 hN hi locN rfl (fun s5 S5 => ?_) (.inr hln)
      have asg : PS (X.suite a ((a, oe4) :: (X.pn ++ pins))) (.Assign [.Name y ynp] (.Name n nnp) apos) (tAsg (tVar i) (gName j)) :=
        ps_asg (pe_var (X := X.suite a ((a, oe4) :: (X.pn ++ pins))) hi (.inl hln) hdn hdc) (pg_name (X := X.suite a ((a, oe4) :: (X.pn ++ pins))) hN hj locY (.inr hly)) hsw
      refine wpAny_mono ((pss_one asg).run [] s5 _ H' { nx := fun σ6 H6 => σ6 = (σ'.set i (some (.ref a))).set j (some (.ref a)) ∧ H6 = H', bk := fun _ _ => False, ct := fun _ _ => False, rt := fun _ _ => False } S5
        ⟨.ref a, List.getElem?_set_self hlt, rfl, rfl⟩) (fun f s6 hsp => ?_) (fun _ _ z => False.elim z)
      cases f with
      | next =>
        obtain ⟨σ6, H6, S6, e6, eH⟩ := hsp
        subst e6
        subst eH
        have J6 : Inv X ((a, oe4) :: pins) ((σ'.set i (some (.ref a))).set j (some (.ref a))) H6 s6 := by
          refine ⟨ok, S6.os, S6.bare, S6.base, S6.loc, S6.cell, S6.free, S6.freeC, fun p hp => S6.pin p ?_, S6.hok, S6.len⟩
          rcases List.mem_append.mp hp with z | z
          · exact List.mem_append_left _ (List.mem_cons_of_mem _ (List.mem_append_left _ z))
          · rcases List.mem_cons.mp z with z | z
            · exact List.mem_append_left _ (z ▸ List.mem_cons_self)
            · exact List.mem_append_left _ (List.mem_cons_of_mem _ (List.mem_append_right _ z))
        refine gone_ok J6 hN hi hln fun s7 J7 => ?_
        have p7 := J7.pin (a, oe4) (List.mem_append_right _ List.mem_cons_self)
        have J8 : Inv X pins (((σ'.set i (some (.ref a))).set j (some (.ref a))).set i none) H6 s7 :=
          ⟨ok, J7.os, J7.bare, J7.base, J7.loc, J7.cell, J7.free, J7.freeC, fun p hp => J7.pin p ((List.mem_append.mp hp).elim (fun z => List.mem_append_left _ z) fun z => List.mem_append_right _ (List.mem_cons_of_mem _ z)), J7.hok, J7.len⟩
        exact ⟨_, _, trackNew J8 n0 na nL nC nP (exK_ok p7.1 hz4 hd4), hyes rfl a na⟩
      | brk =>
        obtain ⟨_, _, _, z⟩ := hsp
        exact z.elim
      | cont =>
        obtain ⟨_, _, _, z⟩ := hsp
        exact z.elim
      | ret u =>
        obtain ⟨_, _, _, _, _, z⟩ := hsp
        exact z.elim
    | false =>
      show wpAny _ X.A (handleBy (.ref a) X.env []) _ _ _
      refine wpAny_handleBy_nil ?_
      obtain ⟨k1, k2, k3, oe, vs, T, oT, ts', he, hz, hd, h1, hr⟩ := id fl3
      unfold PySem.passOn
      refine wpAny_bind (wpAny_field he hd h1 ?_)
      rw [if_neg (show ¬ ((Value.ref T == Value.none) = true) from by simp)]
      have fin : wpAny (model X.prog X.w) X.A (setFlight (.ref a) X.env.frame) (fun _ s4 => wpAny (model X.prog X.w) X.A (throw (.ref a) : Sem Flow) (SP X pins D) X.xe s4) X.xe { s' with heap := h3 } := by
        rw [hf]
        refine HandSPX.setFlight_upZ fl3 fun h4 hh4 up4 => wpAny_throw (tk _ _ ?_)
        exact ⟨a, B, sI, pins, σ', H', cls, d, rfl, J, nb, (up.trans up3).trans up4, .inr (.inr (by rw [hs]; exact hh4)), na, os, ag, hno rfl⟩
      first
        | exact wpAny_bind (wpAny_pure (wpAny_bind fin))
        | exact wpAny_bind fin
  · cases f with
    | next =>
      obtain ⟨σ', H', J', q⟩ := hsp
      exact wpAny_execs_nil ⟨σ', H', J'.ofTry ok, q⟩
    | brk =>
      obtain ⟨σ', H', J', q⟩ := hsp
      exact ⟨σ', H', J'.ofTry ok, q⟩
    | cont =>
      obtain ⟨σ', H', J', q⟩ := hsp
      exact ⟨σ', H', J'.ofTry ok, q⟩
    | ret u =>
      obtain ⟨v, σ', H', J', r, q⟩ := hsp
      exact ⟨v, σ', H', J'.ofTry ok, r, q⟩
end
/-- e.f, e an exception that lies at a, its dict told -/
def tKf (K : PySem.W.Frag) (te : TE) (f : Str) : TE := fun σ H Q => te σ H fun x H1 => ∃ (a C dd : Addr) (fs : List (Str × V)) (v : V), x = .ref a ∧ H1 a = some (ExK (.ref C) (some dd) a) ∧ XfC K C ∧ PySem.W.findIn K (.ref C) f = some none ∧ H1 dd = some (.xd fs) ∧ fs.lookup f = some v ∧ Q v H1
section
variable {X : Cx} {e : Expr} {te : TE} {pos : Pos} {f : Str}
theorem exK_at {P : Program} {w : World} {H : Hp} {h : Heap} {a : Addr} {cls : Value} {d : Option Addr} (hok : HOk P w H h) (e : H a = some (ExK cls d a)) : ∃ (oe : Obj) (vs : Array Value), h.get? a = some oe ∧ Zc cls d oe ∧ oe.data = .fields vs := by
  obtain ⟨z, _, _⟩ := hok a _ e
  exact z
theorem exK_inst {P : Program} {w : World} {H : Hp} {h : Heap} {a C dd : Addr} {fs : List (Str × V)} (hok : HOk P w H h) (e : H a = some (ExK (.ref C) (some dd) a)) (ed : H dd = some (.xd fs)) :
    ∃ (oe od : Obj) (mA : Str → Option Value), PySem.W.InstAt h a oe C (some od) ∧ (∀ name, PySem.W.lookIn name od = some (mA name)) ∧ ∀ g, RelO (fs.lookup g) (mA g) := by
  obtain ⟨oe, vs, ho, hz, hd⟩ := exK_at hok e
  obtain ⟨mA, hns, hr⟩ := (show ObjOk P w H h dd (.xd fs) from hok dd _ ed)
  obtain ⟨od, ho2, hl⟩ := lookIn_ns hns
  exact ⟨oe, od, mA, ⟨ho, hz.1, by unfold PySem.W.notCls; rw [hd] <;> rfl, by rw [hz.2]; exact ho2⟩, hl, hr⟩
theorem pe_kf (he : PE X e te) (hb : attributeBase e f X.env (eval e X.env) = eval e X.env := by rfl) : PE X (.Attribute e f pos) (tKf X.K te f) := by
  refine ⟨fun pins s σ H Q I h => ?_⟩
  refine attr_of hb (thn (he.run pins s σ H _ I h) fun u s1 ⟨x, H1, I1, rx, a, C, dd, fs, v, ex, ea, T, hno, ed, l, q⟩ => ?_)
  subst ex
  obtain rfl : u = Value.ref a := rx
  obtain ⟨oe, od, mA, J, hl, hr⟩ := exK_inst I1.hok ea ed
  obtain ⟨u, hu, ru⟩ := RelO.some_of (v := v) (o := mA f) (by rw [← l]; exact hr f)
  exact HandSPX.exc_get I1.kIn J T.ga T.gg T.exC (PySem.W.findObj_own T.hdC hno rfl (by rw [hl, hu])) (handed_of ru) ⟨v, H1, I1.tok _, ru, q⟩
/-- isinstance(e, c), such an exception -/
def rIsK (K : PySem.W.Frag) : List V → Hp → VK → Prop := fun xs H Q => ∃ (a D dd : Addr) (fs : List (Str × V)) (c : V) (cv : Value) (b : Bool), xs = [.ref a, c] ∧ H a = some (ExK (.ref D) (some dd) a) ∧ H dd = some (.xd fs) ∧ ExcC K D ∧ (∀ u, RelV c u → u = cv) ∧ PySem.W.kitOne K (.ref D) cv = some b ∧ Q (.bl b) H
theorem call_isK : CallR X (.builtin "isinstance") (rIsK X.K) := by
  intro pins s σ H xs us Q I r h
  obtain ⟨a, D, dd, fs, c, cv, b, rfl, ea, ed, C, hcv, e, q⟩ := h
  cases r with
  | cons rx rr =>
    cases rr with
    | cons rt rr =>
      cases rr
      cases rx
      have ec := hcv _ rt
      subst ec
      obtain ⟨oe, od, mA, J, hl, hr⟩ := exK_inst I.hok ea ed
      exact PySem.W.kia_one (PySem.W.nr_kitE C.hg C.hk C.hs C.hd C.ha C.hn C.ht C.hm) I.kIn J e (fun z => nomatch z) fun tk => ⟨.bl b, H, I.kept (t' := tk) fun _ _ z => z, rfl, q⟩
end
end Nr
end
set_option maxHeartbeats 200000
section
/-! NrErr: BadText.__init__. -/
namespace Nr
open PySem PySem.Spec PyProof.Rows L2 NdefX ClX
/-- what the head gives of BadText -/
structure ErrI (P : Program) (K : PySem.W.Frag) (mg : Str → Option Value) (C f : Addr) (fd : FuncData) : Prop where
  ex : ∃ (cda cc : Addr) (oc cellc dV kV doc pm ct : Value) (an od celld : Option Addr) (osl cells : Array (Option Value)) (cv : Option Value),
    fd = PySem.W.fnX "__init__" "BadText.__init__" (defArgs sBTI) (defBody sBTI) (defScope sBTI) [("__class__", cc)] dV kV doc pm an (.ref cda) ct ∧
    K.lookup f = some ⟨oc, od, .func fd, osl⟩ ∧ PySem.W.codeIn K (.ref cda) "BadText.__init__" = true ∧ K.lookup cc = some ⟨cellc, celld, .cell cv, cells⟩ ∧ SupF P K mg (defArgs sBTI) (defScope sBTI) "__init__" "self" C C cda cc
  find : PySem.W.ks_superIn K C C "__init__" = some (some (.builtin "ValueError.__init__"))
  ve : PySem.W.mroIn K C (.type "ValueError") = some true
  oex : OexC K C
  n1 : PySem.W.findIn K (.ref C) "line" = some none
  n2 : PySem.W.findIn K (.ref C) "word" = some none
  b : Binds K fd ["self", "line", "word"] []
  g : mg "BadText" = some (.ref C)
  init : PySem.W.findIn K (.ref C) "__init__" = some (some (.ref f))
  ti : PySem.W.typeIn K (.ref f) = some (.type "function")
def btF (l k : Int) : List (Str × V) := [("word", .int k), ("line", .int l)]
def spBT (C : Addr) : Sp := fun vs H Q _ => ∃ (a : Addr) (l k : Int), vs = [.ref a, .int l, .int k] ∧ H a = some (exo a C none) ∧
  ∀ d H', Off a H H' → H d = none → H' a = some (exo a C (some d)) → H' d = some (exd d (btF l k)) → Q .non H'
section
variable {P : Program} {w : World} {K : PySem.W.Frag} {mg : Str → Option Value} {base : Heap}
theorem scBTI : NScope ["self", "line", "word", "__class__"] ["self", "line", "word"] ["__class__"] (defScope sBTI) := nscope_by (by decide +kernel)
theorem ok_BT {C f : Addr} {fd : FuncData} (I : ErrI P K mg C f fd) : FnOk P w K mg base CX0 1 f fd ["self", "line", "word"] (spBT C) := by
  obtain ⟨cda, cc, oc, cellc, dV, kV, doc, pm, ct, an, od, celld, osl, cells, cv, rfl, lk, hcd, hc, S⟩ := I.ex
  refine fn_first (N := ["self", "line", "word", "__class__"]) (k := 0) lk hcd scBTI hc (fun vs H Q E h => ?_) (fun A outer s H vs Q E hr h => ?_) (fun _ => by rfl) (fun _ => by rfl)
  · obtain ⟨a, l, k, rfl, _⟩ := h
    rfl
  · obtain ⟨a, l, k, rfl, ha, kk⟩ := h
    refine ⟨_, _, pe_supV I.oex rfl S I.find I.ve lk rfl rfl (pa_cons (pv 1) (pa_cons (pv 2) pa_nil)), pss_cons (ps_ost (pv 0) (pv 1)) (pss_one (ps_ost (pv 0) (pv 2))), ?_⟩
    refine ⟨a, rfl, ha, _, rfl, _, rfl, (show 2 ≤ 1000 by decide), ha, ?_⟩
    refine ⟨_, rfl, _, rfl, a, C, rfl, I.oex, I.n1, .inl ⟨ha, fun dx hdx hne => ?_⟩⟩
    refine ⟨_, rfl, _, rfl, a, C, rfl, I.oex, I.n2, .inr ⟨dx, [("line", .int l)], upd_same, by rw [upd_ne hne, upd_same], (show 1 ≤ 900 by decide), ?_⟩⟩
    refine kk dx _ (fun b o hb e => ?_) hdx ?_ upd_same
    · rw [upd_ne (ne_of_none e hdx), upd_ne hb, upd_ne (ne_of_none e hdx)]
      exact e
    · rw [upd_ne (Ne.symm hne), upd_same]
/-- raise BadText(l, k): what stands behind -/
theorem raise_bt {C : Addr} {H : Hp} {l k : Int} {E : XK} (h : ∀ d H', Same H H' → H d = none → H' d = some (.xd (btF l k)) → E (.ref C) (some d) H') :
    ∀ a, H a = none → spBT C (.ref a :: ([.int l, .int k] ++ [])) (upd H a (exo a C none)) (fun v H2 => v = .non ∧ ∃ (d : Addr) (fs : List (Str × V)), H2 a = some (exo a C (some d)) ∧ H2 d = some (exd d fs) ∧ H d = none ∧ E (.ref C) (some d) (upd (del H2 a) d (.xd fs))) (fun _ _ _ => False) := by
  intro a na
  refine ⟨a, l, k, rfl, upd_same, fun d H' ho hd ha hdd => ⟨rfl, d, _, ha, hdd, ?_, ?_⟩⟩
  · by_cases e : d = a
    · rw [e]; exact na
    · rw [upd_ne e] at hd
      exact hd
  · have hne : d ≠ a := fun e => by rw [e, upd_same] at hd; cases hd
    rw [upd_ne hne] at hd
    refine h d _ (fun b o hb => ?_) hd upd_same
    have hba := ne_of_none hb na
    rw [upd_ne (ne_of_none hb hd), del_ne hba]
    exact ho b o hba (by rw [upd_ne hba]; exact hb)
end
end Nr
end
set_option maxHeartbeats 2000000
section
/-! NrLam: o.m(lambda x: e), the method calling what it got. -/
namespace Nr
open PySem PySem.Spec PyProof.Rows L2 LamX NdefX
/-- nothing is let out -/
abbrev CXN : CXT := fun _ _ _ _ _ _ => False
/-- the words of a lambda made in X -/
abbrev nfL (X : Cx) (params : Arguments) (scope : Scope) (c' : Addr) : NF := ⟨"<lambda>", X.env.qual ++ "<lambda>", params, [], scope, cloFrom X.env.cells scope.names [], c'⟩
section
variable {X : Cx} {pins : List (Addr × Obj)} {σ : L2.St} {H : Hp} {s : Shared}
/-- the captured cells at a later state of which all untracked things of the first are kept -/
theorem cellsOn {cl : List (Str × Addr)} {fr : List Str} {ws : List (Option V)} {fs : List Addr} {h h1 : Heap} {HZ : Hp} (C : CellsAt cl fr ws h H) (un : Un fs [] H HZ h h1) : CellsAt cl fr ws h1 HZ := by
  have kp : ∀ {c : Addr} {v : Option Value}, H c = none → h.IsCell c v → h1.IsCell c v := fun {c v} n ⟨o, ho, hd⟩ => by
    obtain ⟨sl, q⟩ := un.any ho n (by simp)
    exact ⟨_, q, hd⟩
  refine ⟨C.len, fun y c e => ?_, C.inj, fun i y e => ?_⟩
  · obtain ⟨n, v, z⟩ := C.all y c e
    obtain ⟨o, ho, _⟩ := id z
    exact ⟨un.free c o ho n (by simp), v, kp n z⟩
  · obtain ⟨c, hc, hv⟩ := C.has i y e
    exact ⟨c, hc, fun v ev => let ⟨u, r, z⟩ := hv v ev; ⟨u, r, kp (C.all y c hc).1 z⟩⟩
/-- a(e) in the def that got the lambda; Z is that def's context, entered at s -/
theorem pe_act1 {CXg : CXT} {Eg : XK} {Ng N1 fr : List Str} {js : List Nat} {qg : Str} {sg : Scope} {g f c' : Addr} {cdg pm ctv : Value} {params : Arguments} {body : Expr} {scope : Scope} {k i : Nat} {a y : Str} {tb te : TE} {e : Expr} {p1 p2 : Pos}
    (I : Inv X pins σ H s) (S : NScope N1 [y] fr scope) (cp : Caps X (cloFrom X.env.cells scope.names []) fr js)
    (hf : s.heap.get? f = some (PySem.W.kla_obj "<lambda>" (X.env.qual ++ "<lambda>") params body scope (cloFrom X.env.cells scope.names []) pm c' ctv)) (hfn : H f = none) (hfr : f ∉ frs X.stack)
    (hbind : ∀ u : Value, bindArgs (PySem.W.kla_fn "<lambda>" (X.env.qual ++ "<lambda>") params body scope (cloFrom X.env.cells scope.names []) pm (.ref c') ctv) ⟨[u], []⟩ = pure [(y, u)])
    (hr : Room (k + 1) (X.A.deeper (envOfC qg sg s.heap.objs.size g cdg)))
    (hbody : ∀ (A : Around) (outer : List Env) (s : Shared) (H : Hp), Room k (A.deeper (envF (nfL X params scope c') f s.heap.objs.size)) → PE (ncx CXN X.prog X.w X.K X.mg X.base N1 (nfL X params scope c') f A outer s H (fun _ _ _ => False)) body tb)
    (hN : Ng[i]? = some a) (hv : Vis sg a) (he : PE (cxOf CXg X.prog X.w X.K X.mg X.base Ng qg sg g cdg X.A X.stack s H Eg) e te)
    (hd : (a == ("__debug__" : Str)) = false := by decide) (hcd : (a == ("__classdict__" : Str)) = false := by decide)
    (hst : starEach [e] (envOfC qg sg s.heap.objs.size g cdg) = (false, eval e (envOfC qg sg s.heap.objs.size g cdg)) :: starEach [] (envOfC qg sg s.heap.objs.size g cdg) := by rfl) :
    PE (cxOf CXg X.prog X.w X.K X.mg X.base Ng qg sg g cdg X.A X.stack s H Eg) (.Call (.Name a p1) [e] [] p2)
      (fun σZ HZ Q => σZ[i]? = some (some (.ref f)) ∧ te σZ HZ fun x H1 => H1 c' = some (CodeO c' (X.env.qual ++ "<lambda>")) ∧ tb (startF N1 [x] (js.map (slotAt σ))) H1 Q) := by
  refine ⟨fun pinsZ sZ σZ HZ Q IZ h => ?_⟩
  obtain ⟨hs, ht⟩ := h
  refine wpAny_Call_Name_kw (thn ((pe_var (pos := p1) (i := i) hN hv hd hcd).run pinsZ sZ σZ HZ (fun v H1 => v = .ref f ∧ H1 = HZ) IZ ⟨.ref f, hs, rfl, rfl⟩) fun u s1 ⟨v, H1, I1, r1, q1⟩ => ?_)
  obtain ⟨ev, eH⟩ := q1
  subst ev
  rw [eH] at I1
  obtain rfl : u = Value.ref f := r1
  have at_ : ∀ {pinsY : List (Addr × Obj)} {σY : L2.St} {HY : Hp} {sY : Shared}, Inv (cxOf CXg X.prog X.w X.K X.mg X.base Ng qg sg g cdg X.A X.stack s H Eg) pinsY σY HY sY →
      sY.heap.get? f = some (PySem.W.kla_obj "<lambda>" (X.env.qual ++ "<lambda>") params body scope (cloFrom X.env.cells scope.names []) pm c' ctv) := fun IY => IY.base.keep f _ hf hfn hfr (fun z => nomatch (show f ∈ ([] : List Addr) from z))
  refine PySem.W.callWith_F (first := []) ⟨_, _, _, _, at_ I1⟩ ?_ hst (by rfl)
  have sp := (pa_cons he pa_nil hst).run p2 pinsZ s1 σZ HZ (fun vs H2 => ∃ x, vs = [x] ∧ H2 c' = some (CodeO c' (X.env.qual ++ "<lambda>")) ∧ tb (startF N1 [x] (js.map (slotAt σ))) H2 Q) I1
    (by
      have mono := ht
      exact (show te σZ HZ (fun x H2 => ∃ x', [x] = [x'] ∧ H2 c' = some (CodeO c' (X.env.qual ++ "<lambda>")) ∧ tb (startF N1 [x'] (js.map (slotAt σ))) H2 Q) from by
        have e2 : (fun x H2 => ∃ x', [x] = [x'] ∧ H2 c' = some (CodeO c' (X.env.qual ++ "<lambda>")) ∧ tb (startF N1 [x'] (js.map (slotAt σ))) H2 Q) = (fun x H1 => H1 c' = some (CodeO c' (X.env.qual ++ "<lambda>")) ∧ tb (startF N1 [x] (js.map (slotAt σ))) H1 Q) := by
          funext x H2
          refine propext ⟨?_, fun z => ⟨x, rfl, z⟩⟩
          rintro ⟨x', ex, z⟩
          cases ex
          exact z
        rw [e2]
        exact mono))
  refine thn sp fun us s2 ⟨vs, H2, I2, rv, x, ex, hc, q⟩ => ⟨⟨_, _, _, _, at_ I2⟩, ?_⟩
  subst ex
  cases rv with
  | @cons _ u1 _ _ rx rnil =>
    cases rnil
    have un : Un (frs X.stack) [] H H2 s.heap s2.heap := I2.base
    obtain ⟨⟨oc, vsc, tc, hoc, hdc, hvc⟩, _, _⟩ := I2.hok c' _ hc
    show wpAny _ _ (call (.ref f) [u1]) _ _ _
    have rc : codeAny (model X.prog X.w) (X.A.deeper (envOfC qg sg s.heap.objs.size g cdg)) (.call (.ref f) ⟨[u1], []⟩) (CR CXN (envOfC qg sg s.heap.objs.size g cdg :: X.stack) X.prog X.w H2 s2 Q (fun _ _ _ => False)) s2 := by
      refine PySem.W.kla_callFunE hr.depth (at_ I2) rfl S.co S.gen rfl ⟨c', oc, vsc, tc, rfl, hoc, hdc, hvc⟩ ?_
      rw [hbind]
      refine wpAny_pure (wpAny_newFunctionEnv S.nocell (fun z hz => by
        rw [List.mem_singleton] at hz
        subst hz
        exact S.par y (List.mem_singleton.mpr rfl)) (fun h₁ hns hsb => ⟨I2.nolimit.fresh _ hsb, ?_⟩) S.kind)
      show codeAny _ _ (.expr body (envF (nfL X params scope c') f s2.heap.objs.size)) _ _
      have kp : ∀ b o, s2.heap.get? b = some o → h₁.get? b = some o := fun b o e => hsb.extBut b o (Nat.ne_of_lt (Heap.lt_size e)) (Heap.get?_push_of_some _ e)
      have J : Inv (ncx CXN X.prog X.w X.K X.mg X.base N1 (nfL X params scope c') f (X.A.deeper (envOfC qg sg s.heap.objs.size g cdg)) (envOfC qg sg s.heap.objs.size g cdg :: X.stack) s2 H2 (fun _ _ _ => False)) [] (startF N1 [x] (js.map (slotAt σ))) H2 { s2 with heap := h₁, toks := s2.toks + [(y, u1)].length } :=
        inv_startN (us := [u1]) (vs := [x]) S hr.hd I2.env0 rfl (.cons rx .nil) (cellsOn (cells_of I cp) un) hns kp
      refine PySem.W.kla_codeExpr (wpAny_mono ((hbody _ _ s2 H2 (hr.deeper _)).run [] _ _ H2 Q J q) (fun v s' hq => ?_) fun e s' hq => hq)
      obtain ⟨w', H', J', rv, q⟩ := hq
      exact ⟨w', H', J'.os, J'.bare, J'.base, J'.hok, rv, q⟩
    refine wpAny_call (codeAny_mono rc fun r s' hq => ?_)
    cases r with
    | error e => exact False.elim hq
    | ok fl =>
      cases fl with
      | ret u => exact I2.after hq
      | next => exact False.elim hq
      | brk => exact False.elim hq
      | cont => exact False.elim hq
end
/-- the method that calls what it got: tl what the call of it is read as, TT what the method makes of it -/
def MakesOf (X : Cx) (Ng : List Str) (qg : Str) (sg : Scope) (g : Addr) (cdg : Value) (bg : List Stmt) (a : Str) (E : XK) (TT : V → (V → Hp → VK → Prop) → Hp → VK → Prop) : Prop :=
  ∀ (f c' : Addr) (s : Shared) (H : Hp) (self : V) (Q : VK) (q : Str) (tl : V → Hp → VK → Prop),
    (∀ (e : Expr) (te : TE) (p1 p2 : Pos), PE (cxOf (L2.CX X.prog X.w) X.prog X.w X.K X.mg X.base Ng qg sg g cdg X.A X.stack s H E) e te →
      (starEach [e] (envOfC qg sg s.heap.objs.size g cdg) = (false, eval e (envOfC qg sg s.heap.objs.size g cdg)) :: starEach [] (envOfC qg sg s.heap.objs.size g cdg)) →
      PE (cxOf (L2.CX X.prog X.w) X.prog X.w X.K X.mg X.base Ng qg sg g cdg X.A X.stack s H E) (.Call (.Name a p1) [e] [] p2)
        (fun σZ HZ Q => σZ[1]? = some (some (.ref f)) ∧ te σZ HZ fun x H1 => H1 c' = some (CodeO c' q) ∧ tl x H1 Q)) →
    H c' = some (CodeO c' q) → TT self tl H Q →
    ∃ t, PSs (cxOf (L2.CX X.prog X.w) X.prog X.w X.K X.mg X.base Ng qg sg g cdg X.A X.stack s H E) bg t ∧ t { nx := fun _ H' => Q .non H', rt := Q } (L2.start Ng [self, .ref f]) H
def tMethLam (C : Addr) (m : Str) (T : List (Addr × Str)) (N1 : List Str) (js : List Nat) (TT : V → (V → Hp → VK → Prop) → Hp → VK → Prop) (ta tb : TE) : TE := fun σ H Q => ta σ H fun x H0 => ∃ a dx fs, x = .ref a ∧ H0 a = some (.ins C dx fs) ∧ fs.lookup m = none ∧
  Tabs T H0 ∧ ∀ H1, ExtN H0 H1 → Tabs T H1 → TT x (fun y H' Q' => tb (startF N1 [y] (js.map (slotAt σ))) H' Q') H1 Q
section
variable {X : Cx}
/-- o.m(lambda y: body) -/
theorem pe_methlam {T : List (Addr × Str)} {TT : V → (V → Hp → VK → Prop) → Hp → VK → Prop} {C g c P : Addr} {m a y s0 : Str} {k : Nat} {pg : Arguments} {bg : List Stmt} {sg : Scope} {nmg qg : Str} {dV kV doc pm cdv ct oc : Value} {an od : Option Addr} {osl : Array (Option Value)} {Ng N1 fr : List Str} {js : List Nat}
    {params : Arguments} {body o : Expr} {scope : Scope} {ta tb : TE} {E : XK} {lpos pos apos : Pos} {pl : Sem Bool}
    (ho : PE X o ta) (cC : Cls X.K C) (hm : Meth X.K C m g)
    (lk : X.K.lookup g = some ⟨oc, od, .func (PySem.W.fnOf nmg qg pg bg sg dV kV doc pm an cdv ct), osl⟩) (hcg : PySem.W.codeIn X.K cdv qg = true) (hb : L2.Binds X.K (PySem.W.fnOf nmg qg pg bg sg dV kV doc pm an cdv ct) [s0, a] []) (Sg : FnScope Ng [s0, a] sg) (hNg : Ng[1]? = some a) (hva : Vis sg a)
    (hG : MakesOf X Ng qg sg g cdv bg a E TT) (hx : Passes (L2.CX X.prog X.w) X E)
    (TB : TabB X.base X.mg c P) (hcode : X.env.code = .ref c) (hmT : (P, X.env.qual ++ "<lambda>") ∈ T) (hu : ∀ p ∈ T, p.1 = P → p.2 = X.env.qual ++ "<lambda>") (hr : Room (k + 2) X.A)
    (S : NScope N1 [y] fr scope) (hfree : ∀ z ∈ scope.names, z.2 = .free → X.env.scope.names.lookup z.1 = some .cell ∨ X.env.scope.names.lookup z.1 = some .free) (hfr : ∀ z ∈ fr, (z, NameKind.free) ∈ scope.names) (hjs : js.map (fun j => X.N[j]?) = fr.map some)
    (hdef : defaultsOf params X.env = ([], []))
    (hbind : ∀ (q : Str) (cl : List (Str × Addr)) (pm cv ctv u : Value), bindArgs (PySem.W.kla_fn "<lambda>" q params body scope cl pm cv ctv) ⟨[u], []⟩ = pure [(y, u)])
    (hbody : ∀ (A : Around) (outer : List Env) (s : Shared) (H : Hp) (f c' : Addr), Room k (A.deeper (envF (nfL X params scope c') f s.heap.objs.size)) → PE (ncx CXN X.prog X.w X.K X.mg X.base N1 (nfL X params scope c') f A outer s H (fun _ _ _ => False)) body tb)
    (hd : (a == ("__debug__" : Str)) = false := by decide) (hcd : (a == ("__classdict__" : Str)) = false := by decide)
    (ht : eval (.Call (.Attribute o m apos) [.Lambda params body scope lpos] [] pos) X.env = (do
      let ov ← eval o X.env
      standAt apos.atName
      let (f, first) ← holding [ov] (getMethod ov m pl)
      callWith pos f first (backTo pos (starEach [.Lambda params body scope lpos] X.env)) (backToKw pos (keywordEach [] X.env))) := by rfl) :
    PE X (.Call (.Attribute o m apos) [.Lambda params body scope lpos] [] pos) (tMethLam C m T N1 js TT ta tb) := by
  refine ⟨fun pins s σ H Q I h => ?_⟩
  refine PySem.W.methodCall_KW (pl := pl) (thn (ho.run pins s σ H _ I h) fun u s0' ⟨x, H0, I0, rx, av, dx, fs, ex, ea, l, hT, h⟩ => ?_) ht
  subst ex
  obtain rfl : u = Value.ref av := rx
  refine getmeth_ok I0 ea cC hm l ?_
  refine PySem.W.callWith_K (first := [.ref av]) (h₀ := X.base) I0.ok.mod.kin hm.kp ?_ (by rfl) (by rfl)
  show wpAny _ _ (spliced ((false, eval (.Lambda params body scope lpos) X.env) :: backTo pos (starEach [] X.env))) _ _ s0'
  have hfr' : ∀ z ∈ scope.names, z.2 = .free → ∃ c, X.env.cells.lookup z.1 = some c := fun z hz e => (hfree z hz e).elim (fun q => I0.ok.has _ (.inl q)) fun q => I0.ok.has _ (.inr q)
  refine Calls.spliced_cons (lam_make2 I0 TB hcode hmT hu hT hdef hfr' fun f c' pm' ctv H1 s' I1 eN T1 hf hfn hfn2 hco => ?_)
  refine Calls.spliced_nil ⟨I1.kIn, ?_⟩
  show wpAny _ _ (call (.ref g) [.ref av, .ref f]) _ _ _
  have cp : Caps X (cloFrom X.env.cells scope.names []) fr js := Caps.made I1.ok hfree hfr hjs
  have rc : codeAny (model X.prog X.w) X.A (.call (.ref g) ⟨[.ref av, .ref f], []⟩) (CR (L2.CX X.prog X.w) X.stack X.prog X.w H1 s' Q E) s' := by
    refine run_ofS (N := Ng) (ps := [s0, a]) (us := [.ref av, .ref f]) (vs := [.ref av, .ref f]) lk hcg Sg hr I1.env0 (hb s' [.ref av, .ref f] I1.kIn rfl) (.cons rfl (.cons rfl .nil)) rfl fun hr' => ?_
    exact hG f c' s' H1 (.ref av) Q (X.env.qual ++ "<lambda>") (fun y H' Q' => tb (startF N1 [y] (js.map (slotAt σ))) H' Q')
      (fun e te p1 p2 hpe hste => pe_act1 (i := 1) I1 S cp hf hfn hfn2 (fun u => hbind _ _ _ _ _ u) hr' (fun A outer s H hr2 => hbody A outer s H f c' hr2) hNg hva hpe hd hcd hste) hco (h H1 eN T1)
  refine wpAny_call (codeAny_mono rc fun r s2 hq => ?_)
  cases r with
  | error e => exact hx pins σ H1 s' e s2 I1 hq
  | ok fl =>
    cases fl with
    | ret u => exact I1.after hq
    | next => exact False.elim hq
    | brk => exact False.elim hq
    | cont => exact False.elim hq
end
end Nr
end
set_option maxHeartbeats 2000000
section
/-! NrLcx: a list comprehension whose element is a call that may raise. -/
namespace Nr
open PySem PySem.Spec PyProof.Rows L2
theorem tracedSub {h B B' : Heap} {e : Addr} {Z : Obj → Prop} {fl : Value} (sub : ∀ b o, B'.get? b = some o → B.get? b = some o) (t : HandSPX.TracedZ h B e Z fl) : HandSPX.TracedZ h B' e Z fl := by
  obtain ⟨oe, vs, T, oT, ts, x1, x2, x3, x4, nT, x5, x6, x7, x8⟩ := t
  refine ⟨oe, vs, T, oT, ts, x1, x2, x3, x4, ?_, x5, x6, x7, x8⟩
  cases q : B'.get? T with
  | none => rfl
  | some o => rw [sub T o q] at nT; cases nT
theorem flyingSub {h B B' : Heap} {l : List Env} {e : Addr} {Z : Obj → Prop} (sub : ∀ b o, B'.get? b = some o → B.get? b = some o) (t : HandSPX.FlyingZ B l e Z h) : HandSPX.FlyingZ B' l e Z h := by
  obtain ⟨x1, x2, x3, x4⟩ := t
  have no : ∀ b, B.get? b = none → B'.get? b = none := fun b n => by
    cases q : B'.get? b with
    | none => rfl
    | some o => rw [sub b o q] at n; cases n
  exact ⟨fun b o q => x1 b o (sub b o q), no e x2, funFrames_none x3 fun b hb => no b (x3.mem hb).1, tracedSub sub x4⟩
section
variable {X : Cx} {pins : List (Addr × Obj)} {σ : L2.St} {H3 : Hp} {s3 : Shared} {W : WX} {E : XK}
/-- what the block's code wishes of an exception -/
def blkXe (X : Cx) (ce : Env) : Value → Shared → Prop := notedBy (model X.prog X.w) X.A ce (CompFails (model X.prog X.w) X.A X.xe ce)
/-- a call in the block may let out what the def takes -/
theorem blkPasses {scope : Scope} {ce : Env} {fp : List Addr} (hs : X.stack = X.env :: X.outer) (hf : X.env.frame = some X.env.locals) (cf : ce.frame = X.env.frame) (I3 : Inv X pins σ H3 s3)
    (f3 : ∀ b ∈ fp, FpOk X pins H3 b ∧ b < s3.heap.objs.size) (cL : s3.heap.objs.size ≤ ce.locals) (tk : Takes X W) (hW : ∀ cls d H', E cls d H' → W cls d σ H') :
    Passes (L2.CX X.prog X.w) { (X.blk s3 H3 scope ce fp) with xe := blkXe X ce } E := by
  intro pb σb H s e s' I c
  obtain ⟨a, B, H', cls, d, rfl, fl, hok, ub, na, os, ag, hE⟩ := c
  have fl : HandSPX.FlyingZ B X.stack a (Zc cls d) s'.heap := fl
  have ub : UB (frs X.stack) H H' s.heap B s'.heap := ub
  have hfr : X.A.frames = some (X.env :: X.outer) := by rw [I3.ok.frames, hs]
  have hfree : H ce.locals = none := I.free
  have Ibase : Un (frs X.stack) fp H3 H s3.heap s.heap := I.base
  obtain ⟨m0, hns, _⟩ := I.loc
  have hns : s.heap.Ns ce.locals m0 := hns
  have nst : ce.locals ∉ frs X.stack := fun hb => by
    obtain ⟨_, o, ho, _⟩ := I3.stack.mem hb
    exact absurd (Nat.lt_of_lt_of_le (Heap.lt_size ho) cL) (Nat.lt_irrefl _)
  obtain ⟨oC, eC, pC, hoC, hdC, rC⟩ := id hns
  have inB : B.get? ce.locals = some oC := ub.keep _ _ hoC hfree nst
  have in' : s'.heap.get? ce.locals = some oC := fl.1 _ _ inB
  have ns' : s'.heap.Ns ce.locals m0 := ⟨oC, eC, pC, in', hdC, rC⟩
  have fC' : H' ce.locals = none := ub.free _ _ hoC hfree
  obtain ⟨B', b1, b2⟩ := restrict B fun b => decide (b ≠ ce.locals)
  have bk : ∀ b, b ≠ ce.locals → B'.get? b = B.get? b := fun b hb => b1 b (decide_eq_true hb)
  have bC : B'.get? ce.locals = none := b2 _ (decide_eq_false fun z => z rfl)
  have sub : ∀ b o, B'.get? b = some o → B.get? b = some o := fun b o q => by
    by_cases hb : b = ce.locals
    · rw [hb, bC] at q; cases q
    · rw [← bk b hb]; exact q
  have fl' : HandSPX.FlyingZ B' (X.env :: X.outer) a (Zc cls d) s'.heap := by rw [← hs]; exact flyingSub sub fl
  have tld : ∀ b o, s3.heap.get? b = some o → b ≠ ce.locals := fun b o q => Nat.ne_of_lt (Nat.lt_of_lt_of_le (Heap.lt_size q) cL)
  show wpAny (model X.prog X.w) X.A (noteFrame (.ref a) ce) _ _ s'
  rw [noteFrame_env _ cf]
  refine HandSPX.looks_onZ Zc.steady hfr hf fl' fun h1 held1 up1 => ?_
  refine ⟨m0, ns'.upToSlots up1, fun h2 m2 hn2 sb => ?_⟩
  obtain ⟨st1, ha1, ff1, oe, vs, T, oT, ts, he, hz, hd, hv1, hnT, hTe, hT, hdT, hv3⟩ := held1
  have ns1 := ns'.upToSlots up1
  obtain ⟨o1, e1, p1, ho1, hd1, _⟩ := id ns1
  have aC : a ≠ ce.locals := fun z => by rw [z, ho1] at he; cases he; rw [hd1] at hd; cases hd
  have TC : T ≠ ce.locals := fun z => by rw [z, ho1] at hT; cases hT; rw [hd1] at hdT; cases hdT
  have held2 : HandSPX.HeldZ B' (X.env :: X.outer) a (Zc cls d) X.env.locals h2 :=
    ⟨fun b o q => (sb.2 b fun z => by rw [z, bC] at q; cases q).trans (st1 b o q), ha1, Heap.FunFrames.sameBut sb hn2 ff1, oe, vs, T, oT, ts, (sb.2 a aC).trans he, hz, hd, hv1, hnT, hTe, (sb.2 T TC).trans hT, hdT, hv3⟩
  unfold PySem.passOn
  refine wpAny_bind (wpAny_field ((sb.2 a aC).trans he) hd hv1 ?_)
  rw [if_neg (show ¬ ((Value.ref T == Value.none) = true) from by simp)]
  rw [cf, hf]
  refine wpAny_bind (HandSPX.setFlight_onZ held2 fun h3 held3 up3 => ?_)
  refine wpAny_throw (tk _ _ ?_)
  obtain ⟨G, g1, g2⟩ := restrict h3 fun b => (B'.get? b).isSome || decide (b ∈ frs X.stack)
  have st3 : ∀ b o, B'.get? b = some o → h3.get? b = some o := held3.1
  have gB : ∀ b o, B'.get? b = some o → G.get? b = some o := fun b o q => by
    rw [g1 b (by simp [q])]
    exact st3 b o q
  have gF : ∀ b, b ∈ frs X.stack → G.get? b = h3.get? b := fun b hb => g1 b (by simp [hb])
  have og : ∀ b o, G.get? b = some o → h3.get? b = some o ∧ ((B'.get? b).isSome = true ∨ b ∈ frs X.stack) := fun b o q => by
    cases z : ((B'.get? b).isSome || decide (b ∈ frs X.stack)) with
    | false => rw [g2 b z] at q; cases q
    | true =>
      rw [g1 b z] at q
      exact ⟨q, by simpa [Bool.or_eq_true] using z⟩
  -- the frames, up to their slots
  have frS : ∀ b o, s3.heap.get? b = some o → b ∈ frs X.stack → ∃ sl, G.get? b = some { o with slots := sl } := fun b o q hb => by
    obtain ⟨_, o', q', hnf⟩ := I3.stack.mem hb
    rw [q] at q'; cases q'
    have hn3 : H3 b = none := I3.stkFree b hb
    have hx : b ∉ fp := fun hm => by
      rcases List.mem_cons.mp (I3.stkSub b hb) with z | z
      · exact (f3 b hm).1.2.1 z
      · exact (f3 b hm).1.2.2.1 z
    obtain ⟨sl1, y1⟩ := Ibase.slot b o q hn3 hb hx
    obtain ⟨sl2, y2⟩ := ub.slot b _ y1 hb
    obtain ⟨sl3, y3⟩ := up1 b _ y2 hnf
    have y4 := (sb.2 b (tld b o q)).trans y3
    obtain ⟨sl5, y5⟩ := up3 b _ y4 hnf
    exact ⟨sl5, by rw [gF b hb]; exact y5⟩
  have okG : HOk X.prog X.w H' G := fun b o q =>
    (hok b o q).stay (fun c u hc r => gB c u (by
      have hcC : c ≠ ce.locals := fun z => by
        subst z
        rcases hc with hc | hc
        · rw [← hc, fC'] at q; cases q
        · rw [fC'] at hc; cases hc
      rw [bk c hcC]
      exact r)) (fun _ r => r) fun _ _ r => r
  refine ⟨a, B', { s with heap := G, gens := s'.gens, drawn := s'.drawn, toks := s'.toks }, pins, σ, H', cls, d, rfl, ?_, fun b o q hb => ?_, Heap.UpToSlots.of_keeps fun b o q => (og b o q).1, .inr (.inr (by rw [hs]; exact held3)), na, os, ag, hW _ _ _ hE⟩
  · have osI : s.os = s3.os := I.os
    refine I3.call' (ch := fp) (s' := { s with heap := G, gens := s'.gens, drawn := s'.drawn, toks := s'.toks }) osI ⟨fun b o q n hb hx => ?_, fun b o q n hb hx => frS b o q hb, fun b o q n hx => ?_, fun b o q hx => ?_, fun b xs q => ub.tups b xs (Ibase.tups b xs q), fun b o u q => ub.frzs b o u (Ibase.frzs b o u q), fun b ps q => ?_⟩ okG ag
      fun b hb => ⟨(f3 b hb).1.2.2.2.1, (f3 b hb).1.2.1, (f3 b hb).1.2.2.2.2.1, (f3 b hb).1.2.2.2.2.2⟩
    · have y := ub.keep b o (Ibase.keep b o q n hb hx) (Ibase.free b o q n hx) hb
      exact gB b o (by rw [bk b (tld b o q)]; exact y)
    · obtain ⟨o', y⟩ := Ibase.there b o q hx
      exact ub.free b o' y (Ibase.free b o q n hx)
    · by_cases hb : b ∈ frs X.stack
      · obtain ⟨sl, y⟩ := frS b o q hb
        exact ⟨_, y⟩
      · obtain ⟨o', y⟩ := Ibase.there b o q hx
        obtain ⟨o2, y2⟩ := ub.there b o' y hb
        exact ⟨o2, gB b o2 (by rw [bk b (tld b o q)]; exact y2)⟩
    · obtain ⟨k1, y1⟩ := Ibase.tbls b ps q
      obtain ⟨k2, y2⟩ := ub.tbls b _ y1
      exact ⟨k1 ++ k2, by rw [y2, Array.append_assoc]⟩
  · obtain ⟨y, z⟩ := og b o q
    rcases z with z | z
    · obtain ⟨o', y'⟩ := Option.isSome_iff_exists.mp z
      have y2 := st3 b o' y'
      rw [y] at y2; cases y2
      exact y'
    · exact absurd z hb
/-- the block's context, its exceptions wished for -/
abbrev blkX (X : Cx) (s : Shared) (H : Hp) (scope : Scope) (cl : List (Str × Addr)) (C : Addr) (fp : List Addr) : Cx := { (X.blk s H scope (compEnvC scope cl C X.env) fp) with xe := blkXe X (compEnvC scope cl C X.env) }
/-- [elt for target in iter if ..], where elt calls a def that may raise; the reading is the one of any such list -/
theorem pe_lcx {elt tg iter : Expr} {ifs : List Expr} {scope : Scope} {own : List (Str × Nat)} {pos : Pos} {wi : TI} {g : TG} {tt : TT} {te : TE}
    (hs : X.stack = X.env :: X.outer) (hf : X.env.frame = some X.env.locals) (tk : Takes X (fun cls d _ H => E cls d H)) (hc : X.calm = true) (hN : X.N.Nodup) (hi : PI X tg iter wi) (ok : BlkOk X.N X.env.scope scope own)
    (hg : ∀ (s : Shared) (H : Hp) (C : Addr) (cl : List (Str × Addr)) (fp : List Addr), PG (blkX X s H scope cl C fp) tg g) (ht : ∀ (s : Shared) (H : Hp) (C : Addr) (cl : List (Str × Addr)) (fp : List Addr), PTs (blkX X s H scope cl C fp) ifs tt)
    (he : ∀ (s : Shared) (H : Hp) (C : Addr) (cl : List (Str × Addr)) (fp : List Addr), Passes (L2.CX X.prog X.w) (blkX X s H scope cl C fp) E → PE (blkX X s H scope cl C fp) elt te)
    (hfs : ∀ x, foldedSetIterable iter X.env x = pure x := by intro _; rfl) :
    PE X (.ListComp elt [⟨tg, iter, ifs, 0⟩] scope pos) (tLc wi g tt te (own.map (·.2))) := by
  refine ⟨fun pins s σ H Q I h => ?_⟩
  rw [eval_ListComp]
  have hfree : ∀ y ∈ scope.names, y.2 = .free → ∃ c, X.env.cells.lookup y.1 = some c := fun y hy e => by
    rcases ok.free y hy e with k | k
    · exact I.ok.has _ (.inl k)
    · exact I.ok.has _ (.inr k)
  refine comprehension_at (use := none) rfl hfs (closure_ok hfree) ok.kind (fun y hy e => by rw [ok.uniq y hy, e])
    (thn (hi.run pins s σ H _ I h) fun xv s1 hx => thn hx fun itv s2 h2 => ?_)
  obtain ⟨it, fp, tn, J, H2, e, I2, T, st2, f2, q⟩ := h2
  subst e
  refine wpAny_newObj_type (newEnv_comp ?_) (by show 0 ≤ sizeLine; decide)
  generalize hD : s2.heap.objs.size = D
  have hDn : H2 D = none := I2.hok.fresh (Nat.le_of_eq hD)
  obtain ⟨Wv, ⟨m0, w0⟩, turn⟩ := q D hDn
  generalize hs3 : ({ s2 with heap := s2.heap.push { cls := .type "list", data := .seq ([] : List Value).toArray } } : Shared) = s3
  have I3 : Inv X pins σ (upd H2 D (.lst [])) s3 := by
    rw [← hs3]
    refine I2.laid (t' := s2.toks) (fun b o e => Heap.get?_push_of_some _ e) (Nat.le_of_eq hD) ⟨Nat.zero_le _, [], 0, .nil, ?_⟩
    rw [← hD]
    exact Heap.get?_push_size _ rfl
  have h3 : s3.heap = s2.heap.push { cls := .type "list", data := .seq ([] : List Value).toArray } := by rw [← hs3]
  have sz : ∀ b ∈ fp, b < s2.heap.objs.size := fun b hb => by
    obtain ⟨o, e, _⟩ := T.obj _ _ st2 b hb
    exact Heap.lt_size e
  have f3 : ∀ b ∈ fp, FpOk X pins (upd H2 D (.lst [])) b ∧ b < s3.heap.objs.size := fun b hb => by
    have hlt := sz b hb
    refine ⟨⟨?_, (f2 b hb).2⟩, by rw [h3, Heap.size_push]; exact Nat.lt_succ_of_lt hlt⟩
    rw [upd_ne (by rw [← hD]; exact Nat.ne_of_lt hlt)]
    exact (f2 b hb).1
  have st3 : tn 0 s3.heap := T.keep _ _ _ st2 fun b _ o e => by rw [h3]; exact Heap.get?_push_of_some _ e
  have I4 := block_start I3 ok hN f3
  have pg : PG { (X.blk s3 (upd H2 D (.lst [])) scope (compEnvC scope (cellsFrom (s3.heap.objs.size + 1) scope.names (cloFrom X.env.cells scope.names [])) s3.heap.objs.size X.env) fp) with xe := blkXe X (compEnvC scope (cellsFrom (s3.heap.objs.size + 1) scope.names (cloFrom X.env.cells scope.names [])) s3.heap.objs.size X.env) } tg g := hg s3 (upd H2 D (.lst [])) s3.heap.objs.size (cellsFrom (s3.heap.objs.size + 1) scope.names (cloFrom X.env.cells scope.names [])) fp
  have pt : PTs { (X.blk s3 (upd H2 D (.lst [])) scope (compEnvC scope (cellsFrom (s3.heap.objs.size + 1) scope.names (cloFrom X.env.cells scope.names [])) s3.heap.objs.size X.env) fp) with xe := blkXe X (compEnvC scope (cellsFrom (s3.heap.objs.size + 1) scope.names (cloFrom X.env.cells scope.names [])) s3.heap.objs.size X.env) } ifs tt := ht s3 (upd H2 D (.lst [])) s3.heap.objs.size (cellsFrom (s3.heap.objs.size + 1) scope.names (cloFrom X.env.cells scope.names [])) fp
  have pe : PE { (X.blk s3 (upd H2 D (.lst [])) scope (compEnvC scope (cellsFrom (s3.heap.objs.size + 1) scope.names (cloFrom X.env.cells scope.names [])) s3.heap.objs.size X.env) fp) with xe := blkXe X (compEnvC scope (cellsFrom (s3.heap.objs.size + 1) scope.names (cloFrom X.env.cells scope.names [])) s3.heap.objs.size X.env) } elt te := he s3 (upd H2 D (.lst [])) s3.heap.objs.size (cellsFrom (s3.heap.objs.size + 1) scope.names (cloFrom X.env.cells scope.names [])) fp
    (blkPasses (W := fun cls d _ H => E cls d H) hs hf rfl I3 f3 (Nat.le_refl _) tk fun _ _ _ z => z)
  show codeAny _ _ (.compStart (.ListComp elt [⟨tg, iter, ifs, 0⟩] scope pos) 0 (.ref it) (.ref D) (compEnvC scope (cellsFrom (s3.heap.objs.size + 1) scope.names (cloFrom X.env.cells scope.names [])) s3.heap.objs.size X.env))
    (compEnds (model X.prog X.w) X.A X.xe none (EP X pins σ Q) (.ref D) (compEnvC scope (cellsFrom (s3.heap.objs.size + 1) scope.names (cloFrom X.env.cells scope.names [])) s3.heap.objs.size X.env)) { s3 with heap := pushCells (s3.heap.push { cls := .type "dict", data := .dict #[] }) scope.names }
  have nfp : ∀ b ∈ fp, (upd H2 D (.lst [])) b = none := fun b hb => (f3 b hb).1.1
  generalize hce : compEnvC scope (cellsFrom (s3.heap.objs.size + 1) scope.names (cloFrom X.env.cells scope.names [])) s3.heap.objs.size X.env = ce at I4 pg pt pe ⊢
  have cL : ce.locals = s3.heap.objs.size := by subst hce; rfl
  generalize hH3 : upd H2 D (.lst []) = H3 at I3 I4 pg pt pe w0 nfp f3
  have I4' : Inv { (X.blk s3 H3 scope ce fp) with xe := blkXe X ce } [] (wipe σ (own.map (·.2))) H3 { s3 with heap := pushCells (s3.heap.push { cls := .type "dict", data := .dict #[] }) scope.names } :=
    ⟨⟨I4.ok.mod, I4.ok.kind, I4.ok.glob, I4.ok.blt, I4.ok.above, I4.ok.inj, I4.ok.has, I4.ok.cab, I4.ok.hd, I4.ok.frames, I4.ok.stk, I4.ok.exf, I4.ok.bs, I4.ok.bsz, I4.ok.noex, I4.ok.exfs, I4.ok.funs, I4.ok.frf⟩, I4.os, I4.bare, I4.base, I4.loc, I4.cell, I4.free, I4.freeC, I4.pin, I4.hok, I4.len⟩
  generalize hs4 : ({ s3 with heap := pushCells (s3.heap.push { cls := .type "dict", data := .dict #[] }) scope.names } : Shared) = s4 at I4' ⊢
  have st4 : tn 0 s4.heap := T.keep _ _ _ st3 fun b _ o e => by rw [← hs4]; exact pushCells_keeps _ _ _ _ (Heap.get?_push_of_some _ e)
  generalize hXb : ({ (X.blk s3 H3 scope ce fp) with xe := blkXe X ce } : Cx) = Xb at I4' pg pt pe
  have xbx : Xb.xe = notedBy (model X.prog X.w) X.A ce (fun e s' => compEnds (model X.prog X.w) X.A X.xe none (EP X pins σ Q) (.ref D) ce (.error e) s') := by rw [← hXb]; rfl
  have stat : ∀ {σ' : L2.St} {H' : Hp} {s' : Shared}, Inv Xb [] σ' H' s' → (∀ b ∈ fp, H' b = none) → ∀ b ∈ fp, FpOk Xb [] H' b := fun {σ' H' s'} I' hn b hb => by
    subst hXb
    exact ⟨hn b hb, (I'.ok.exf b hb).1, I'.ok.exfs b hb, .inl hb, fun x c e => (I'.ok.exf b hb).2 x c e, fun p hp => absurd (show p ∈ ([] : List (Addr × Obj)) ++ [] from hp) (by simp)⟩
  have loop : codeAny (model X.prog X.w) X.A (.compLoop (.ListComp elt [⟨tg, iter, ifs, 0⟩] scope pos) 0 (.ref it) (.ref D) ce) (compEnds (model X.prog X.w) X.A X.xe none (EP X pins σ Q) (.ref D) ce) s4 := by
    refine compLoop_any (fun n s' => ∃ i H', Inv Xb [] (wipe σ (own.map (·.2))) H' s' ∧ tn i s'.heap ∧ (∀ b ∈ fp, H' b = none) ∧ Wv i n H') ?_ m0 ⟨0, H3, I4', st4, nfp, w0⟩
    rintro n s5 ⟨i, H5, I5, st5, n5, w5⟩
    rcases turn i n H5 w5 with ⟨stop, qq⟩ | ⟨go, Nx, hNx, step⟩
    · have td := T.done Xb (by rw [← hXb]) (by rw [← hXb]) (by rw [← hXb]) (by rw [← hXb]; exact hc) i [] s5 _ H5 (fun _ _ => False) I5 (stat I5 n5) st5 stop
      rw [← hXb] at td
      refine thnF td fun r s6 ⟨hr, I6⟩ => ?_
      subst hr
      have I7 : Inv X pins σ H5 s6 := I3.call' (ch := fp) I6.os I6.base I6.hok I6.bare fun b hb => ⟨(f3 b hb).1.2.2.2.1, (f3 b hb).1.2.1, (f3 b hb).1.2.2.2.2.1, (f3 b hb).1.2.2.2.2.2⟩
      have nC : H5 ce.locals = none := I6.free
      obtain ⟨m, hn, _⟩ := I6.loc
      have hn : s6.heap.Ns ce.locals m := hn
      obtain ⟨f0, f1, f2', f4, f5, f6⟩ : FpOk X pins H5 ce.locals := by
        rw [cL] at nC ⊢
        exact I3.fpOk (Nat.le_refl _) nC
      exact ⟨m, hn, fun h'' sb => ⟨.ref D, H5, I7.turned (t' := s6.toks) (fun b o hb e => (sb.2 b hb).trans e) f0 f1 f4 f5 f6, rfl, qq⟩⟩
    · have ti := T.item Xb (by rw [← hXb]) (by rw [← hXb]) (by rw [← hXb]) (by rw [← hXb]; exact hc) i [] s5 _ H5 (fun _ _ => False) I5 (stat I5 n5) st5 go
      have eM : model Xb.prog Xb.w = model X.prog X.w := by rw [← hXb]
      have eA : Xb.A = X.A := by rw [← hXb]
      have eE : Xb.env = ce := by rw [← hXb]
      rw [eA] at ti
      rw [← xbx]
      refine thnF ti fun r s6 ⟨u, hr, h6⟩ => ?_
      subst hr
      (try rw [eA] at h6)
      refine thnF h6 fun _ s7 ⟨x, H7, I7, r7, y7, st7, n7⟩ => ?_
      have I7' := I7.pinned (stat I7 n7) (T.obj _ _ st7)
      have p1 := pg.run _ s7 _ H7 x u _ I7' r7 (step x H7 y7)
      rw [eM, eA, eE] at p1
      refine thn p1 fun _ s8 ⟨σ8, H8, I8, hw8, q8⟩ => ?_
      have p2 := pt.run _ s8 σ8 H8 _ I8 q8
      rw [eM, eA, eE] at p2
      refine thn p2 fun b s9 ⟨H9, I9, q9⟩ => ?_
      have fin : ∀ {s' : Shared} {H' : Hp}, Inv Xb ([] ++ pinsAt fp s7.heap) σ8 H' s' → Nx H' → ∃ m, m < n ∧ ∃ i H', Inv Xb [] (wipe σ (own.map (·.2))) H' s' ∧ tn i s'.heap ∧ (∀ b ∈ fp, H' b = none) ∧ Wv i m H' := fun {s' H'} I' nx => by
        obtain ⟨m', hm, w'⟩ := hNx H' nx
        have pin' : ∀ b ∈ fp, ∀ o, s7.heap.get? b = some o → s'.heap.get? b = some o ∧ H' b = none := fun b hb o e =>
          let z := I'.pin (b, o) (List.mem_append_right _ (List.mem_append_right _ (mem_pinsAt hb e)))
          ⟨z.1, z.2.1⟩
        have hl : (wipe σ (own.map (·.2))).length = σ8.length := by rw [← hw8, wipe_length]
        refine ⟨m', hm, i + 1, H', (I'.unpinned (pins := [])).weak hl (fun j v e => ?_), T.keep _ _ _ st7 fun b hb o e => (pin' b hb o e).1, fun b hb => ?_, w'⟩
        · rw [← hw8] at e
          exact (wipe_some e).1
        · obtain ⟨o, e, _⟩ := T.obj _ _ st7 b hb
          exact (pin' b hb o e).2
      cases b with
      | false =>
        simp only [Bool.false_eq_true, if_false] at q9 ⊢
        exact fin I9 q9
      | true =>
        simp only [if_true] at q9 ⊢
        have p3 := pe.run _ s9 σ8 H9 _ I9 q9
        rw [eM, eA, eE] at p3
        refine thn p3 fun z s10 ⟨yv, H10, I10, r10, acc, hD10, hz10, nx⟩ => ?_
        have p4 := app_ok (X := Xb) (E := Xb.xe) (Q := fun _ s' => ∃ m, m < n ∧ ∃ i H', Inv Xb [] (wipe σ (own.map (·.2))) H' s' ∧ tn i s'.heap ∧ (∀ b ∈ fp, H' b = none) ∧ Wv i m H') I10 hD10 hz10 r10 fun s11 I11 => fin I11 nx
        rw [eM, eA] at p4
        exact p4
  exact codeAny_compStart_list loop (T.self X.A 0 _ _ _ st4 loop)
end
end Nr
end
set_option maxHeartbeats 200000
section
/-! NrLine: the class Line: refuse, ahead, take. -/
namespace Nr
open PySem PySem.Spec PyProof.Rows L2 LamX NdefX
/-- the class -/
structure LineT (K : PySem.W.Frag) (C : Addr) : Prop where
  cls : Cls K C
  nN : NoAttr K C "number"
  nW : NoAttr K C "words"
  nA : NoAttr K C "at"
/-- a method of it -/
structure MT (K : PySem.W.Frag) (C : Addr) (m qual : Str) (st : Stmt) (f : Addr) (fd : FuncData) (ps : List Str) : Prop where
  F : Fun K m qual st f fd
  M : Meth K C m f
  B : Binds K fd ps []
def lnF (n : Int) (wl : Addr) (k : Nat) : List (Str × V) := [("number", .int n), ("words", .ref wl), ("at", .int k)]
def LineAt (CL : Addr) (H : Hp) (ln wl dx : Addr) (n : Int) (ws : List Str) (k : Nat) : Prop := H ln = some (.ins CL dx (lnF n wl k)) ∧ H wl = some (.lst (ws.map V.str))
/-- all but one object and the tables stays -/
def OffN (x : Addr) (H H' : Hp) : Prop := ∀ b o, b ≠ x → H b = some o → (∀ ps, o ≠ .tbl ps) → H' b = some o
theorem OffN.refl {x : Addr} (H : Hp) : OffN x H H := fun _ _ _ e _ => e
theorem OffN.trans {x : Addr} {H H1 H2 : Hp} (a : OffN x H H1) (b : OffN x H1 H2) : OffN x H H2 := fun c o hc e n => b c o hc (a c o hc e n) n
theorem OffN.of {x : Addr} {H H' : Hp} (a : Same H H') : OffN x H H' := fun c o _ e _ => a c o e
theorem OffN.ofX {x : Addr} {H H' : Hp} (a : ExtN H H') : OffN x H H' := fun c o _ e n => a c o e n
theorem OffN.lst {x : Addr} {H H' : Hp} (a : OffN x H H') {b : Addr} {vs : List V} (hb : b ≠ x) (e : H b = some (.lst vs)) : H' b = some (.lst vs) := a b _ hb e fun _ z => nomatch z
theorem LineAt.ne {CL : Addr} {H : Hp} {ln wl dx : Addr} {n : Int} {ws : List Str} {k : Nat} (h : LineAt CL H ln wl dx n ws k) : wl ≠ ln := fun e => by
  have h1 := h.1
  have h2 := h.2
  rw [e, h1] at h2
  cases h2
theorem LineAt.same {CL : Addr} {H H' : Hp} {ln wl dx : Addr} {n : Int} {ws : List Str} {k : Nat} (h : LineAt CL H ln wl dx n ws k) (s : Same H H') : LineAt CL H' ln wl dx n ws k := ⟨s _ _ h.1, s _ _ h.2⟩
theorem LineAt.ext {CL : Addr} {H H' : Hp} {ln wl dx : Addr} {n : Int} {ws : List Str} {k : Nat} (h : LineAt CL H ln wl dx n ws k) (s : ExtN H H') : LineAt CL H' ln wl dx n ws k := ⟨s _ _ h.1 (fun _ z => nomatch z), s _ _ h.2 (fun _ z => nomatch z)⟩
theorem OffN.kept {CL : Addr} {cl : Str → Addr} {H H' : Hp} {ln wl dx : Addr} {n : Int} {ws : List Str} {k : Nat} (a : OffN ln H H') (h : LineAt CL H ln wl dx n ws k) : Kept cl H H' := fun b o e hv => by
  by_cases hb : b = ln
  · subst hb
    rw [h.1] at e
    cases e
    rcases hv with ⟨vs, q⟩ | ⟨w, dx', fs', q, r⟩
    · cases q
    · cases q
      have : List.lookup ("parts" : Str) (lnF n wl k) = none := rfl
      rw [this] at r
      cases r
  · refine a b o hb e fun ps z => ?_
    subst z
    rcases hv with ⟨vs, q⟩ | ⟨w, dx', fs', q, r⟩ <;> cases q
theorem OffN.code {CL : Addr} {H H' : Hp} {ln wl dx : Addr} {n : Int} {ws : List Str} {k : Nat} (a : OffN ln H H') (h : LineAt CL H ln wl dx n ws k) {c : Addr} {q : Str} (e : H c = some (CodeO c q)) : H' c = some (CodeO c q) := by
  refine a c _ (fun z => ?_) e codeO_ne
  rw [z, h.1] at e
  have := Option.some.inj e
  have z' : HO.ins _ _ _ = HO.ext _ := this
  cases z'
theorem tabs_off {T : List (Addr × Str)} {H H' : Hp} {ln C dx : Addr} {fs : List (Str × V)} (t : Tabs T H) (hl : H ln = some (.ins C dx fs)) (o : ∀ b u, b ≠ ln → H b = some u → H' b = some u) : Tabs T H' := fun p hp => by
  obtain ⟨ps, h1, h2, h3⟩ := t p hp
  refine ⟨ps, o _ _ (fun z => by rw [z, hl] at h1; cases h1) h1, h2, fun pos cv hc => ?_⟩
  obtain ⟨c, e, hcc⟩ := h3 pos cv hc
  refine ⟨c, e, o _ _ (fun z => ?_) hcc⟩
  rw [z, hl] at hcc
  have := Option.some.inj hcc
  have z' : HO.ins _ _ _ = HO.ext _ := this
  cases z'
/-- what is raised: the word k of line n -/
def Bad (CB : Addr) (n : Int) (k : Nat) (ln : Addr) (T : List (Addr × Str)) (H : Hp) (E : XK) : Prop := ∀ d H', OffN ln H H' → Tabs T H' → H' d = some (.xd (btF n k)) → E (.ref CB) (some d) H'
def spRefuse (CL CB : Addr) : Sp := fun vs H Q E => ∃ (ln wl dx : Addr) (n : Int) (ws : List Str) (k : Nat), vs = [.ref ln] ∧ LineAt CL H ln wl dx n ws k ∧
  ∀ d H', Same H H' → H d = none → H' d = some (.xd (btF n k)) → E (.ref CB) (some d) H'
def wordV (ws : List Str) (k : Nat) : V := match ws[k]? with
  | some w => .str w
  | none => .non
def spAhead (CL : Addr) : Sp := fun vs H Q _ => ∃ (ln wl dx : Addr) (n : Int) (ws : List Str) (k : Nat), vs = [.ref ln] ∧ LineAt CL H ln wl dx n ws k ∧ ws.length ≤ 1000000 ∧ ∀ H', Same H H' → Q (wordV ws k) H'
section
variable {P : Program} {w : World} {K : PySem.W.Frag} {mg : Str → Option Value} {base : Heap} {CL CB : Addr}
theorem scRefuse : FnScope ["self"] ["self"] (defScope sRefuse) := ⟨rfl, rfl, rfl, by decide +kernel, rfl, by decide +kernel, by decide +kernel⟩
theorem scAhead : FnScope ["self"] ["self"] (defScope sAhead) := ⟨rfl, rfl, rfl, by decide +kernel, rfl, by decide +kernel, by decide +kernel⟩
theorem scTake : FnScope ["self", "is_good", "word"] ["self", "is_good"] (defScope sTake) := ⟨rfl, rfl, rfl, by decide +kernel, rfl, by decide +kernel, by decide +kernel⟩
theorem ok_refuse {f fI : Addr} {fd fdI : FuncData} (L : LineT K CL) (I : ErrI P K mg CB fI fdI) (M : MT K CL "refuse" "Line.refuse" sRefuse f fd ["self"]) : FnOk P w K mg base (L2.CX P w) 3 f fd ["self"] (spRefuse CL CB) := by
  refine M.F.okX scRefuse (fun vs H Q E h => ?_) (fun cdv A outer s H vs Q E hr h => ?_)
  · obtain ⟨_, _, _, _, _, _, rfl, _⟩ := h
    rfl
  · obtain ⟨ln, wl, dx, n, ws, k, rfl, h1, kk⟩ := h
    refine ⟨_, pss_one (ps_raise rfl (takes_of rfl rfl rfl rfl) (pmk_oex I.oex I.init I.ti (ok_BT I) hr I.b .nil pass0 (by rfl) I.g (pa_cons (pe_fld (pv 0) (by rfl)) (pa_cons (pe_fld (pv 0) (by rfl)) pa_nil)))), ?_⟩
    refine ⟨_, rfl, ln, CL, dx, _, _, rfl, h1.1, L.cls, L.nN, rfl, _, rfl, ln, CL, dx, _, _, rfl, h1.1, L.cls, L.nA, rfl, (show 2 ≤ 1000 by decide), ?_⟩
    exact raise_bt kk
theorem ok_ahead {f : Addr} {fd : FuncData} (L : LineT K CL) (G : GF mg) (M : MT K CL "ahead" "Line.ahead" sAhead f fd ["self"]) : FnOk P w K mg base CX0 1 f fd ["self"] (spAhead CL) := by
  refine M.F.ok scAhead (fun vs H Q E h => ?_) (fun cdv A outer s H vs Q E hr h => ?_)
  · obtain ⟨_, _, _, _, _, _, rfl, _⟩ := h
    rfl
  · obtain ⟨ln, wl, dx, n, ws, k, rfl, h1, hz, kk⟩ := h
    refine ⟨_, pss_one (ps_ret (pe_ifExp (pt_cmpR op_lt (pe_fld (pv 0) (by rfl)) (pe_callB call_len_seq (by rfl) (G.f "len" (by decide +kernel)) PySem.boot_len (pa_cons (pe_fld (pv 0) (by rfl)) pa_nil)) (nomark _))
      (pe_ix ix_list (pe_fld (pv 0) (by rfl)) (pe_fld (pv 0) (by rfl)) (fun _ _ => rfl)) pe_non)), ?_⟩
    refine ⟨_, rfl, ln, CL, dx, _, _, rfl, h1.1, L.cls, L.nA, rfl, _, rfl, ln, CL, dx, _, _, rfl, h1.1, L.cls, L.nW, rfl, wl, _, rfl, .inl (SqL.of h1.2), _, _, rfl, rfl, _, rfl, ?_⟩
    rw [List.length_map]
    by_cases c : k < ws.length
    · rw [decide_eq_true (show (k : Int) < (ws.length : Int) by omega)]
      have e : ws[k]? = some ws[k] := List.getElem?_eq_getElem c
      have q := kk H (Same.refl H)
      unfold wordV at q
      rw [e] at q
      exact iteT ⟨_, rfl, ln, CL, dx, _, _, rfl, h1.1, L.cls, L.nW, rfl, _, rfl, ln, CL, dx, _, _, rfl, h1.1, L.cls, L.nA, rfl, wl, _, _, _, rfl, rfl, SqL.of h1.2, atI_nat (by rw [List.getElem?_map, e]; rfl), q⟩
    · rw [decide_eq_false (show ¬ (k : Int) < (ws.length : Int) by omega)]
      have e : ws[k]? = none := List.getElem?_eq_none (by omega)
      have q := kk H (Same.refl H)
      unfold wordV at q
      rw [e] at q
      exact iteF q
/-- take: what is done with the test that it got -/
def TTake (CL CB : Addr) (T : List (Addr × Str)) (E : XK) : V → (V → Hp → VK → Prop) → Hp → VK → Prop := fun self tl H Q => ∃ (ln wl dx : Addr) (n : Int) (ws : List Str) (k : Nat), self = .ref ln ∧ LineAt CL H ln wl dx n ws k ∧ ws.length ≤ 1000000 ∧ Tabs T H ∧
  (ws[k]? = none → Bad CB n k ln T H E) ∧
  ∀ x, ws[k]? = some x → ∃ b : Bool, (b = false → Bad CB n k ln T H E) ∧ (b = true → ∀ H', OffN ln H H' → Tabs T H' → LineAt CL H' ln wl dx n ws (k + 1) → Q (.str x) H') ∧
    ∀ H1 (Q2 : VK), Same H H1 → (∀ H2, Same H1 H2 → Q2 (.bl b) H2) → tl (.str x) H1 Q2
theorem take_gives {f fA fR : Addr} {fdA fdR : FuncData} {T : List (Addr × Str)} {X : Cx} {cdg : Value} (L : LineT X.K CL) (MA : MT X.K CL "ahead" "Line.ahead" sAhead fA fdA ["self"]) (OA : FnOk X.prog X.w X.K X.mg X.base CX0 1 fA fdA ["self"] (spAhead CL))
    (MR : MT X.K CL "refuse" "Line.refuse" sRefuse fR fdR ["self"]) (OR : FnOk X.prog X.w X.K X.mg X.base (L2.CX X.prog X.w) 3 fR fdR ["self"] (spRefuse CL CB)) (E : XK)
    (hr : ∀ s : Shared, Room 3 (X.A.deeper (envOfC "Line.take" (defScope sTake) s.heap.objs.size f cdg))) :
    MakesOf X ["self", "is_good", "word"] "Line.take" (defScope sTake) f cdg (defBody sTake) "is_good" E (TTake CL CB T E) := by
  intro f' c' s H self Q q tl act hc h
  obtain ⟨ln, wl, dx, n, ws, k, rfl, h1, hz, ht, hnone, hsome⟩ := h
  have nd := scTake.nd
  have hrA := (hr s).mono (show 1 ≤ 3 by decide)
  refine ⟨_, pss_cons (ps_set (i := 2) nd rfl (.inl rfl) (pe_meth0 (pv 0) L.cls MA.M OA hrA MA.B .nil pass0))
    (pss_cons (ps_if (PW.pt (pw_or (pt_cmpR op_isN (pv 2) pe_non (nomark _)) (pw_or1 (pt_not (pt_val (act _ _ _ _ (pv 2) (by rfl)))))))
        (pss_one (ps_expr (pe_meth0 (pv 0) L.cls MR.M OR (hr s) MR.B .nil (passes_call (takes_of rfl rfl rfl rfl) (fun _ _ _ _ h => h))))) pss_nil)
    (pss_cons (ps_fldaug (pv 0) pe_int in_add) (pss_one (ps_ret (pv 2))))), ?_⟩
  refine ⟨_, rfl, ln, dx, _, rfl, h1.1, rfl, ln, wl, dx, n, ws, k, rfl, h1, hz, fun H1 s1 => ?_⟩
  have h2 := h1.same s1
  have ht1 : Tabs T H1 := ht.ext s1
  have ref : ∀ H2, Same H H2 → Bad CB n k ln T H E → ∀ Q', spRefuse CL CB [.ref ln] H2 Q' E := fun H2 s2 hb Q' => by
    refine ⟨ln, wl, dx, n, ws, k, rfl, h1.same s2, fun d H' hs hd hx => ?_⟩
    have s3 : Same H H' := fun b o e => hs b o (s2 b o e)
    exact hb d H' (OffN.of s3) (ht.ext s3) hx
  unfold wordV
  cases e : ws[k]? with
  | none =>
    refine ⟨_, rfl, rfl, true, rfl, iteT (iteT ⟨_, rfl, ln, dx, _, rfl, h2.1, rfl, ref H1 s1 (hnone e) (fun _ _ => True)⟩)⟩
  | some x =>
    refine ⟨_, rfl, rfl, false, rfl, iteF ⟨rfl, _, rfl, s1 _ _ hc, ?_⟩⟩
    obtain ⟨b, hb0, hb1, htl⟩ := hsome x e
    refine htl H1 _ s1 fun H2 s2 => ⟨_, rfl, ?_⟩
    have s02 : Same H H2 := s1.trans s2
    cases b with
    | false => exact iteT ⟨_, rfl, ln, dx, _, rfl, s02 _ _ h1.1, rfl, ref H2 s02 (hb0 rfl) (fun _ _ => True)⟩
    | true =>
      refine iteF ⟨_, rfl, ln, CL, dx, _, _, rfl, s02 _ _ h1.1, L.cls, L.nA, rfl, _, _, rfl, rfl, dx, _, s02 _ _ h1.1, (show 3 < 1000 by decide), _, rfl, ?_⟩
      refine hb1 rfl _ (fun b o hb e _ => by rw [upd_ne hb]; exact s02 _ _ e) ?_ ⟨?_, ?_⟩
      · exact tabs_off (ht.ext s02) (s02 _ _ h1.1) fun b u hb e => by rw [upd_ne hb]; exact e
      · rw [upd_same]
        rfl
      · rw [upd_ne h1.ne]
        exact s02 _ _ h1.2
def spOneOf (CL CB : Addr) (T : List (Addr × Str)) : Sp := fun vs H Q E => ∃ (ln wl dx : Addr) (n : Int) (ws : List Str) (k : Nat) (t : Addr) (ss : List Str), vs = [.ref ln, .ref t] ∧ LineAt CL H ln wl dx n ws k ∧ ws.length ≤ 1000000 ∧ Tabs T H ∧ H t = some (.tup (ss.map V.str)) ∧
  ((¬ ∃ x, ws[k]? = some x ∧ x ∈ ss) → Bad CB n k ln T H E) ∧ ∀ x, ws[k]? = some x → x ∈ ss → ∀ H', OffN ln H H' → Tabs T H' → LineAt CL H' ln wl dx n ws (k + 1) → Q (.str x) H'
theorem scOneOf : FnScope ["self", "some"] ["self", "some"] (defScope sOneOf) := ⟨rfl, rfl, rfl, by decide +kernel, rfl, by decide +kernel, by decide +kernel⟩
theorem inV_str (x : Str) : ∀ ss : List Str, inV (.str x) (ss.map V.str) = decide (x ∈ ss)
  | [] => by simp [inV]
  | y :: ss => by
    have ih := inV_str x ss
    unfold inV at ih ⊢
    rw [List.map_cons, List.any_cons, ih]
    have e : eqV (.str y) (.str x) = decide (x = y) := by
      by_cases h : x = y
      · subst h
        simp [eqV]
      · simp [eqV, h, Ne.symm h]
    rw [e]
    by_cases h1 : x = y <;> by_cases h2 : x ∈ ss <;> simp [h1, h2]
theorem flat_strs : ∀ ss : List Str, (ss.map V.str).all flatV = true
  | [] => rfl
  | y :: ss => by rw [List.map_cons, List.all_cons, flat_strs ss]; rfl
theorem Bad.off {n : Int} {k : Nat} {ln : Addr} {T : List (Addr × Str)} {H H1 : Hp} {E : XK} (b : Bad CB n k ln T H E) (x : OffN ln H H1) : Bad CB n k ln T H1 E := fun d H' o t hx =>
  b d H' (x.trans o) t hx
theorem ok_oneof {f fT fA fR c Pt : Addr} {fd fdT fdA fdR : FuncData} {T : List (Addr × Str)} (L : LineT K CL) (M : MT K CL "one_of" "Line.one_of" sOneOf f fd ["self", "some"]) (hcode : fd.code = .ref c) (TB : TabB base mg c Pt) (hT : (Pt, ("Line.one_of.<locals>.<lambda>" : Str)) ∈ T) (hu : ∀ p ∈ T, p.1 = Pt → p.2 = ("Line.one_of.<locals>.<lambda>" : Str))
    (MTk : MT K CL "take" "Line.take" sTake fT fdT ["self", "is_good"]) (MA : MT K CL "ahead" "Line.ahead" sAhead fA fdA ["self"]) (OA : FnOk P w K mg base CX0 1 fA fdA ["self"] (spAhead CL))
    (MR : MT K CL "refuse" "Line.refuse" sRefuse fR fdR ["self"]) (OR : FnOk P w K mg base (L2.CX P w) 3 fR fdR ["self"] (spRefuse CL CB)) :
    FnOk P w K mg base (L2.CX P w) 5 f fd ["self", "some"] (spOneOf CL CB T) := by
  obtain ⟨oc, od, kV, doc, pm, an, cdv, ct, osl, rfl, lk, hcd⟩ := M.F.ex
  obtain ⟨oc', od', kV', doc', pm', an', cdv', ct', osl', rfl, lk', hcd'⟩ := MTk.F.ex
  refine fn_of lk hcd scOneOf (fun vs H Q E h => ?_) (fun A outer s H vs Q E hr h => ?_)
  · obtain ⟨_, _, _, _, _, _, _, _, rfl, _⟩ := h
    rfl
  · obtain ⟨ln, wl, dx, n, ws, k, t, ss, rfl, h1, hz, ht, hs, hbad, hgood⟩ := h
    refine ⟨_, pss_one (ps_ret (pe_methlam (T := T) (N1 := ["word", "some"]) (fr := ["some"]) (js := [1]) (k := 0) (pv 0) L.cls MTk.M lk' hcd' MTk.B scTake rfl (.inl rfl)
      (take_gives (T := T) L MA OA MR OR E (fun s => (hr.mono (show 4 ≤ 4 by decide)).deeper _)) (passes_call (takes_of rfl rfl rfl rfl) (fun _ _ _ _ h => h)) TB hcode hT hu (hr.mono (by decide))
      (nscope_by (by decide +kernel)) (by show ∀ z ∈ (_ : List (Str × NameKind)), z.2 = NameKind.free → (defScope sOneOf).names.lookup z.1 = some .cell ∨ (defScope sOneOf).names.lookup z.1 = some .free; decide +kernel) (by decide +kernel) rfl rfl (fun _ _ _ _ _ _ => rfl)
      (fun A outer s H f c' hr2 => pe_cmpR (show OpR _ _ (rIn K false) from op_in_seq) (pv 0) (pv 1) (by rfl)))), ?_⟩
    refine ⟨_, rfl, ln, dx, _, rfl, h1.1, rfl, ht, fun H1 x1 t1 => ?_⟩
    have h2 := h1.ext x1
    refine ⟨ln, wl, dx, n, ws, k, rfl, h2, hz, t1, fun e => ?_, fun x e => ⟨decide (x ∈ ss), fun hb => ?_, fun hb H' o t2 l2 => ?_, fun H2 Q2 s2 q2 => ?_⟩⟩
    · exact (hbad fun ⟨x, e', _⟩ => by rw [e] at e'; cases e').off (OffN.ofX x1)
    · exact (hbad fun ⟨y, e', hy⟩ => by rw [e] at e'; cases e'; rw [decide_eq_true hy] at hb; cases hb).off (OffN.ofX x1)
    · exact hgood x e (by simpa using hb) H' ((OffN.ofX x1).trans o) t2 l2
    · refine ⟨_, rfl, _, rfl, t, _, rfl, .inr (SqT.of (s2 _ _ (x1 _ _ hs fun _ z => nomatch z))), rfl, flat_strs ss, ?_⟩
      rw [if_neg Bool.false_ne_true, inV_str]
      exact q2 H2 (Same.refl H2)
end
end Nr
end
set_option maxHeartbeats 200000
section
/-! NrVW: is_value_word; what the top's names hold. -/
namespace Nr
open PySem PySem.Spec PyProof.Rows L2
/-- the written names -/
structure GN (K : PySem.W.Frag) (mg : Str → Option Value) (aT : Addr) : Prop where
  open_ : ∃ t, mg "OPEN" = some (.str "(" t)
  close : ∃ t, mg "CLOSE" = some (.str ")" t)
  begin_ : ∃ t, mg "BEGIN" = some (.str "[" t)
  end_ : ∃ t, mg "END" = some (.str "]" t)
  none_ : ∃ t, mg "NONE" = some (.str "none" t)
  deep : ∃ t, mg "MOST_DEEP" = some (.int 30 t)
  truths : mg "TRUTHS" = some (.ref aT)
  tup : ∀ H, SqT K H aT [.str "no", .str "yes"]
def valW (z : Str) (dp : Int) : Bool := if z = "(" ∨ z = "[" then decide (dp < 30) else isFlat z
def spVW : Sp := fun vs H Q _ => ∃ (z : Str) (dp : Int), vs = [.str z, .int dp] ∧ z.length ≤ 1000 ∧ ∀ H', Same H H' → Q (.bl (valW z dp)) H'
section
variable {P : Program} {w : World} {K : PySem.W.Frag} {mg : Str → Option Value} {base : Heap} {aT : Addr}
theorem scVW : FnScope ["word", "deep"] ["word", "deep"] (defScope sVW) := ⟨rfl, rfl, rfl, by decide +kernel, rfl, by decide +kernel, by decide +kernel⟩
theorem ok_vw {f fI : Addr} {fd fdI : FuncData} (F : Fun K "is_value_word" "is_value_word" sVW f fd) (N : GN K mg aT) (FI : Fun K "is_integer_word" "is_integer_word" sIntW fI fdI) (OI : FnOk P w K mg base CX0 2 fI fdI ["word"] spIntW) (bI : Binds K fdI ["word"] []) (mI : mg "is_integer_word" = some (.ref fI)) :
    FnOk P w K mg base CX0 3 f fd ["word", "deep"] spVW := by
  obtain ⟨t1, g1⟩ := N.open_
  obtain ⟨t3, g3⟩ := N.begin_
  obtain ⟨t5, g5⟩ := N.none_
  obtain ⟨t6, g6⟩ := N.deep
  refine F.ok scVW (fun vs H Q E h => ?_) (fun cdv A outer s H vs Q E hr h => ?_)
  · obtain ⟨_, _, rfl, _⟩ := h
    rfl
  · obtain ⟨z, dp, rfl, hz, k⟩ := h
    refine ⟨_, pss_cons (ps_if (pt_cmpR op_in_seq (pv 0) (pe_tup (pa_cons (pe_glob (v := .str "(") rfl g1 ⟨_, rfl⟩) (pa_cons (pe_glob (v := .str "[") rfl g3 ⟨_, rfl⟩) pa_nil))) (by rfl))
        (pss_one (ps_ret (pe_cmpR op_lt (pv 1) (pe_glob (v := .int 30) rfl g6 ⟨_, rfl⟩) (nomark _)))) pss_nil)
      (pss_one (ps_ret (pe_or (pe_cmpR op_eq (pv 0) (pe_glob (v := .str "none") rfl g5 ⟨_, rfl⟩) (nomark _)) (pe_or (pe_cmpR op_in_seq (pv 0) (pe_glob (v := .ref aT) rfl N.truths rfl) (by rfl))
        (pe_one (pe_call OI hr rfl mI FI.kp bI .nil pass0 (pa_cons (pv 0) pa_nil))))))), ?_⟩
    refine ⟨_, rfl, by decide, fun q hq => ?_⟩
    have s1 : Same H (upd H q (.tup [.str "(", .str "["])) := same_new (Same.refl H) hq
    refine ⟨q, [.str "(", .str "["], rfl, .inr (SqT.of upd_same), rfl, rfl, _, rfl, ?_⟩
    have e0 : inV (.str z) [.str "(", .str "["] = decide (z ∈ [("(" : Str), "["]) := inV_str z ["(", "["]
    rw [if_neg Bool.false_ne_true, e0]
    by_cases c0 : z ∈ [("(" : Str), "["]
    · rw [decide_eq_true c0]
      have e1 : valW z dp = decide (dp < 30) := by
        unfold valW
        rw [if_pos (by simpa using c0)]
      have q := k _ s1
      rw [e1] at q
      exact iteT ⟨_, rfl, _, _, rfl, rfl, q⟩
    · rw [decide_eq_false c0]
      have e1 : valW z dp = isFlat z := by
        unfold valW
        rw [if_neg (by simpa using c0)]
      refine iteF ⟨_, rfl, rfl, _, rfl, ?_⟩
      rw [strEq]
      have q := k _ s1
      rw [e1] at q
      by_cases c1 : z = "none"
      · rw [decide_eq_true c1]
        have : isFlat z = true := by unfold isFlat; rw [decide_eq_true c1]; rfl
        rw [this] at q
        exact iteT q
      · rw [decide_eq_false c1]
        refine iteF ⟨_, rfl, aT, [.str "no", .str "yes"], rfl, .inr (N.tup _), rfl, rfl, _, rfl, ?_⟩
        have e2 : inV (.str z) [.str "no", .str "yes"] = decide (z ∈ [("no" : Str), "yes"]) := inV_str z ["no", "yes"]
        rw [if_neg Bool.false_ne_true, e2]
        by_cases c2 : z ∈ [("no" : Str), "yes"]
        · rw [decide_eq_true c2]
          have : isFlat z = true := by
            unfold isFlat
            simp only [List.mem_cons, List.not_mem_nil, or_false] at c2
            rcases c2 with c2 | c2 <;> simp [c2]
          rw [this] at q
          exact iteT q
        · rw [decide_eq_false c2]
          have : isFlat z = isIntW z := by
            unfold isFlat
            simp only [List.mem_cons, List.not_mem_nil, or_false, not_or] at c2
            rw [decide_eq_false c1, decide_eq_false c2.1, decide_eq_false c2.2]
            rfl
          rw [this] at q
          refine iteF ⟨_, rfl, z, rfl, hz, fun H' hs => ?_⟩
          have q' := k _ (s1.trans hs)
          rw [e1, this] at q'
          exact q'
end
end Nr
end
set_option maxHeartbeats 2000000
section
/-! NrTup: tuple(d), d a written dict. -/
namespace Nr
open PySem PySem.Spec PyProof.Rows L2
section
variable {prog : Program} {w : World} {A : Around} {E : Value → Shared → Prop} {s : Shared} {r d : Addr} {n : Nat} {P : Nat → Value → Prop} {OK : Heap → Prop}
theorem collectKdl {Q : List Value → Shared → Prop} (K : PySem.W.KdlSrc prog w "dict" r d n P OK) (hh : A.handled = none) (hok : OK s.heap) (hn : n ≤ sizeLine)
    (hQ : ∀ (h' : Heap) (tk : Nat) (acc : Array Value), (∀ b o, s.heap.get? b = some o → h'.get? b = some o) → ItemsOf P acc n → Q acc.toList { s with heap := h', toks := tk }) :
    wpAny (model prog w) A (collect (.ref r)) Q E s := by
  unfold collect
  refine wpAny_bind (wpAny_runValue (codeAny_builtin F.entry_proto_collect ?_))
  rw [Around.under_plainId F.plain_proto_collect _]
  show wpAny _ A.in1 (newList [] >>= fun l => again (.builtin "list.__iadd__" ⟨[l, .ref r], []⟩)) _ _ s
  refine wpAny_bind (wpAny_newObj_type ?_)
  refine wpAny_pure ⟨plainId_quiet F.plain_list_iadd _, codeAny_builtin F.entry_list_iadd ?_⟩
  rw [Around.under_plainId F.plain_list_iadd _]
  show wpAny _ A.in1 (Builtin.List.listExtendWith (.ref s.heap.objs.size) (.ref r) (.ref s.heap.objs.size)) _ _ _
  have hS : (s.heap.push { cls := .type "list", data := .seq ([] : List Value).toArray }).get? s.heap.objs.size = some { cls := .type "list", data := .seq #[] 0 } := Heap.get?_push_size _ rfl
  obtain ⟨tr, td⟩ := K.there _ hok
  have ok1 : OK (s.heap.push { cls := .type "list", data := .seq ([] : List Value).toArray }) := K.keep _ _ hok fun b _ o e => Heap.get?_push_of_some _ e
  refine wpAny_mono (PySem.W.kdl_extend (A := A) (R := fun rr s' => rr = .ok (.ret (.ref s.heap.objs.size)) ∧ ∃ (h' : Heap) (tk : Nat) (acc : Array Value) (c' : Nat), s' = { s with heap := h', toks := tk } ∧
      (∀ b o, s.heap.get? b = some o → h'.get? b = some o) ∧ h'.get? s.heap.objs.size = some { cls := .type "list", dict := none, data := .seq acc c', slots := #[] } ∧ ItemsOf P acc n)
    (s := { s with heap := s.heap.push { cls := .type "list", data := .seq ([] : List Value).toArray } }) K hh ok1 s.heap.objs.size (Nat.ne_of_gt tr) (Nat.ne_of_gt td) _ 0 hS
    (fun h' tk acc c' hk e hi => ⟨rfl, h', tk, acc, c', rfl, fun b o q => hk b o (Nat.ne_of_lt (Heap.lt_size q)) (Heap.get?_push_of_some _ q), e, hi⟩) hn) (fun fin s' h => ?_) (fun e s' h => ?_)
  · cases fin with
    | done f =>
      obtain ⟨e, h', tk, acc, c', rfl, hk, hS', hi⟩ := h
      cases e
      show wpAny _ A (load s.heap.objs.size >>= _) _ _ _
      exact wpAny_bind (wpAny_load hS' (wpAny_pure (hQ h' tk acc hk hi)))
    | again c' =>
      refine ⟨h.1, codeAny_mono h.2 fun rr s'' hr' => ?_⟩
      obtain ⟨rfl, h', tk, acc, c', rfl, hk, hS', hi⟩ := hr'
      show wpAny _ A (load s.heap.objs.size >>= _) _ _ _
      exact wpAny_bind (wpAny_load hS' (wpAny_pure (hQ h' tk acc hk hi)))
  · exact absurd h.1 (by simp)
theorem tupleNewKdl {Q₁ : Value → Shared → Prop} (K : PySem.W.KdlSrc prog w "dict" r d n P OK) (hh : A.handled = none) (hok : OK s.heap) (hn : n ≤ sizeLine)
    (h : ∀ (h' : Heap) (tk : Nat) (acc : Array Value), (∀ b o, s.heap.get? b = some o → h'.get? b = some o) → ItemsOf P acc n →
      Q₁ (.ref h'.objs.size) { s with heap := h'.push { cls := .type "tuple", data := .seq acc }, toks := tk }) :
    codeAny (model prog w) A (.call (.builtin "tuple.__new__") ⟨[.type "tuple", .ref r], []⟩) (wants Q₁ E) s := by
  refine codeAny_of_tree ?_
  show wpAny _ A.in1 (do checkBuiltinCall "tuple.__new__" ⟨[.type "tuple", .ref r], []⟩; again (.builtin "tuple.__new__" ⟨[.type "tuple", .ref r], []⟩)) _ _ s
  refine wpAny_bind (wpAny_of_eq (F.newCall_tuple_1 _) (wpAny_pure ⟨plainId_quiet F.plain_tuple_new _, codeAny_builtin F.entry_tuple_new ?_⟩))
  rw [Around.under_plainId F.plain_tuple_new _]
  have hsub := sub_tuple_self
  have hinit := init_tuple_lookup
  have hmh := madeHere_tuple
  have hTI : s.TypeIs (.ref r) "dict" := K.type s hok
  have hh1 : A.in1.handled = none := hh
  wp_walk using wpAny_typeOf hTI, collectKdl (A := A.in1) K hh1 hok hn
  intro h' tk acc hk hacc
  show wpAny _ _ (Builtin.Tuple.tupleExact acc.toList.toArray >>= fun v => ret v) _ _ _
  unfold Builtin.Tuple.tupleExact
  refine wpAny_bind (wpAny_newObj_type ?_ (by show acc.toList.toArray.size ≤ sizeLine; simp only [Array.toArray_toList]; rw [hacc.1]; exact hn))
  refine wpAny_pure ?_
  have e : acc.toList.toArray = acc := by simp
  rw [e]
  exact h h' tk acc hk hacc
theorem tupleCallKdl {Q : Value → Shared → Prop} (K : PySem.W.KdlSrc prog w "dict" r d n P OK) (hh : A.handled = none) (hok : OK s.heap) (hn : n ≤ sizeLine)
    (hQ : ∀ (h' : Heap) (tk : Nat) (acc : Array Value), (∀ b o, s.heap.get? b = some o → h'.get? b = some o) → ItemsOf P acc n →
      Q (.ref h'.objs.size) { s with heap := h'.push { cls := .type "tuple", data := .seq acc }, toks := tk }) :
    wpAny (model prog w) A (call (.type "tuple") [.ref r]) Q E s := by
  refine callType_codes (Q₁ := fun obj s₁ => s₁.TypeIs obj "tuple" ∧ Q obj s₁) F.called_tuple (F.typeCall_tuple_1 _) F.entry_object_init
    (tupleNewKdl (A := A.in1) K hh hok hn fun h' tk acc hk hacc => ⟨⟨_, Heap.get?_push_size _ rfl, rfl⟩, hQ h' tk acc hk hacc⟩) fun obj s₁ h₁ => ?_
  exact ⟨h₁.1, F.args_object_init_2 obj _, object_init_meets F.called_tuple.init.lookup F.called_tuple.made (by decide) prog w A.in1 _ s₁ ⟨h₁.1, rfl, h₁.2⟩⟩
end
/-- the keys of a written dict, all texts -/
def KeyTxts (es : Array DictEntry) (ks : List Str) : Prop := es.size = ks.length ∧ ∀ (i : Nat) (en : DictEntry) (x : Str), es[i]? = some en → ks[i]? = some x → ∃ t, en.key = .str x t
theorem keyTxts_of : ∀ {l : List DictEntry} {ks : List Str}, keyTxtsB l ks = true → l.length = ks.length ∧ ∀ (i : Nat) (en : DictEntry) (x : Str), l[i]? = some en → ks[i]? = some x → ∃ t, en.key = .str x t
  | [], [], _ => ⟨rfl, fun i en x h => by simp at h⟩
  | [], _ :: _, h => by simp [keyTxtsB] at h
  | _ :: _, [], h => by simp [keyTxtsB] at h
  | e :: es, x :: xs, h => by
    unfold keyTxtsB at h
    obtain ⟨h1, h2⟩ := Bool.and_eq_true_iff.mp h
    obtain ⟨l, f⟩ := keyTxts_of h2
    refine ⟨by simp [l], fun i en y q1 q2 => ?_⟩
    cases i with
    | zero =>
      simp at q1 q2
      subst q1 q2
      split at h1
      · rename_i z t hz
        exact ⟨t, by rw [hz, beq_iff_eq.mp h1]⟩
      · cases h1
    | succ i => exact f i en y (by simpa using q1) (by simpa using q2)
/-- tuple(d) -/
def rTupK (ks : List Str) (d : Addr) : List V → Hp → VK → Prop := fun xs H Q => xs = [.ref d] ∧ ∀ q, H q = none → Q (.ref q) (upd H q (.tup (ks.map V.str)))
theorem call_tupK {X : Cx} {d : Addr} {es : Array DictEntry} {n : Nat} {ks : List Str} (hc : X.calm = true) (D : KDict X.K X.w d es n) (hk : keyTxtsB es.toList ks = true) (hz : ks.length ≤ sizeLine) : CallR X (.type "tuple") (rTupK ks d) := by
  intro pins s σ H xs us Q I r h
  obtain ⟨rfl, q⟩ := h
  obtain ⟨u, eu, rx⟩ := vals1 r
  subst eu
  obtain rfl : u = Value.ref d := rx
  obtain ⟨hl, hks⟩ := keyTxts_of hk
  have hsz : es.size = ks.length := by rw [← hl]; simp
  have ho : s.heap.get? d = some (⟨.type "dict", none, .dict es n, #[]⟩ : Obj) := I.kIn _ _ D.at_
  refine tupleCallKdl (kdl_raw D.low ⟨rfl, rfl, rfl⟩ rfl) (I.ok.hd hc) ho (by rw [hsz]; exact hz) fun h' tk acc hkeep hacc => ?_
  have I1 : Inv X pins σ H { s with heap := h', toks := tk } := I.kept (t' := tk) hkeep
  refine ⟨.ref h'.objs.size, upd H h'.objs.size (.tup (ks.map V.str)), I1.laid (t' := tk) (fun b o e => Heap.get?_push_of_some _ e) (Nat.le_refl _) (show ObjOk X.prog X.w _ _ _ (.tup (ks.map V.str)) from ⟨by rw [List.length_map]; exact hz, acc.toList, ?_, ?_⟩), rfl, q _ (I1.hok.fresh (Nat.le_refl _))⟩
  · refine vals_of_at (by rw [List.length_map]; have := hacc.1; simp [this, hsz]) fun j x u h1 h2 => ?_
    obtain ⟨en, hen, hu⟩ := hacc.2 j u (by rw [← Array.getElem?_toList]; exact h2)
    rw [List.getElem?_map] at h1
    cases ek : ks[j]? with
    | none => rw [ek] at h1; cases h1
    | some y =>
      rw [ek] at h1
      cases h1
      obtain ⟨t, et⟩ := hks j en y (by rw [Array.getElem?_toList]; exact hen) ek
      exact ⟨t, hu.trans et⟩
  · exact ⟨_, Heap.get?_push_size _ rfl, rfl, _, rfl⟩
end Nr
end
set_option maxHeartbeats 4000000
section
/-! NrRV: read_value. -/
namespace Nr
open PySem PySem.Spec PyProof.Rows L2 LamX NdefX
structure WsOk (ws : List Str) : Prop where
  len : ws.length ≤ 1000
  wl : ∀ x ∈ ws, x.length ≤ 640
  good : ∀ x ∈ ws, GoodW x
theorem words_pos : ∀ d : D, 0 < d.words.length
  | .non => by rw [D.words]; decide
  | .bl b => by rw [D.words]; exact Nat.one_pos
  | .int i => by rw [D.words]; exact Nat.one_pos
  | .tup xs => by rw [D.words]; simp
  | .pap w xs => by rw [D.words]; simp
mutual
theorem wide_of : ∀ {d : D}, d.words.length ≤ 1000 → d.wide
  | .non, _ => by rw [D.wide] <;> simp
  | .bl b, _ => by rw [D.wide] <;> simp
  | .int i, _ => by rw [D.wide] <;> simp
  | .tup xs, h => by
    rw [D.words, List.length_cons, List.length_append] at h
    rw [D.wide]
    exact ⟨Nat.le_trans (wordsL_len xs) (by omega), wideL_of (by omega)⟩
  | .pap w xs, h => by
    rw [D.words] at h
    simp only [List.length_cons, List.cons_append, List.length_append] at h
    rw [D.wide]
    exact wideL_of (by omega)
theorem wordsL_len : ∀ xs : List D, xs.length ≤ (wordsL xs).length
  | [] => Nat.le_refl _
  | x :: xs => by
    rw [wordsL, List.length_append, List.length_cons]
    have := wordsL_len xs
    have := words_pos x
    omega
theorem wideL_of : ∀ {xs : List D}, (wordsL xs).length ≤ 1000 → wideL xs
  | [], _ => by rw [wideL]; trivial
  | x :: xs, h => by
    rw [wordsL, List.length_append] at h
    rw [wideL]
    exact ⟨wide_of (by omega), wideL_of (by omega)⟩
end
section
variable {ws : List Str}
theorem seg_le {a a' : Nat} {xs : List Str} (h : Seg ws a xs a') (hx : 0 < xs.length) : a + xs.length ≤ ws.length := by
  have := h.2 (xs.length - 1) (by omega)
  have h2 : xs[xs.length - 1]? = some xs[xs.length - 1] := List.getElem?_eq_getElem (by omega)
  rw [h2] at this
  have := (List.getElem?_eq_some_iff.mp this).1
  omega
theorem readV_at (o : WsOk ws) {b a : Nat} {d : D} {a' : Nat} (h : readV ws b a = .ok d a') : a < a' ∧ a' ≤ ws.length ∧ d.told b ∧ d.wide := by
  have g := givesV ws o.good b a
  rw [h] at g
  obtain ⟨g1, g2⟩ := g
  have hp := words_pos d
  have hl := seg_le g1 hp
  have e : a' = a + d.words.length := g1.1
  have := o.len
  exact ⟨by omega, by omega, g2, wide_of (by omega)⟩
end
theorem readV_par (b k : Nat) (e : ws[k]? = some ("(" : Str)) : readV ws (b + 1) k = match readT ws (readV ws b) (ws.length + 1) (k + 1) [] with
    | .bad e => .bad e
    | .ok xs a => .ok (.tup xs) a := by
  rw [readV, e]
  simp only [if_pos]
  all_goals (cases readT ws (readV ws b) (ws.length + 1) (k + 1) [] <;> rfl)
theorem readV_brk (b k : Nat) (e : ws[k]? = some ("[" : Str)) : readV ws (b + 1) k = match readP ws (readV ws b) (k + 1) with
    | .bad e => .bad e
    | .ok p a => if ws[a]? = some ("]" : Str) then .ok p (a + 1) else .bad a := by
  rw [readV, e]
  dsimp only
  rw [if_neg (by decide +kernel), if_pos rfl]
  all_goals (cases readP ws (readV ws b) (k + 1) <;> rfl)
theorem readV_flat (b k : Nat) {x : Str} (e : ws[k]? = some x) (h1 : x ≠ "(") (h2 : x ≠ "[") : readV ws b k = match flat x with
    | some d => .ok d (k + 1)
    | none => .bad k := by
  cases b <;> rw [readV, e] <;> dsimp only <;> rw [if_neg h1, if_neg h2] <;> cases flat x <;> rfl
theorem readV_none (b k : Nat) (e : ws[k]? = none) : readV ws b k = .bad k := by
  cases b <;> rw [readV, e]
theorem flat_some {x : Str} (h : isFlat x = true) : ∃ d, flat x = some d := by
  cases e : flat x with
  | some d => exact ⟨d, rfl⟩
  | none => rw [flat_no e] at h; cases h
theorem readV_refuse {b k : Nat} {x : Str} (hb : b ≤ 30) (e : ws[k]? = some x) (hv : valW x ((30 : Int) - b) = false) : readV ws b k = .bad k := by
  unfold valW at hv
  by_cases h : x = "(" ∨ x = "["
  · rw [if_pos h] at hv
    have : b = 0 := by
      have := of_decide_eq_false hv
      omega
    subst this
    rw [readV, e]
    dsimp only
    rcases h with h | h
    · rw [if_pos h]
    · rw [if_neg (by rw [h]; decide +kernel), if_pos h]
  · rw [if_neg h] at hv
    rw [readV_flat b k e (fun z => h (.inl z)) (fun z => h (.inr z))]
    cases f : flat x with
    | none => rfl
    | some d => rw [flat_is f] at hv; cases hv
theorem scal_w (a : Nat) (z : Str) : scal (wordV ws a) (.str z) = true := by
  unfold wordV
  cases ws[a]? <;> rfl
theorem test_w (a : Nat) (z : Str) : decide (wordV ws a = .str z) = decide (ws[a]? = some z) := by
  unfold wordV
  cases ws[a]? with
  | none => rw [decide_eq_false (fun q => nomatch q), decide_eq_false (fun q => nomatch q)]
  | some x =>
    by_cases h : x = z
    · rw [h, decide_eq_true rfl, decide_eq_true rfl]
    · rw [decide_eq_false (fun q => h (V.str.inj q)), decide_eq_false (fun q => h (Option.some.inj q))]
theorem readT_not {rv : Nat → Rd D} {m a : Nat} {acc : List D} (h : ws[a]? ≠ some (")" : Str)) : readT ws rv (m + 1) a acc = match rv a with
    | .bad e => .bad e
    | .ok v a' => readT ws rv m a' (acc ++ [v]) := by
  rw [readT, if_neg h]
  all_goals (cases rv a <;> rfl)
theorem readT_end {rv : Nat → Rd D} {m a : Nat} {acc : List D} (h : ws[a]? = some (")" : Str)) : readT ws rv (m + 1) a acc = .ok acc (a + 1) := by
  rw [readT, if_pos h]
def spRV (CL CB : Addr) (cl : Str → Addr) (T : List (Addr × Str)) (b : Nat) : Sp := fun vs H Q E => ∃ (ln wl dx : Addr) (n : Int) (ws : List Str) (k : Nat), vs = [.ref ln, .int ((30 : Int) - b)] ∧ LineAt CL H ln wl dx n ws k ∧ WsOk ws ∧ Tabs T H ∧
  (∀ e, readV ws b k = .bad e → Bad CB n e ln T H E) ∧
  ∀ d a, readV ws b k = .ok d a → ∀ v H', OffN ln H H' → Tabs T H' → LineAt CL H' ln wl dx n ws a → d.has cl H' v → Q v H'
def spRP (CL CB : Addr) (cl : Str → Addr) (T : List (Addr × Str)) (b : Nat) : Sp := fun vs H Q E => ∃ (ln wl dx : Addr) (n : Int) (ws : List Str) (k : Nat), vs = [.ref ln, .int ((30 : Int) - b)] ∧ LineAt CL H ln wl dx n ws k ∧ WsOk ws ∧ Tabs T H ∧
  (∀ e, readP ws (readV ws b) k = .bad e → Bad CB n e ln T H E) ∧
  ∀ d a, readP ws (readV ws b) k = .ok d a → ∀ v H', OffN ln H H' → Tabs T H' → LineAt CL H' ln wl dx n ws a → d.has cl H' v → Q v H'
/-- promises one below -/
def under (sp : Nat → Sp) (b : Nat) : Sp := fun vs H Q E => ∃ b', b = b' + 1 ∧ sp b' vs H Q E
/-- what of the class Line is at hand -/
structure LineOk (P : Program) (w : World) (K : PySem.W.Frag) (mg : Str → Option Value) (base : Heap) (CL CB : Addr) (T : List (Addr × Str)) (fT fA fR fO : Addr) (fdT fdA fdR fdO : FuncData) : Prop where
  L : LineT K CL
  mT : MT K CL "take" "Line.take" sTake fT fdT ["self", "is_good"]
  mA : MT K CL "ahead" "Line.ahead" sAhead fA fdA ["self"]
  oA : FnOk P w K mg base CX0 1 fA fdA ["self"] (spAhead CL)
  mR : MT K CL "refuse" "Line.refuse" sRefuse fR fdR ["self"]
  oR : FnOk P w K mg base (L2.CX P w) 3 fR fdR ["self"] (spRefuse CL CB)
  mO : MT K CL "one_of" "Line.one_of" sOneOf fO fdO ["self", "some"]
  oO : FnOk P w K mg base (L2.CX P w) 5 fO fdO ["self", "some"] (spOneOf CL CB T)
section
variable {P : Program} {w : World} {K : PySem.W.Frag} {mg : Str → Option Value} {base : Heap} {CL CB aT : Addr} {cl : Str → Addr} {T : List (Addr × Str)}
theorem scRV : FnScope ["line", "deep", "word", "found", "paper"] ["line", "deep"] (defScope sRV) := ⟨rfl, rfl, rfl, by decide +kernel, rfl, by decide +kernel, by decide +kernel⟩
theorem offn_new {x : Addr} {H H' : Hp} {D : Addr} {o : HO} (h : OffN x H H') (n : H D = none) : OffN x H (upd H' D o) := fun b u hb e nt => by
  rw [upd_ne (ne_of_none e n)]
  exact h b u hb e nt
theorem line_ne {H : Hp} {ln wl dx D : Addr} {n : Int} {ws : List Str} {k : Nat} (h : LineAt CL H ln wl dx n ws k) {vs : List V} (e : H D = some (.lst vs)) : D ≠ ln := fun z => by
  rw [z, h.1] at e
  cases e
theorem tabs_lst {H : Hp} {D : Addr} {vs : List V} {o : HO} (t : Tabs T H) (e : H D = some (.lst vs)) : Tabs T (upd H D o) := fun p hp => by
  obtain ⟨ps, h1, h2, h3⟩ := t p hp
  refine ⟨ps, by rw [upd_ne (fun z => by rw [z, e] at h1; cases h1)]; exact h1, h2, fun pos cv hc => ?_⟩
  obtain ⟨c, ec, hcc⟩ := h3 pos cv hc
  refine ⟨c, ec, ?_⟩
  have hne : c ≠ D := fun z => by
    rw [z, e] at hcc
    have := Option.some.inj hcc
    have z' : HO.lst _ = HO.ext _ := this
    cases z'
  rw [upd_ne hne]
  exact hcc
theorem line_upd {H : Hp} {ln wl dx D : Addr} {n : Int} {ws : List Str} {k : Nat} {o : HO} (h : LineAt CL H ln wl dx n ws k) (h1 : D ≠ ln) (h2 : D ≠ wl) : LineAt CL (upd H D o) ln wl dx n ws k :=
  ⟨by rw [upd_ne (Ne.symm h1)]; exact h.1, by rw [upd_ne (Ne.symm h2)]; exact h.2⟩
theorem line_new {H : Hp} {ln wl dx D : Addr} {n : Int} {ws : List Str} {k : Nat} {o : HO} (h : LineAt CL H ln wl dx n ws k) (hD : H D = none) : LineAt CL (upd H D o) ln wl dx n ws k :=
  line_upd h (Ne.symm (ne_of_none h.1 hD)) (Ne.symm (ne_of_none h.2 hD))
theorem ok_rv {f fT fA fR fO fV fP c Pt : Addr} {fd fdT fdA fdR fdO fdV fdP : FuncData} (LO : LineOk P w K mg base CL CB T fT fA fR fO fdT fdA fdR fdO) (F : Fun K "read_value" "read_value" sRV f fd) (G : GF mg) (N : GN K mg aT)
    (hcode : fd.code = .ref c) (TB : TabB base mg c Pt) (hT : (Pt, ("read_value.<locals>.<lambda>" : Str)) ∈ T) (hu : ∀ p ∈ T, p.1 = Pt → p.2 = ("read_value.<locals>.<lambda>" : Str))
    (FV : Fun K "is_value_word" "is_value_word" sVW fV fdV) (OV : FnOk P w K mg base CX0 3 fV fdV ["word", "deep"] spVW) (bV : Binds K fdV ["word", "deep"] []) (mV : mg "is_value_word" = some (.ref fV))
    (FP : Fun K "read_paper_in" "read_paper_in" sRP fP fdP) (bP : Binds K fdP ["line", "deep"] []) (mP : mg "read_paper_in" = some (.ref fP)) (b : Nat) (hb30 : b ≤ 30) (OP : FnOk P w K mg base (L2.CX P w) (2 * b + 49) fP fdP ["line", "deep"] (under (spRP CL CB cl T) b))
    (bF : Binds K fd ["line", "deep"] []) (mF : mg "read_value" = some (.ref f)) (OF : FnOk P w K mg base (L2.CX P w) (2 * b + 48) f fd ["line", "deep"] (under (spRV CL CB cl T) b)) :
    FnOk P w K mg base (L2.CX P w) (2 * b + 50) f fd ["line", "deep"] (spRV CL CB cl T b) := by
  obtain ⟨t1, g1⟩ := N.open_
  obtain ⟨t2, g2⟩ := N.close
  obtain ⟨t3, g3⟩ := N.begin_
  obtain ⟨t4, g4⟩ := N.end_
  obtain ⟨t5, g5⟩ := N.none_
  have L := LO.L
  have fkp := F.kp
  obtain ⟨oc, od, kV, doc, pm, an, cdv, ct, osl, rfl, lk, hcd⟩ := F.ex
  obtain ⟨oc', od', kV', doc', pm', an', cdv', ct', osl', rfl, lk', hcd'⟩ := LO.mT.F.ex
  have nd := scRV.nd
  refine fn_of lk hcd scRV (fun vs H Q E h => ?_) (fun A outer s H vs Q E hr h => ?_)
  · obtain ⟨_, _, _, _, _, _, rfl, _⟩ := h
    rfl
  · obtain ⟨ln, wl, dx, n, ws, k, rfl, h1, ho, ht, hbad, hok⟩ := h
    have hrA := hr.mono (show 1 ≤ 2 * b + 49 by omega)
    have hr5 := hr.mono (show 5 ≤ 2 * b + 49 by omega)
    have hr6 := hr.mono (show 6 ≤ 2 * b + 49 by omega)
    have hrF := hr.mono (show 2 * b + 48 ≤ 2 * b + 49 by omega)
    refine ⟨_, pss_cons (ps_set (i := 2) nd rfl (.inl rfl) (pe_methlam (T := T) (N1 := ["one", "deep"]) (fr := ["deep"]) (js := [1]) (k := 3) (pv 0) L.cls LO.mT.M lk' hcd' LO.mT.B scTake rfl (.inl rfl)
        (take_gives (T := T) L LO.mA LO.oA LO.mR LO.oR E (fun s => (hr.mono (show 4 ≤ 2 * b + 49 by omega)).deeper _)) (passes_call (takes_of rfl rfl rfl rfl) (fun _ _ _ _ h => h)) TB hcode hT hu hr5
        (nscope_by (by decide +kernel)) (by show ∀ z ∈ (_ : List (Str × NameKind)), z.2 = NameKind.free → (defScope sRV).names.lookup z.1 = some .cell ∨ (defScope sRV).names.lookup z.1 = some .free; decide +kernel) (by decide +kernel) rfl rfl (fun _ _ _ _ _ _ => rfl)
        (fun A outer s H f c' hr2 => pe_call OV hr2 rfl mV FV.kp bV .nil pass0 (pa_cons (pv 0) (pa_cons (pv 1) pa_nil)))))
      (pss_cons (ps_if (pt_cmpR op_eq (pv 2) (pe_glob (v := .str "(") rfl g1 ⟨_, rfl⟩) (nomark _))
        (pss_cons (ps_set (i := 3) nd rfl (.inl rfl) (pe_lst pa_nil))
        (pss_cons (ps_while (passes_of rfl) (pt_cmpR op_ne (pe_meth0 (pv 0) L.cls LO.mA.M LO.oA hrA LO.mA.B .nil pass0) (pe_glob (v := .str ")") rfl g2 ⟨_, rfl⟩) (nomark _))
          (pss_one (ps_expr (pe_bm PySem.F.plainAttrs_list PySem.F.slot_list_append PySem.F.type_list_append mt_append (pv 3)
            (pa_cons (pe_call OF hrF rfl mF fkp bF .nil (passes_call (takes_of rfl rfl rfl rfl) (fun _ _ _ _ h => h)) (pa_cons (pv 0) (pa_cons (pe_op op_add (pv 1) pe_int) pa_nil))) pa_nil)))))
        (pss_cons (ps_expr (pe_meth (pv 0) L.cls LO.mO.M LO.oO hr5 LO.mO.B .nil (passes_call (takes_of rfl rfl rfl rfl) (fun _ _ _ _ h => h)) (pa_cons (pe_tup (pa_cons (pe_glob (v := .str ")") rfl g2 ⟨_, rfl⟩) pa_nil)) pa_nil)))
        (pss_one (ps_ret (pe_tupleOf (by rfl) (G.f "tuple" (by decide +kernel)) (pv 3))))))) pss_nil)
      (pss_cons (ps_if (pt_cmpR op_eq (pv 2) (pe_glob (v := .str "[") rfl g3 ⟨_, rfl⟩) (nomark _))
        (pss_cons (ps_set (i := 4) nd rfl (.inl rfl) (pe_call OP hr rfl mP FP.kp bP .nil (passes_call (takes_of rfl rfl rfl rfl) (fun _ _ _ _ h => h)) (pa_cons (pv 0) (pa_cons (pe_op op_add (pv 1) pe_int) pa_nil))))
        (pss_cons (ps_expr (pe_meth (pv 0) L.cls LO.mO.M LO.oO hr5 LO.mO.B .nil (passes_call (takes_of rfl rfl rfl rfl) (fun _ _ _ _ h => h)) (pa_cons (pe_tup (pa_cons (pe_glob (v := .str "]") rfl g4 ⟨_, rfl⟩) pa_nil)) pa_nil)))
        (pss_one (ps_ret (pv 4))))) pss_nil)
      (pss_cons (ps_if (pt_cmpR op_eq (pv 2) (pe_glob (v := .str "none") rfl g5 ⟨_, rfl⟩) (nomark _)) (pss_one (ps_ret pe_non)) pss_nil)
      (pss_one (ps_ret (pe_ifExp (pt_cmpR op_in_seq (pv 2) (pe_glob (v := .ref aT) rfl N.truths rfl) (by rfl)) (pe_cmpR op_eq (pv 2) (pe_ix ix_tup (pe_glob (v := .ref aT) rfl N.truths rfl) pe_int (fun _ _ => rfl)) (nomark _))
        (pe_callTy call_int_str (by rfl) (G.f "int" (by decide +kernel)) (by decide +kernel) (pa_cons (pv 2) pa_nil)))))))), ?_⟩
    refine ⟨_, rfl, ln, dx, _, rfl, h1.1, rfl, ht, fun H1 x1 tt1 => ?_⟩
    have l1 := h1.ext x1
    refine ⟨ln, wl, dx, n, ws, k, rfl, l1, Nat.le_trans ho.len (by decide), tt1, fun e => ?_, fun x e => ⟨valW x ((30 : Int) - b), fun hv => ?_, fun hv H' o t2 l2 => ?_, fun H2 Q2 s2 q2 => ?_⟩⟩
    · refine (hbad k ?_).off (OffN.ofX x1)
      unfold readV
      rw [e]
    · exact (hbad k (readV_refuse hb30 e hv)).off (OffN.ofX x1)
    · have hx : x ∈ ws := List.mem_of_getElem? e
      have o0 : OffN ln H H' := (OffN.ofX x1).trans o
      by_cases c1 : x = "("
      · subst c1
        obtain ⟨b', rfl⟩ : ∃ b', b = b' + 1 := by
          unfold valW at hv
          rw [if_pos (.inl rfl)] at hv
          have := of_decide_eq_true hv
          exact ⟨b - 1, by omega⟩
        have eb : (30 : Int) - ((b' + 1 : Nat) : Int) + 1 = 30 - (b' : Int) := by omega
        have eR := readV_par b' k e
        generalize hR : readT ws (readV ws b') (ws.length + 1) (k + 1) [] = R at eR
        have hbadR : ∀ e', R = .bad e' → Bad CB n e' ln T H E := fun e' q => hbad e' (by rw [eR, q])
        refine ⟨_, rfl, rfl, _, rfl, ?_⟩
        rw [strEq, decide_eq_true rfl]
        refine iteT ⟨(show 0 ≤ sizeLine by decide), fun D hD => ?_⟩
        refine ⟨fun m σ' Hx => ∃ a acc us, σ' = [some (V.ref ln), some (V.int ((30 : Int) - ((b' + 1 : Nat) : Int))), some (V.str "("), some (V.ref D), none] ∧ OffN ln H' Hx ∧ Tabs T Hx ∧ LineAt CL Hx ln wl dx n ws a ∧ Hx D = some (.lst us) ∧ hasL cl Hx acc us ∧
          ws.length < a + m ∧ acc.length + m ≤ ws.length + 1 ∧ readT ws (readV ws b') m a acc = R, ⟨ws.length + 1, k + 1, [], [], rfl, offn_new (OffN.refl H') hD, t2.ext (same_new (Same.refl H') hD), line_new l2 hD, upd_same, rfl, by omega, by simp, hR⟩, ?_⟩
        rintro m σ' Hx ⟨a, acc, us, rfl, ox, tx, lx, hDx, hacc, hm1, hm2, hRx⟩
        refine ⟨_, rfl, ln, dx, _, rfl, lx.1, rfl, ln, wl, dx, n, ws, a, rfl, lx, Nat.le_trans ho.len (by decide), fun H3 s3 => ?_⟩
        have o3 : OffN ln H' H3 := ox.trans (OffN.of s3)
        have t3 := tx.ext s3
        have l3 := lx.same s3
        have hD3 := s3 _ _ hDx
        have hus := hasL_len hacc
        have hDln : D ≠ ln := line_ne l3 hD3
        refine ⟨scal_w a ")", _, rfl, ?_⟩
        rw [test_w]
        by_cases hc : ws[a]? = some (")" : Str)
        · rw [decide_eq_true hc]
          refine iteF ?_
          obtain ⟨m', rfl⟩ : ∃ m', m = m' + 1 := by
            have := (List.getElem?_eq_some_iff.mp hc).1
            exact ⟨m - 1, by omega⟩
          rw [readT_end hc] at hRx
          refine ⟨_, rfl, ln, dx, _, rfl, l3.1, rfl, (show 1 ≤ sizeLine by decide), fun q hq => ?_⟩
          have sq : Same H3 (upd H3 q (.tup [.str ")"])) := same_new (Same.refl H3) hq
          refine ⟨ln, wl, dx, n, ws, a, q, [")"], rfl, line_new l3 hq, Nat.le_trans ho.len (by decide), t3.ext sq, upd_same, fun hn => absurd ⟨_, hc, List.mem_cons_self ..⟩ hn, fun x' ex hx' H4 o4 t4 l4 => ?_⟩
          have hD4 : H4 D = some (.lst us) := o4.lst hDln (sq _ _ hD3)
          refine ⟨_, rfl, .inl ⟨D, us, rfl, SqL.of hD4, fun r hr => ?_⟩⟩
          have s5 : Same H4 (upd H4 r (.tup us)) := same_new (Same.refl H4) hr
          have ok4 : OffN ln H3 H4 := (OffN.of sq).trans o4
          refine hok (.tup acc) (a + 1) (by rw [eR, ← hRx]) _ _ ((o0.trans o3).trans (ok4.trans (OffN.of s5))) (t4.ext s5) (l4.same s5) ⟨r, us, rfl, upd_same, ?_⟩
          exact hasL_kept (Kept.of s5) _ (hasL_kept (ok4.kept l3) _ (hasL_kept (Kept.of s3) _ hacc))
        · rw [decide_eq_false hc]
          have hbad4 : ∀ e', readV ws b' a = .bad e' → Bad CB n e' ln T H3 E := fun e' q => by
            refine (hbadR e' ?_).off (o0.trans o3)
            rw [← hRx]
            cases m with
            | zero =>
              have : ws[a]? = none := List.getElem?_eq_none (by omega)
              rw [readV_none _ _ this] at q
              cases q
              rfl
            | succ m' => rw [readT_not hc, q]
          refine iteT ⟨_, fun _ _ z => z, ?_⟩
          refine ⟨_, rfl, .inl ⟨rfl, _, SqL.of hD3⟩, _, rfl, _, rfl, _, _, rfl, rfl, ?_⟩
          refine ⟨b', rfl, ln, wl, dx, n, ws, a, congrArg (fun i => [V.ref ln, V.int i]) eb, l3, ho, t3, hbad4, fun d a' ev v H4 o4 t4 l4 hv4 => ?_⟩
          obtain ⟨ha1, ha2, htold, hwide⟩ := readV_at ho ev
          have hD4 : H4 D = some (.lst us) := o4.lst hDln hD3
          have hDwl : D ≠ wl := Ne.symm (ne_of_none l2.2 hD)
          refine ⟨D, us, v, rfl, rfl, hD4, ?_, ?_⟩
          · have := ho.len
            exact small1000 (by omega)
          · obtain ⟨m', rfl⟩ : ∃ m', m = m' + 1 := ⟨m - 1, by omega⟩
            refine ⟨m', Nat.lt_succ_self _, a', acc ++ [d], us ++ [v], rfl, ?_, tabs_lst t4 hD4, line_upd l4 hDln hDwl, upd_same, ?_, by omega, by rw [List.length_append]; simp; omega, ?_⟩
            · exact offn_new (o3.trans o4) hD
            · exact hasL_kept (kept_lst hD4) _ (hasL_append (hasL_kept (o4.kept l3) _ (hasL_kept (Kept.of s3) _ hacc)) (hasL_one hv4))
            · rw [← hRx, readT_not hc, ev]
      · refine ⟨_, rfl, rfl, _, rfl, ?_⟩
        rw [strEq, decide_eq_false c1]
        refine iteF ⟨_, rfl, rfl, _, rfl, ?_⟩
        rw [strEq]
        by_cases c2 : x = "["
        · subst c2
          obtain ⟨b', rfl⟩ : ∃ b', b = b' + 1 := by
            unfold valW at hv
            rw [if_pos (.inr rfl)] at hv
            have := of_decide_eq_true hv
            exact ⟨b - 1, by omega⟩
          have eb : (30 : Int) - ((b' + 1 : Nat) : Int) + 1 = 30 - (b' : Int) := by omega
          have eR := readV_brk b' k e
          rw [decide_eq_true rfl]
          refine iteT ⟨_, rfl, _, rfl, _, _, rfl, rfl, b', rfl, ln, wl, dx, n, ws, k + 1, congrArg (fun i => [V.ref ln, V.int i]) eb, l2, ho, t2, fun e' q => (hbad e' (by rw [eR, q])).off o0, fun d a eP v H4 o4 t4 l4 hv4 => ?_⟩
          rw [eP] at eR
          dsimp only at eR
          refine ⟨_, rfl, ln, dx, _, rfl, l4.1, rfl, (show 1 ≤ sizeLine by decide), fun q hq => ?_⟩
          have sq : Same H4 (upd H4 q (.tup [.str "]"])) := same_new (Same.refl H4) hq
          refine ⟨ln, wl, dx, n, ws, a, q, ["]"], rfl, line_new l4 hq, Nat.le_trans ho.len (by decide), t4.ext sq, upd_same, fun hn => ?_, fun x' ex hx' H5 o5 t5 l5 => ?_⟩
          · have hne : ws[a]? ≠ some ("]" : Str) := fun z => hn ⟨_, z, List.mem_cons_self ..⟩
            rw [if_neg hne] at eR
            exact (hbad a eR).off ((o0.trans o4).trans (OffN.of sq))
          · obtain rfl : x' = "]" := by simpa using hx'
            rw [if_pos ex] at eR
            have ok5 : OffN ln H4 H5 := (OffN.of sq).trans o5
            exact ⟨_, rfl, hok d (a + 1) eR v H5 ((o0.trans o4).trans ok5) t5 l5 (D.has_kept (ok5.kept l4) d hv4)⟩
        · rw [decide_eq_false c2]
          have eF := readV_flat b k e c1 c2
          have hflat : isFlat x = true := by
            unfold valW at hv
            rw [if_neg (fun z => z.elim c1 c2)] at hv
            exact hv
          refine iteF ⟨_, rfl, rfl, _, rfl, ?_⟩
          rw [strEq]
          by_cases c3 : x = "none"
          · subst c3
            rw [decide_eq_true rfl]
            rw [flat_non] at eF
            exact iteT (hok .non (k + 1) eF _ _ o0 t2 l2 rfl)
          · rw [decide_eq_false c3]
            refine iteF ⟨_, rfl, aT, [.str "no", .str "yes"], rfl, .inr (N.tup _), rfl, rfl, _, rfl, ?_⟩
            have e2 : inV (.str x) [.str "no", .str "yes"] = decide (x ∈ [("no" : Str), "yes"]) := inV_str x ["no", "yes"]
            rw [if_neg Bool.false_ne_true, e2]
            by_cases c4 : x ∈ [("no" : Str), "yes"]
            · rw [decide_eq_true c4]
              refine iteT ⟨_, rfl, aT, [.str "no", .str "yes"], 1, .str "yes", rfl, rfl, N.tup _, rfl, rfl, ?_⟩
              rw [strEq]
              simp only [List.mem_cons, List.not_mem_nil, or_false] at c4
              rcases c4 with c4 | c4
              · subst c4
                rw [flat_no_] at eF
                rw [show decide (("no" : Str) = "yes") = false by decide +kernel]
                exact hok (.bl false) (k + 1) eF _ _ o0 t2 l2 rfl
              · subst c4
                rw [flat_yes] at eF
                rw [decide_eq_true rfl]
                exact hok (.bl true) (k + 1) eF _ _ o0 t2 l2 rfl
            · rw [decide_eq_false c4]
              simp only [List.mem_cons, List.not_mem_nil, or_false, not_or] at c4
              have hi : isIntW x = true := by
                unfold isFlat at hflat
                rw [decide_eq_false c3, decide_eq_false c4.1, decide_eq_false c4.2] at hflat
                exact hflat
              obtain ⟨i, hi1, _, _⟩ := ho.good x hx hi
              have ef : flat x = some (.int i) := by
                unfold flat
                rw [if_neg c3, if_neg c4.1, if_neg c4.2, if_pos hi, hi1]
                rfl
              rw [ef] at eF
              exact iteF ⟨_, rfl, x, i, rfl, hi1, ho.wl x hx, hok (.int i) (k + 1) eF _ _ o0 t2 l2 rfl⟩
    · have hx : x ∈ ws := List.mem_of_getElem? e
      exact ⟨_, rfl, _, rfl, x, _, rfl, Nat.le_trans (ho.wl x hx) (by decide), fun H3 s3 => q2 H3 s3⟩
end
end Nr
end
set_option maxHeartbeats 4000000
section
/-! NrRP: read_paper_in; both readings together. -/
namespace Nr
open PySem PySem.Spec PyProof.Rows L2 LamX NdefX
structure GM (K : PySem.W.Frag) (w : World) (mg : Str → Option Value) (aM : Addr) : Prop where
  g : mg "MANY" = some (.ref aM)
  kd : ∃ es n, KDict K w aM es n ∧ keyTxtsB es.toList manyKs = true
  get : ∀ wd j, many wd = some j → KDct K w aM wd (.int j)
theorem many_mem {wd : Str} : wd ∈ manyKs ↔ ∃ j, many wd = some j := by
  constructor
  · intro h
    unfold manyKs at h
    simp only [List.mem_cons, List.not_mem_nil, or_false] at h
    rcases h with h | h | h | h | h | h | h | h | h | h | h | h | h <;> subst h
    · exact ⟨3, by decide +kernel⟩
    · exact ⟨2, by decide +kernel⟩
    · exact ⟨2, by decide +kernel⟩
    · exact ⟨4, by decide +kernel⟩
    · exact ⟨2, by decide +kernel⟩
    · exact ⟨3, by decide +kernel⟩
    · exact ⟨4, by decide +kernel⟩
    · exact ⟨1, by decide +kernel⟩
    · exact ⟨1, by decide +kernel⟩
    · exact ⟨1, by decide +kernel⟩
    · exact ⟨2, by decide +kernel⟩
    · exact ⟨3, by decide +kernel⟩
    · exact ⟨4, by decide +kernel⟩
  · rintro ⟨j, h⟩
    refine Classical.byContradiction fun hn => ?_
    simp only [manyKs, List.mem_cons, List.not_mem_nil, or_false, not_or] at hn
    obtain ⟨h1, h2, h3, h4, h5, h6, h7, h8, h9, h10, h11, h12, h13⟩ := hn
    unfold many at h
    rw [if_neg h1, if_neg h2, if_neg h3, if_neg h4, if_neg h5, if_neg h6, if_neg h7, if_neg h8, if_neg h9, if_neg h10, if_neg h11, if_neg h12, if_neg h13] at h
    cases h
theorem many_le {wd : Str} {j : Nat} (h : many wd = some j) : j ≤ 4 := by
  have hm := many_mem.mpr ⟨j, h⟩
  unfold manyKs at hm
  simp only [List.mem_cons, List.not_mem_nil, or_false] at hm
  rcases hm with e | e | e | e | e | e | e | e | e | e | e | e | e <;> subst e
  · rw [show many "classes" = some 3 by decide +kernel] at h
    cases h
    decide
  · rw [show many "hinders" = some 2 by decide +kernel] at h
    cases h
    decide
  · rw [show many "moment" = some 2 by decide +kernel] at h
    cases h
    decide
  · rw [show many "nearness" = some 4 by decide +kernel] at h
    cases h
    decide
  · rw [show many "never" = some 2 by decide +kernel] at h
    cases h
    decide
  · rw [show many "reach" = some 3 by decide +kernel] at h
    cases h
    decide
  · rw [show many "reached" = some 4 by decide +kernel] at h
    cases h
    decide
  · rw [show many "realmoment" = some 1 by decide +kernel] at h
    cases h
    decide
  · rw [show many "records" = some 1 by decide +kernel] at h
    cases h
    decide
  · rw [show many "relations" = some 1 by decide +kernel] at h
    cases h
    decide
  · rw [show many "rounds" = some 2 by decide +kernel] at h
    cases h
    decide
  · rw [show many "smith" = some 3 by decide +kernel] at h
    cases h
    decide
  · rw [show many "unreached" = some 4 by decide +kernel] at h
    cases h
    decide
theorem wideL_app : ∀ {xs ys : List D}, wideL xs → wideL ys → wideL (xs ++ ys)
  | [], ys, _, h => h
  | x :: xs, ys, h1, h2 => by
    rw [wideL] at h1
    rw [List.cons_append, wideL]
    exact ⟨h1.1, wideL_app h1.2 h2⟩
section
variable {P : Program} {w : World} {K : PySem.W.Frag} {mg : Str → Option Value} {base : Heap} {CL CB aT aM : Addr} {cl : Str → Addr} {T : List (Addr × Str)}
theorem scRP : FnScope ["line", "deep", "word", "turn"] ["line", "deep"] (defScope sRP) := ⟨rfl, rfl, rfl, by decide +kernel, rfl, by decide +kernel, by decide +kernel⟩
theorem ok_rp {f fT fA fR fO fV fM : Addr} {fd fdT fdA fdR fdO fdV fdM : FuncData} (LO : LineOk P w K mg base CL CB T fT fA fR fO fdT fdA fdR fdO) (F : Fun K "read_paper_in" "read_paper_in" sRP f fd) (G : GF mg) (N : GM K w mg aM)
    (FM : Fun K "made_of" "made_of" sMade fM fdM) (bM : Binds K fdM ["word", "parts"] []) (mM : mg "made_of" = some (.ref fM)) (b : Nat) (OM : FnOk P w K mg base CX0 (b + 7) fM fdM ["word", "parts"] (spMade cl b))
    (FV : Fun K "read_value" "read_value" sRV fV fdV) (bV : Binds K fdV ["line", "deep"] []) (mV : mg "read_value" = some (.ref fV)) (OV : FnOk P w K mg base (L2.CX P w) (2 * b + 50) fV fdV ["line", "deep"] (spRV CL CB cl T b)) :
    FnOk P w K mg base (L2.CX P w) (2 * b + 51) f fd ["line", "deep"] (spRP CL CB cl T b) := by
  obtain ⟨es, nn, D, hk⟩ := N.kd
  have L := LO.L
  have nd := scRP.nd
  refine F.okX scRP (fun vs H Q E h => ?_) (fun cdv A outer s H vs Q E hr h => ?_)
  · obtain ⟨_, _, _, _, _, _, rfl, _⟩ := h
    rfl
  · obtain ⟨ln, wl, dx, n, ws, k, rfl, h1, ho, ht, hbad, hok⟩ := h
    have hr5 := hr.mono (show 5 ≤ 2 * b + 50 by omega)
    have hrM := hr.mono (show b + 7 ≤ 2 * b + 50 by omega)
    refine ⟨_, pss_cons (ps_set (i := 2) nd rfl (.inl rfl) (pe_meth (pv 0) L.cls LO.mO.M LO.oO hr5 LO.mO.B .nil (passes_call (takes_of rfl rfl rfl rfl) (fun _ _ _ _ h => h))
          (pa_cons (pe_callTy (call_tupK rfl D hk (by decide)) (by rfl) (G.f "tuple" (by decide +kernel)) (by decide +kernel) (pa_cons (pe_glob (v := .ref aM) rfl N.g rfl) pa_nil)) pa_nil)))
      (pss_one (ps_ret (pe_call OM hrM rfl mM FM.kp bM .nil pass0 (pa_cons (pv 2) (pa_cons
        (pe_lcx (own := [("turn", 3)]) (g := gName 3) (tt := tYes) rfl rfl (takes_of rfl rfl rfl rfl) rfl nd (pi_range1 (by rfl) (G.f "range" (by decide +kernel)) (pa_cons (pe_ix ix_kdict (pe_glob (v := .ref aM) rfl N.g rfl) (pv 2) (fun _ _ => rfl)) pa_nil))
          (blkOk_by (N := ["line", "deep", "word", "turn"]) (sc := defScope sRP) (by decide +kernel)) (fun _ _ _ _ _ => pg_name (i := 3) nd rfl (Or.inl rfl)) (fun _ _ _ _ _ => pts_nil)
          (fun _ _ _ _ _ hp => pe_call OV hr rfl mV FV.kp bV .nil hp (pa_cons (pv 0) (pa_cons (pv 1) pa_nil)))) pa_nil))))), ?_⟩
    refine ⟨_, rfl, ln, dx, _, rfl, h1.1, rfl, rfl, fun q hq => ?_⟩
    have sq : Same H (upd H q (.tup (manyKs.map V.str))) := same_new (Same.refl H) hq
    refine ⟨ln, wl, dx, n, ws, k, q, manyKs, rfl, line_new h1 hq, Nat.le_trans ho.len (by decide), ht.ext sq, upd_same, fun hn => ?_, fun x e hx H' o t2 l2 => ?_⟩
    · refine (hbad k ?_).off (OffN.of sq)
      unfold readP
      cases e : ws[k]? with
      | none => rfl
      | some x =>
        dsimp only
        cases em : many x with
        | none => rfl
        | some j => exact absurd ⟨x, e, many_mem.mpr ⟨j, em⟩⟩ hn
    · obtain ⟨j, hj⟩ := many_mem.mp hx
      have hj4 := many_le hj
      have o0 : OffN ln H H' := (OffN.of sq).trans o
      have eR : readP ws (readV ws b) k = match readN (readV ws b) j (k + 1) [] with
        | .bad e => .bad e
        | .ok xs a => .ok (.pap x xs) a := by
        unfold readP
        rw [e]
        dsimp only
        rw [hj]
        all_goals (dsimp only; cases readN (readV ws b) j (k + 1) [] <;> rfl)
      generalize hR : readN (readV ws b) j (k + 1) [] = R at eR
      refine ⟨_, rfl, _, rfl, aM, x, .int j, rfl, rfl, N.get x j hj, (j : Int), rfl, by omega, by omega, fun D hD => lc_range (lo := 0) (n := j) (fun i Hx => ∃ a acc us, OffN ln H' Hx ∧ Tabs T Hx ∧ LineAt CL Hx ln wl dx n ws a ∧ Hx D = some (.lst us) ∧ hasL cl Hx acc us ∧ toldL b acc ∧ wideL acc ∧ acc.length = i ∧ readN (readV ws b) (j - i) a acc = R)
        ⟨k + 1, [], [], offn_new (OffN.refl H') hD, t2.ext (same_new (Same.refl H') hD), line_new l2 hD, upd_same, rfl, by rw [toldL] <;> trivial, by rw [wideL] <;> trivial, rfl, hR⟩ (fun i Hx hi hP => ?_) (fun Hx hP => ?_)⟩
      · obtain ⟨a, acc, us, ox, tx, lx, hDx, hacc, htl, hwd, hn, hRx⟩ := hP
        obtain ⟨m, hm⟩ : ∃ m, j - i = m + 1 := ⟨j - i - 1, by omega⟩
        rw [hm] at hRx
        refine ⟨rfl, _, rfl, _, rfl, ln, wl, dx, n, ws, a, rfl, lx, ho, tx, fun e' q => ?_, fun d a' ev v H4 o4 t4 l4 hv4 => ?_⟩
        · refine (hbad e' ?_).off (o0.trans ox)
          rw [eR, ← hRx, readN, q]
        · obtain ⟨ha1, ha2, htold, hwide⟩ := readV_at ho ev
          have hDln : D ≠ ln := line_ne lx hDx
          have hD4 : H4 D = some (.lst us) := o4.lst hDln hDx
          have hDwl : D ≠ wl := Ne.symm (ne_of_none l2.2 hD)
          have hus := hasL_len hacc
          refine ⟨us, hD4, small1000 (by omega), a', acc ++ [d], us ++ [v], offn_new (ox.trans o4) hD, tabs_lst t4 hD4, line_upd l4 hDln hDwl, upd_same, ?_, toldL_append htl (by rw [toldL, toldL]; exact ⟨htold, trivial⟩), wideL_app hwd (by rw [wideL, wideL]; exact ⟨hwide, trivial⟩), ?_, ?_⟩
          · exact hasL_kept (kept_lst hD4) _ (hasL_append (hasL_kept (o4.kept lx) _ hacc) (hasL_one hv4))
          · rw [List.length_append, hn]; rfl
          · rw [← hRx, readN, ev, show j - (i + 1) = m by omega]
      · obtain ⟨a, acc, us, ox, tx, lx, hDx, hacc, htl, hwd, hn, hRx⟩ := hP
        rw [Nat.sub_self] at hRx
        have eR2 : R = .ok acc a := by rw [← hRx]; rfl
        rw [eR2] at eR
        refine ⟨x, D, us, acc, rfl, hDx, hacc, by rw [hj, hn], htl, hwd, fun v H5 s5 hv5 => ?_⟩
        exact hok (.pap x acc) a eR v H5 ((o0.trans ox).trans (OffN.of s5)) (tx.ext s5) (lx.same s5) hv5
end
end Nr
end
set_option maxHeartbeats 4000000
section
/-! NrBoth: both readings together; Line.__init__, end; lines_of, last_line; read_paper. -/
namespace Nr
open PySem PySem.Spec PyProof.Rows L2 LamX NdefX
section
variable {P : Program} {w : World} {K : PySem.W.Frag} {mg : Str → Option Value} {base : Heap} {CL CB aT aM : Addr} {cl : Str → Addr} {T : List (Addr × Str)}
theorem ok_both {fT fA fR fO fV fM fW fQ c Pt : Addr} {fdT fdA fdR fdO fdV fdM fdW fdQ : FuncData} (LO : LineOk P w K mg base CL CB T fT fA fR fO fdT fdA fdR fdO) (G : GF mg) (N : GN K mg aT) (NM : GM K w mg aM)
    (FM : Fun K "made_of" "made_of" sMade fM fdM) (bM : Binds K fdM ["word", "parts"] []) (mM : mg "made_of" = some (.ref fM)) (OM : ∀ b, FnOk P w K mg base CX0 (b + 7) fM fdM ["word", "parts"] (spMade cl b))
    (FV : Fun K "read_value" "read_value" sRV fV fdV) (bV : Binds K fdV ["line", "deep"] []) (mV : mg "read_value" = some (.ref fV))
    (hcode : fdV.code = .ref c) (TB : TabB base mg c Pt) (hT : (Pt, ("read_value.<locals>.<lambda>" : Str)) ∈ T) (hu : ∀ p ∈ T, p.1 = Pt → p.2 = ("read_value.<locals>.<lambda>" : Str))
    (FQ : Fun K "read_paper_in" "read_paper_in" sRP fQ fdQ) (bQ : Binds K fdQ ["line", "deep"] []) (mQ : mg "read_paper_in" = some (.ref fQ))
    (FW : Fun K "is_value_word" "is_value_word" sVW fW fdW) (OW : FnOk P w K mg base CX0 3 fW fdW ["word", "deep"] spVW) (bW : Binds K fdW ["word", "deep"] []) (mW : mg "is_value_word" = some (.ref fW)) :
    ∀ b, b ≤ 31 → FnOk P w K mg base (L2.CX P w) (2 * b + 48) fV fdV ["line", "deep"] (under (spRV CL CB cl T) b) ∧ FnOk P w K mg base (L2.CX P w) (2 * b + 49) fQ fdQ ["line", "deep"] (under (spRP CL CB cl T) b) := by
  intro b
  induction b with
  | zero => exact fun _ => ⟨⟨fun _ _ _ _ ⟨_, e, _⟩ => (nomatch e), fun _ _ _ _ _ _ _ _ _ _ _ _ _ ⟨_, e, _⟩ => (nomatch e)⟩, ⟨fun _ _ _ _ ⟨_, e, _⟩ => (nomatch e), fun _ _ _ _ _ _ _ _ _ _ _ _ _ ⟨_, e, _⟩ => (nomatch e)⟩⟩
  | succ b ih =>
    intro hb
    obtain ⟨i1, i2⟩ := ih (by omega)
    have r1 := ok_rv LO FV G N hcode TB hT hu FW OW bW mW FQ bQ mQ b (by omega) i2 bV mV i1
    have r2 := ok_rp LO FQ G NM FM bM mM b (OM b) FV bV mV r1
    refine ⟨r1.imp fun vs H Q E h => ?_, r2.imp fun vs H Q E h => ?_⟩
    · obtain ⟨b', e, h⟩ := h
      obtain rfl : b = b' := by omega
      exact h
    · obtain ⟨b', e, h⟩ := h
      obtain rfl : b = b' := by omega
      exact h
/-! ### Line.__init__ -/
def spLineI (CL : Addr) : Sp := fun vs H Q _ => ∃ (ln dx : Addr) (n : Int) (z : Str), vs = [.ref ln, .int n, .str z] ∧ z.length ≤ 1000000 ∧ H ln = some (.ins CL dx []) ∧
  ∀ wl H', Off ln H H' → H wl = none → LineAt CL H' ln wl dx n (Txt.split z " ") 0 → Q .non H'
theorem scLineI : FnScope ["self", "number", "text"] ["self", "number", "text"] (defScope sLineI) := ⟨rfl, rfl, rfl, by decide +kernel, rfl, by decide +kernel, by decide +kernel⟩
theorem ok_lineI {f : Addr} {fd : FuncData} (L : LineT K CL) (F : Fun K "__init__" "Line.__init__" sLineI f fd) : FnOk P w K mg base CX0 1 f fd ["self", "number", "text"] (spLineI CL) := by
  refine F.ok scLineI (fun vs H Q E h => ?_) (fun cdv A outer s H vs Q E hr h => ?_)
  · obtain ⟨_, _, _, _, rfl, _⟩ := h
    rfl
  · obtain ⟨ln, dx, n, z, rfl, hz, h1, kk⟩ := h
    refine ⟨_, pss_cons (ps_fld (pv 0) (pv 1) (by rfl)) (pss_cons (ps_fld (pv 0) (pe_split (pv 2) pe_str) (by rfl)) (pss_one (ps_fld (pv 0) pe_int (by rfl)))), ?_⟩
    refine ⟨_, rfl, _, rfl, ln, CL, dx, [], rfl, h1, L.cls, L.nN, (show 0 < 1000 by decide), ?_⟩
    refine ⟨_, rfl, ⟨_, rfl⟩, z, " ", rfl, rfl, by decide +kernel, Nat.le_trans (Nat.add_le_add_right hz 2) (by decide), fun q hq => ?_⟩
    have hqn : q ≠ ln := fun e => by rw [e, upd_same] at hq; cases hq
    refine ⟨_, rfl, ln, CL, dx, putF "number" (.int n) [], rfl, by rw [upd_ne (Ne.symm hqn), upd_same], L.cls, L.nW, (show 1 < 1000 by decide), ?_⟩
    refine ⟨_, rfl, ln, CL, dx, _, rfl, upd_same, L.cls, L.nA, (show 2 < 1000 by decide), ?_⟩
    rw [upd_ne hqn] at hq
    refine kk q _ (fun b o hb e => ?_) hq ⟨by rw [upd_same]; rfl, by rw [upd_ne hqn, upd_ne hqn, upd_same]⟩
    rw [upd_ne hb, upd_ne hb, upd_ne (ne_of_none e hq), upd_ne hb]
    exact e
/-! ### end -/
def spEnd (CL CB : Addr) : Sp := fun vs H Q E => ∃ (ln wl dx : Addr) (n : Int) (ws : List Str) (k : Nat), vs = [.ref ln] ∧ LineAt CL H ln wl dx n ws k ∧ ws.length ≤ 1000000 ∧
  (k < ws.length → ∀ d H', Same H H' → H' d = some (.xd (btF n k)) → E (.ref CB) (some d) H') ∧ (ws.length ≤ k → ∀ H', Same H H' → Q .non H')
theorem scEnd : FnScope ["self"] ["self"] (defScope sEnd) := ⟨rfl, rfl, rfl, by decide +kernel, rfl, by decide +kernel, by decide +kernel⟩
theorem ok_end {f fA fR : Addr} {fd fdA fdR : FuncData} (L : LineT K CL) (F : Fun K "end" "Line.end" sEnd f fd) (mA : MT K CL "ahead" "Line.ahead" sAhead fA fdA ["self"]) (oA : FnOk P w K mg base CX0 1 fA fdA ["self"] (spAhead CL))
    (mR : MT K CL "refuse" "Line.refuse" sRefuse fR fdR ["self"]) (oR : FnOk P w K mg base (L2.CX P w) 3 fR fdR ["self"] (spRefuse CL CB)) : FnOk P w K mg base (L2.CX P w) 4 f fd ["self"] (spEnd CL CB) := by
  refine F.okX scEnd (fun vs H Q E h => ?_) (fun cdv A outer s H vs Q E hr h => ?_)
  · obtain ⟨_, _, _, _, _, _, rfl, _⟩ := h
    rfl
  · obtain ⟨ln, wl, dx, n, ws, k, rfl, h1, hz, hbad, hok⟩ := h
    refine ⟨_, pss_one (ps_if (pt_cmpR op_notN (pe_meth0 (pv 0) L.cls mA.M oA (hr.mono (by decide)) mA.B .nil pass0) pe_non (nomark _)) (pss_one (ps_expr (pe_meth0 (pv 0) L.cls mR.M oR hr mR.B .nil (passes_call (takes_of rfl rfl rfl rfl) (fun _ _ _ _ h => h))))) pss_nil), ?_⟩
    refine ⟨_, rfl, ln, dx, _, rfl, h1.1, rfl, ln, wl, dx, n, ws, k, rfl, h1, hz, fun H1 s1 => ?_⟩
    unfold wordV
    cases e : ws[k]? with
    | none => exact ⟨rfl, false, rfl, iteF (hok (by have := List.getElem?_eq_none_iff.mp e; omega) H1 s1)⟩
    | some x =>
      refine ⟨rfl, true, rfl, iteT ⟨_, rfl, ln, dx, _, rfl, (h1.same s1).1, rfl, ln, wl, dx, n, ws, k, rfl, h1.same s1, fun d H' s2 hd hx => ?_⟩⟩
      exact hbad (List.getElem?_eq_some_iff.mp e).1 d H' (s1.trans s2) hx
/-! ### last_line -/
def spLast (CB : Addr) : Sp := fun vs H Q E => ∃ (l : Addr) (us : List V) (k : Nat), vs = [.ref l, .int k] ∧ H l = some (.lst us) ∧
  (k < us.length → ∀ d H', Same H H' → H' d = some (.xd (btF k 0)) → E (.ref CB) (some d) H') ∧ (us.length ≤ k → ∀ H', Same H H' → Q .non H')
theorem scLast : FnScope ["lines", "at"] ["lines", "at"] (defScope sLast) := ⟨rfl, rfl, rfl, by decide +kernel, rfl, by decide +kernel, by decide +kernel⟩
theorem ok_last {f fI : Addr} {fd fdI : FuncData} (G : GF mg) (F : Fun K "last_line" "last_line" sLast f fd) (I : ErrI P K mg CB fI fdI) : FnOk P w K mg base (L2.CX P w) 3 f fd ["lines", "at"] (spLast CB) := by
  refine F.okX scLast (fun vs H Q E h => ?_) (fun cdv A outer s H vs Q E hr h => ?_)
  · obtain ⟨_, _, _, rfl, _⟩ := h
    rfl
  · obtain ⟨l, us, k, rfl, h1, hbad, hok⟩ := h
    refine ⟨_, pss_one (ps_if (pt_cmpR op_lt (pv 1) (pe_callB call_len_seq (by rfl) (G.f "len" (by decide +kernel)) PySem.boot_len (pa_cons (pv 0) pa_nil)) (nomark _))
      (pss_one (ps_raise rfl (takes_of rfl rfl rfl rfl) (pmk_oex I.oex I.init I.ti (ok_BT I) hr I.b .nil pass0 (by rfl) I.g (pa_cons (pv 1) (pa_cons pe_int pa_nil))))) pss_nil), ?_⟩
    refine ⟨_, rfl, _, rfl, l, us, rfl, .inl (SqL.of h1), _, _, rfl, rfl, _, rfl, ?_⟩
    by_cases c : k < us.length
    · rw [decide_eq_true (show (k : Int) < (us.length : Int) by omega)]
      exact iteT ⟨_, rfl, (show 2 ≤ 1000 by decide), raise_bt fun d H' s1 hd hx => hbad c d H' s1 hx⟩
    · rw [decide_eq_false (show ¬ (k : Int) < (us.length : Int) by omega)]
      exact iteF (hok (by omega) H (Same.refl H))
end
end Nr
end
set_option maxHeartbeats 4000000
section
/-! NrLines: lines_of. -/
namespace Nr
open PySem PySem.Spec PyProof.Rows L2 LamX NdefX
/-- the i-th line is told -/
def LinesAt (CL : Addr) (H0 H : Hp) (us : List V) (xs : List Str) : Prop := ∀ i x, i < us.length → xs[i]? = some x → ∃ ln wl dx, us[i]? = some (.ref ln) ∧ LineAt CL H ln wl dx (i : Nat) (Txt.split x " ") 0 ∧ H0 ln = none
def LinesD (CL D : Addr) (H0 H : Hp) (us : List V) (xs : List Str) : Prop := ∀ i x, i < us.length → xs[i]? = some x → ∃ ln wl dx, us[i]? = some (.ref ln) ∧ LineAt CL H ln wl dx (i : Nat) (Txt.split x " ") 0 ∧ H0 ln = none ∧ wl ≠ D
def spLines (CL CB : Addr) (K : PySem.W.Frag) : Sp := fun vs H Q E => ∃ v : V, vs = [v] ∧
  ((∃ z : Str, v = .str z ∧ z.length ≤ 10000 ∧ (∀ x ∈ Txt.split z "\n", x.length ≤ 10000) ∧ ∀ l us H', Same H H' → H' l = some (.lst us) → us.length = (Txt.split z "\n").length → LinesAt CL H H' us (Txt.split z "\n") → Q (.ref l) H') ∨
   (∃ ty : Value, TyOf K H v ty ∧ PySem.W.kitOne K ty (.type "str") = some false ∧ ∀ d H', Same H H' → H' d = some (.xd (btF 0 0)) → E (.ref CB) (some d) H'))
section
variable {P : Program} {w : World} {K : PySem.W.Frag} {mg : Str → Option Value} {base : Heap} {CL CB : Addr}
theorem scLines : FnScope ["text", "number", "line"] ["text"] (defScope sLines) := ⟨rfl, rfl, rfl, by decide +kernel, rfl, by decide +kernel, by decide +kernel⟩
theorem ok_lines {f fI fL : Addr} {fd fdI fdL : FuncData} (G : GF mg) (F : Fun K "lines_of" "lines_of" sLines f fd) (I : ErrI P K mg CB fI fdI) (mS : ∃ t, mg "MOST_SIGNS" = some (.int 200000 t)) (ML : Mk K CL fL) (OL : FnOk P w K mg base CX0 1 fL fdL ["self", "number", "text"] (spLineI CL)) (bL : Binds K fdL ["self", "number", "text"] []) (gL : mg "Line" = some (.ref CL)) :
    FnOk P w K mg base (L2.CX P w) 3 f fd ["text"] (spLines CL CB K) := by
  obtain ⟨tS, mS⟩ := mS
  have nd := scLines.nd
  refine F.okX scLines (fun vs H Q E h => ?_) (fun cdv A outer s H vs Q E hr h => ?_)
  · obtain ⟨_, rfl, _⟩ := h
    rfl
  · obtain ⟨v, rfl, h⟩ := h
    refine ⟨_, pss_cons (ps_if (PW.pt (pw_or (pt_not (pt_val (pe_callB call_isi (by rfl) (G.f "isinstance" (by decide +kernel)) PyProof.Rows.boot_isinstance (pa_cons (pv 0) (pa_cons (pe_bltn (v := .ty "str") (u := .type "str") (by rfl) (G.f "str" (by decide +kernel)) (by decide +kernel) rfl) pa_nil)))))
        (pw_or1 (pt_cmpR op_gt (pe_callB call_len_str (by rfl) (G.f "len" (by decide +kernel)) PySem.boot_len (pa_cons (pv 0) pa_nil)) (pe_glob (v := .int 200000) rfl mS ⟨_, rfl⟩) (nomark _)))))
        (pss_one (ps_raise rfl (takes_of rfl rfl rfl rfl) (pmk_oex I.oex I.init I.ti (ok_BT I) hr I.b .nil pass0 (by rfl) I.g (pa_cons pe_int (pa_cons pe_int pa_nil))))) pss_nil)
      (pss_one (ps_ret (pe_lc (own := [("number", 1), ("line", 2)]) (g := gTup K 2 (gCons (gName 1) (gCons (gName 2) gNil))) (tt := tYes) rfl nd (pi_enum (by rfl) (G.f "enumerate" (by decide +kernel)) (pa_cons (pe_split (pv 0) pe_str) pa_nil)) (blkOk_by (N := ["text", "number", "line"]) (sc := defScope sLines) (by decide +kernel))
        (fun _ _ _ _ _ => pg_tup (by rfl) (pgs_cons (pg_name (i := 1) nd rfl (Or.inl rfl)) (pgs_cons (pg_name (i := 2) nd rfl (Or.inl rfl)) pgs_nil))) (fun _ _ _ _ _ => pts_nil)
        (fun _ _ _ _ _ => pe_make ML OL hr rfl gL bL .nil pass0 (pa_cons (pv 1) (pa_cons (pv 2) pa_nil)))))), ?_⟩
    rcases h with ⟨z, rfl, hz, hx, k⟩ | ⟨ty, hty, kt, hE⟩
    · refine ⟨_, rfl, _, _, _, _, _, rfl, .ty _, .base (.str z), kit_ty (r := true) (by decide +kernel), _, rfl, iteF ?_⟩
      refine ⟨_, rfl, _, rfl, Nat.le_trans hz (by decide), _, _, rfl, rfl, _, rfl, ?_⟩
      rw [decide_eq_false (show ¬ ((z.length : Int) > 200000) by omega)]
      refine iteF ⟨_, rfl, ⟨_, rfl⟩, z, "\n", rfl, rfl, by decide +kernel, Nat.le_trans (Nat.add_le_add_right hz 2) (by decide), fun q hq => ?_⟩
      have hnl : (Txt.split z "\n").length ≤ 10002 := Nat.le_trans (PyProof.Rows.split_le z "\n") (by omega)
      refine ⟨q, _, rfl, SqL.of upd_same, fun D hD => lc_it (walk_enum (xs := (Txt.split z "\n").map V.str)) (fun i Hx => ∃ us, Hx D = some (.lst us) ∧ us.length = i ∧ LinesD CL D H Hx us (Txt.split z "\n") ∧ Same (upd H q (.lst ((Txt.split z "\n").map V.str))) Hx) ⟨[], upd_same, rfl, fun i x hi => absurd hi (Nat.not_lt_zero _), same_new (Same.refl _) hD⟩ (fun i Hx hi hP => ?_) (fun i x H1 H2 hi hP hy => ?_) (fun Hx hP => ?_)⟩
      · obtain ⟨_, _, _, _, hs⟩ := hP
        exact SqL.of (hs _ _ upd_same)
      · obtain ⟨us, hD1, hn, hL, hs⟩ := hP
        obtain ⟨T0, a, b, rfl, hT, rfl, ea, eb⟩ := hy
        cases ea
        have eb' : ((Txt.split z "\n").map V.str)[i]? = some b := eb
        rw [List.getElem?_map] at eb'
        obtain ⟨y, hy1, rfl⟩ : ∃ y, (Txt.split z "\n")[i]? = some y ∧ b = .str y := by
          cases q1 : (Txt.split z "\n")[i]? with
          | none => rw [q1] at eb'; cases eb'
          | some y => rw [q1] at eb'; cases eb'; exact ⟨y, rfl, rfl⟩
        have hylen : y.length ≤ 10000 := hx y (List.mem_of_getElem? hy1)
        have sT : Same H1 (upd H1 T0 (.tup [.int (i : Nat), .str y])) := same_new (Same.refl H1) hT
        refine ⟨T0, _, rfl, SqT.of upd_same, rfl, _, _, rfl, _, _, rfl, rfl, rfl, _, rfl, _, rfl, fun lx dx nx nd' hne => ⟨lx, dx, (i : Nat), y, rfl, Nat.le_trans hylen (by decide), upd_same, fun wl H4 ho hwl hLn => ⟨rfl, us, ?_, ?_, ?_⟩⟩⟩
        · exact (Same.made nx nd' fun b o e hb => ho b o hb e) _ _ (sT _ _ hD1)
        · exact Nat.lt_of_le_of_lt (show us.length ≤ 10002 by rw [List.length_map] at hi; omega) (by decide)
        · have s4 : Same H1 H4 := fun b o e => (Same.made nx nd' fun b o e hb => ho b o hb e) _ _ (sT b o e)
          have hD4 := s4 _ _ hD1
          have hlD : lx ≠ D := fun e => by rw [e, sT _ _ hD1] at nx; cases nx
          have hwD : wl ≠ D := fun e => by
            rw [e, upd_ne (Ne.symm hlD), upd_ne (fun z => by rw [← z, sT _ _ hD1] at nd'; cases nd'), sT _ _ hD1] at hwl
            cases hwl
          refine ⟨us ++ [.ref lx], upd_same, by rw [List.length_append, hn]; rfl, fun j x' hj hx' => ?_, same_new (fun b o e => s4 b o (hs b o e)) hD⟩
          rw [List.length_append] at hj
          by_cases e : j < us.length
          · obtain ⟨ln', wl', dx', g1, g2, g4, g3⟩ := hL j x' e hx'
            refine ⟨ln', wl', dx', by rw [List.getElem?_append_left e]; exact g1, line_upd (g2.same s4) (fun z => ?_) (fun z => g3 z.symm), g4, g3⟩
            have := g2.1
            rw [← z, hD1] at this
            cases this
          · have : j = i := by simp at hj; omega
            subst this
            rw [hy1] at hx'
            cases hx'
            exact ⟨lx, wl, dx, by rw [← hn, List.getElem?_append_right (Nat.le_refl _), Nat.sub_self]; rfl, line_upd hLn (Ne.symm hlD) (Ne.symm hwD), same_none (fun b o e => sT b o (hs b o (same_new (Same.refl H) hq b o e))) nx, hwD⟩
      · obtain ⟨us, hD1, hn, hL, hs⟩ := hP
        rw [List.length_map] at hn
        exact k D us Hx (fun b o e => hs _ _ (same_new (Same.refl H) hq b o e)) hD1 hn fun i x a b => let ⟨u, v, t, c, d, e, _⟩ := hL i x a b; ⟨u, v, t, c, d, e⟩
    · refine ⟨_, rfl, _, _, _, _, _, rfl, .ty _, .base hty, kt, _, rfl, iteT (iteT ⟨(show 2 ≤ 1000 by decide), raise_bt fun d H' s1 hd hx => hE d H' s1 hx⟩)⟩
end
end Nr
end
set_option maxHeartbeats 4000000
section
/-! NrRead: read_paper. -/
namespace Nr
open PySem PySem.Spec PyProof.Rows L2 LamX NdefX
/-- what is raised by the reading -/
def ErrT (CB : Addr) (T : List (Addr × Str)) (n k : Nat) (H : Hp) (E : XK) : Prop := ∀ d H', ExtN H H' → Tabs T H' → H' d = some (.xd (btF n k)) → E (.ref CB) (some d) H'
/-- what the reading of a text comes to: a line and a word, or the paper -/
def readAll (z : Str) : (Nat × Nat) ⊕ D := match Txt.split z "\n" with
  | [] => .inl (0, 0)
  | l :: r => match readL (Txt.split l " ") with
    | .bad e => .inl (0, e)
    | .ok p _ => if r = [] then .inr p else .inl (1, 0)
def spRead (CB : Addr) (cl : Str → Addr) (T : List (Addr × Str)) (K : PySem.W.Frag) : Sp := fun vs H Q E => ∃ v : V, vs = [v] ∧ Tabs T H ∧
  ((∃ z : Str, v = .str z ∧ z.length ≤ 10000 ∧ (∀ x ∈ Txt.split z "\n", x.length ≤ 10000) ∧ (∃ l r, Txt.split z "\n" = l :: r ∧ WsOk (Txt.split l " ")) ∧
    (∀ n k, readAll z = .inl (n, k) → ErrT CB T n k H E) ∧ ∀ p, readAll z = .inr p → ∀ v H', ExtN H H' → Tabs T H' → p.has cl H' v → Q v H') ∨
   (∃ ty : Value, TyOf K H v ty ∧ PySem.W.kitOne K ty (.type "str") = some false ∧ ErrT CB T 0 0 H E))
section
variable {P : Program} {w : World} {K : PySem.W.Frag} {mg : Str → Option Value} {base : Heap} {CL CB : Addr} {cl : Str → Addr} {T : List (Addr × Str)}
theorem scRead : FnScope ["text", "lines", "paper"] ["text"] (defScope sRead) := ⟨rfl, rfl, rfl, by decide +kernel, rfl, by decide +kernel, by decide +kernel⟩
theorem off_ext {ln : Addr} {H H1 H' : Hp} (s : Same H H1) (n : H ln = none) (o : OffN ln H1 H') : ExtN H H' := fun b u e nt => o b u (ne_of_none e n) (s b u e) nt
theorem ok_read {f fL fP fE fS : Addr} {fd fdL fdP fdE fdS : FuncData} (F : Fun K "read_paper" "read_paper" sRead f fd) (L : LineT K CL)
    (FL : Fun K "lines_of" "lines_of" sLines fL fdL) (bL : Binds K fdL ["text"] []) (mL : mg "lines_of" = some (.ref fL)) (OL : FnOk P w K mg base (L2.CX P w) 3 fL fdL ["text"] (spLines CL CB K))
    (FP : Fun K "read_paper_in" "read_paper_in" sRP fP fdP) (bP : Binds K fdP ["line", "deep"] []) (mP : mg "read_paper_in" = some (.ref fP)) (OP : FnOk P w K mg base (L2.CX P w) 111 fP fdP ["line", "deep"] (spRP CL CB cl T 30))
    (ME : MT K CL "end" "Line.end" sEnd fE fdE ["self"]) (OE : FnOk P w K mg base (L2.CX P w) 4 fE fdE ["self"] (spEnd CL CB))
    (FS : Fun K "last_line" "last_line" sLast fS fdS) (bS : Binds K fdS ["lines", "at"] []) (mS : mg "last_line" = some (.ref fS)) (OS : FnOk P w K mg base (L2.CX P w) 3 fS fdS ["lines", "at"] (spLast CB)) :
    FnOk P w K mg base (L2.CX P w) 112 f fd ["text"] (spRead CB cl T K) := by
  have nd := scRead.nd
  refine F.okX scRead (fun vs H Q E h => ?_) (fun cdv A outer s H vs Q E hr h => ?_)
  · obtain ⟨_, rfl, _⟩ := h
    rfl
  · obtain ⟨v, rfl, ht, h⟩ := h
    have hr3 := hr.mono (show 3 ≤ 111 by decide)
    have hr4 := hr.mono (show 4 ≤ 111 by decide)
    refine ⟨_, pss_cons (ps_set (i := 1) nd rfl (.inl rfl) (pe_call OL hr3 rfl mL FL.kp bL .nil (passes_call (takes_of rfl rfl rfl rfl) (fun _ _ _ _ h => h)) (pa_cons (pv 0) pa_nil)))
      (pss_cons (ps_set (i := 2) nd rfl (.inl rfl) (pe_call OP hr rfl mP FP.kp bP .nil (passes_call (takes_of rfl rfl rfl rfl) (fun _ _ _ _ h => h)) (pa_cons (pe_ix ix_list (pv 1) pe_int (fun _ _ => rfl)) (pa_cons pe_int pa_nil))))
      (pss_cons (ps_expr (pe_meth0 (pe_ix ix_list (pv 1) pe_int (fun _ _ => rfl)) L.cls ME.M OE hr4 ME.B .nil (passes_call (takes_of rfl rfl rfl rfl) (fun _ _ _ _ h => h))))
      (pss_cons (ps_expr (pe_call OS hr3 rfl mS FS.kp bS .nil (passes_call (takes_of rfl rfl rfl rfl) (fun _ _ _ _ h => h)) (pa_cons (pv 1) (pa_cons pe_int pa_nil))))
      (pss_one (ps_ret (pv 2)))))), ?_⟩
    refine ⟨_, rfl, v, rfl, ?_⟩
    rcases h with ⟨z, rfl, hz, hx, ⟨l0, r0, hs, ho⟩, hbad, hok⟩ | ⟨ty, hty, kt, hE⟩
    · refine .inl ⟨z, rfl, hz, hx, fun l us H1 s1 hl hn hL => ?_⟩
      rw [hs] at hn hL
      have hn1 : us.length = r0.length + 1 := hn
      obtain ⟨ln, wl, dx, hu, hLn, hnew⟩ := hL 0 l0 (by omega) rfl
      have t1 := ht.ext s1
      have eA : readAll z = match readL (Txt.split l0 " ") with
        | .bad e => .inl (0, e)
        | .ok p _ => if r0 = [] then .inr p else .inl (1, 0) := by
        unfold readAll
        rw [hs]
      generalize hws : Txt.split l0 " " = ws at hLn ho eA
      have eL : readL ws = match readP ws (readV ws 30) 0 with
        | .bad e => .bad e
        | .ok p a => if ws.length ≤ a then .ok p a else .bad a := by
        unfold readL
        cases readP ws (readV ws 30) 0 <;> rfl
      refine ⟨_, rfl, l, us, 0, _, rfl, rfl, SqL.of hl, atI_nat (j := 0) hu, ln, wl, dx, _, ws, 0, rfl, hLn, ho, t1, fun e q d H' o t hd => ?_, fun p a eP v H2 o2 t2 l2 hv => ?_⟩
      · refine hbad 0 e ?_ d H' (off_ext s1 hnew o) t hd
        rw [eA, eL, q]
      · have hlln : l ≠ ln := line_ne hLn hl
        have hl2 := o2.lst hlln hl
        rw [eP] at eL
        dsimp only at eL
        refine ⟨_, rfl, l, us, 0, _, rfl, rfl, SqL.of hl2, atI_nat (j := 0) hu, ln, dx, _, rfl, l2.1, rfl, ln, wl, dx, _, ws, a, rfl, l2, Nat.le_trans ho.len (by decide), fun hlt d H' s2 hd => ?_, fun hle H3 s3 => ?_⟩
        · refine hbad 0 a ?_ d H' (off_ext s1 hnew (o2.trans (OffN.of s2))) (t2.ext s2) hd
          rw [eA, eL, if_neg (by omega)]
        · rw [if_pos hle] at eL
          rw [eL] at eA
          dsimp only at eA
          refine ⟨_, rfl, l, us, 1, rfl, s3 _ _ hl2, fun hlt d H' s4 hd => ?_, fun hle4 H4 s4 => ?_⟩
          · refine hbad 1 0 ?_ d H' (off_ext s1 hnew (o2.trans (OffN.of (s3.trans s4)))) (t2.ext (s3.trans s4)) hd
            rw [eA, if_neg]
            intro e0
            rw [e0] at hn1
            simp at hn1
            omega
          · refine ⟨_, rfl, hok p ?_ v H4 (off_ext s1 hnew (o2.trans (OffN.of (s3.trans s4)))) (t2.ext (s3.trans s4)) (D.has_kept (Kept.of (s3.trans s4)) p hv)⟩
            rw [eA, if_pos]
            cases r0 with
            | nil => rfl
            | cons x r => simp at hn1; omega
    · exact .inr ⟨ty, hty, kt, fun d H' s1 hd => hE d H' (ExtN.of s1) (ht.ext s1) hd⟩
end
end Nr
end
set_option maxHeartbeats 4000000
section
/-! NrTell: d.get of a written dict; is_integer, is_named, is_told. -/
namespace Nr
open PySem PySem.Spec PyProof.Rows L2 LamX NdefX
def tKGet2 (K : PySem.W.Frag) (a : Addr) (td ty tx : TE) : TE := fun σ H Q => td σ H fun x H1 => x = .ref a ∧ ty σ H1 fun y H2 => tx σ H2 fun d H3 => ∃ z u0 v0, y = .str z ∧ PySem.W.nsIn K a z = some (some u0) ∧ RelV v0 u0 ∧ Q v0 H3
section
variable {X : Cx} {a : Addr} {es : Array DictEntry} {n : Nat} {o e f : Expr} {td ty tx : TE} {apos cpos : Pos}
/-- d.get(k, x), d written, k there -/
theorem pe_kget2 (D : KDict X.K X.w a es n) (ho : PE X o td) (he : PE X e ty) (hf : PE X f tx) (m : M2 X o "get" apos e f cpos) : PE X (.Call (.Attribute o "get" apos) [e, f] [] cpos) (tKGet2 X.K a td ty tx) := by
  refine ⟨fun pins s σ H Q I h => ?_⟩
  refine wpAny_Call_method m.base m.few m.line PySem.F.plainAttrs_dict PySem.F.slot_dict_get PySem.F.type_dict_get (thn (ho.run pins s σ H _ I h) fun u s1 ⟨x, H1, I1, rx, ex, q1⟩ => ?_)
  subst ex
  obtain rfl : u = Value.ref a := rx
  refine ⟨kd_type D I1, fun b q => ?_, ?_⟩
  · cases q
    exact ⟨_, I1.kIn _ _ D.at_, rfl⟩
  rw [m.trees]
  refine Calls.callWith_builtin rfl (Calls.evalArgs_plain (Calls.spliced_cons (thn (he.run pins s1 σ H1 _ I1 q1) fun iv s2 ⟨y, H2, I2, ry, q2⟩ =>
    Calls.spliced_cons (thn (hf.run pins s2 σ H2 _ I2 q2) fun fv s3 ⟨z, H3, I3, rz, w0, u0, v0, ey, e0, r0, q3⟩ => Calls.spliced_nil ?_))))
  subst ey
  obtain ⟨t, rfl⟩ := ry
  have hm := PySem.W.mapOf_K (prog := X.prog) (w := X.w) I3.kIn D.at_ D.lit
  refine call_meetsIn PySem.F.slot_dict_get (kd_type D I3) PySem.F.entry_dict_get (PySem.F.args_dict_get_3 _ _ _) (meets_dict_get_default (strKind X.prog X.w) a (strKind_is X.prog X.w w0 t) D.low fv) ⟨_, hm, v0, H3, I3.tok _, ?_, q3⟩
  rw [PySem.W.find_K D.at_ e0]
  exact r0
end
def D.isInt : D → Bool
  | .int _ => true
  | _ => false
def D.isBl : D → Bool
  | .bl _ => true
  | _ => false
section
variable {K : PySem.W.Frag} {Pp : Addr} {cl : Str → Addr} {H : Hp}
theorem Pap.kitB (p : Pap K Pp cl) {d : D} (g : d.good) : PySem.W.kitOne K (tyD cl d) (.type "bool") = some d.isBl := by
  cases d with
  | non => exact kit_ty (r := false) (by decide +kernel)
  | bl b => exact kit_ty (r := true) (by decide +kernel)
  | int i => exact kit_ty (r := false) (by decide +kernel)
  | tup xs => exact kit_ty (r := false) (by decide +kernel)
  | pap w xs => exact p.nt w g "bool" (by decide)
theorem Pap.kitI (p : Pap K Pp cl) {d : D} (g : d.good) : PySem.W.kitOne K (tyD cl d) (.type "int") = some (d.isInt || d.isBl) := by
  cases d with
  | non => exact kit_ty (r := false) (by decide +kernel)
  | bl b => exact kit_ty (r := true) (by decide +kernel)
  | int i => exact kit_ty (r := true) (by decide +kernel)
  | tup xs => exact kit_ty (r := false) (by decide +kernel)
  | pap w xs => exact p.nt w g "int" (by decide)
theorem Pap.kitT (p : Pap K Pp cl) {d : D} (g : d.good) : PySem.W.kitOne K (tyD cl d) (.type "tuple") = some d.isTup := by
  cases d with
  | non => exact kit_ty (r := false) (by decide +kernel)
  | bl b => exact kit_ty (r := false) (by decide +kernel)
  | int i => exact kit_ty (r := false) (by decide +kernel)
  | tup xs => exact kit_ty (r := true) (by decide +kernel)
  | pap w xs => exact p.nt w g "tuple" (by decide)
def D.isPap : D → Bool
  | .pap _ _ => true
  | _ => false
theorem Pap.kitP (p : Pap K Pp cl) {d : D} (g : d.good) : PySem.W.kitOne K (tyD cl d) (.ref Pp) = some d.isPap := by
  cases d with
  | non => exact p.np "NoneType" (by decide)
  | bl b => exact p.np "bool" (by decide)
  | int i => exact p.np "int" (by decide)
  | tup xs => exact p.np "tuple" (by decide)
  | pap w xs => exact p.pp w g
def D.isNon : D → Bool
  | .non => true
  | _ => false
theorem has_non {d : D} {v : V} (h : d.has cl H v) : decide (v = V.non) = d.isNon := by
  cases d with
  | non => rw [show v = .non from h]; rfl
  | bl b => rw [show v = .bl b from h]; rfl
  | int i => rw [show v = .int i from h]; rfl
  | tup xs => obtain ⟨a, vs, e, _⟩ := h; rw [e]; rfl
  | pap w xs => obtain ⟨a, dx, fs, t, vs, e, _⟩ := h; rw [e]; rfl
end
def spIsInt (cl : Str → Addr) : Sp := fun vs H Q _ => ∃ (d : D) (v : V), vs = [v] ∧ d.has cl H v ∧ d.good ∧ ∀ H', Same H H' → Q (.bl d.isInt) H'
def spNamed (cl : Str → Addr) : Sp := fun vs H Q _ => ∃ (wd : Str) (xs : List D) (v : V), vs = [v] ∧ (D.pap wd xs).has cl H v ∧ many wd = some xs.length ∧ ∀ H', Same H H' → Q (.bl true) H'
def spTold (cl : Str → Addr) (b : Nat) : Sp := fun vs H Q _ => ∃ (d : D) (v : V), vs = [v, .int ((30 : Int) - b)] ∧ d.has cl H v ∧ d.told b ∧ d.wide ∧ ∀ H', Same H H' → Q (.bl true) H'
/-- what of Paper stands in the module -/
structure PapM (mg : Str → Option Value) (K : PySem.W.Frag) (Pp : Addr) (cl : Str → Addr) : Prop where
  g : mg "Paper" = some (.ref Pp)
  cv : ClsV (.ref Pp) (.ref Pp)
  cls : ∀ w, (many w).isSome = true → Cls K (cl w)
  n1 : ∀ w, (many w).isSome = true → NoAttr K (cl w) "word"
  n2 : ∀ w, (many w).isSome = true → NoAttr K (cl w) "parts"
section
variable {P : Program} {w : World} {K : PySem.W.Frag} {mg : Str → Option Value} {base : Heap} {Pp aM : Addr} {cl : Str → Addr}
theorem scIsInt : FnScope ["value"] ["value"] (defScope sIsInt) := ⟨rfl, rfl, rfl, by decide +kernel, rfl, by decide +kernel, by decide +kernel⟩
theorem ok_isint {f : Addr} {fd : FuncData} (p : Pap K Pp cl) (F : Fun K "is_integer" "is_integer" sIsInt f fd) (G : GF mg) : FnOk P w K mg base CX0 1 f fd ["value"] (spIsInt cl) := by
  refine F.ok scIsInt (fun vs H Q E h => ?_) (fun cdv A outer s H vs Q E hr h => ?_)
  · obtain ⟨_, _, rfl, _⟩ := h
    rfl
  · obtain ⟨d, v, rfl, hv, hg, k⟩ := h
    refine ⟨_, pss_one (ps_ret (pe_and (pe_callB call_isi (by rfl) (G.f "isinstance" (by decide +kernel)) PyProof.Rows.boot_isinstance (pa_cons (pv 0) (pa_cons (pe_bltn (v := .ty "int") (u := .type "int") (by rfl) (G.f "int" (by decide +kernel)) (by decide +kernel) rfl) pa_nil)))
      (pe_one (pe_not (pe_callB call_isi (by rfl) (G.f "isinstance" (by decide +kernel)) PyProof.Rows.boot_isinstance (pa_cons (pv 0) (pa_cons (pe_bltn (v := .ty "bool") (u := .type "bool") (by rfl) (G.f "bool" (by decide +kernel)) (by decide +kernel) rfl) pa_nil))))))), ?_⟩
    refine ⟨_, rfl, _, _, _, _, _, rfl, .ty _, .base (p.tyOf hv hg), p.kitI hg, _, rfl, ?_⟩
    cases d with
    | int i => exact iteT ⟨_, rfl, _, _, _, _, _, rfl, .ty _, .base (p.tyOf hv hg), p.kitB hg, _, rfl, k H (Same.refl H)⟩
    | bl b => exact iteT ⟨_, rfl, _, _, _, _, _, rfl, .ty _, .base (p.tyOf hv hg), p.kitB hg, _, rfl, k H (Same.refl H)⟩
    | non => exact iteF (k H (Same.refl H))
    | tup xs => exact iteF (k H (Same.refl H))
    | pap w xs => exact iteF (k H (Same.refl H))
theorem scNamed : FnScope ["value"] ["value"] (defScope sNamed) := ⟨rfl, rfl, rfl, by decide +kernel, rfl, by decide +kernel, by decide +kernel⟩
theorem ok_named {f : Addr} {fd : FuncData} (p : Pap K Pp cl) (pm : PapM mg K Pp cl) (N : GM K w mg aM) (F : Fun K "is_named" "is_named" sNamed f fd) (G : GF mg) : FnOk P w K mg base CX0 1 f fd ["value"] (spNamed cl) := by
  obtain ⟨es, nn, Dk, hk⟩ := N.kd
  refine F.ok scNamed (fun vs H Q E h => ?_) (fun cdv A outer s H vs Q E hr h => ?_)
  · obtain ⟨_, _, _, rfl, _⟩ := h
    rfl
  · obtain ⟨wd, xs, v, rfl, hv, hm, k⟩ := h
    have hsm : (many wd).isSome = true := by rw [hm]; rfl
    have hg : (D.pap wd xs).good := hsm
    refine ⟨_, pss_one (ps_ret (pe_and (pe_callB call_isi (by rfl) (G.f "isinstance" (by decide +kernel)) PyProof.Rows.boot_isinstance (pa_cons (pv 0) (pa_cons (pe_glob (v := .ref Pp) rfl pm.g rfl) pa_nil)))
      (pe_one (pe_cmpR op_eq (pe_kget2 Dk (pe_glob (v := .ref aM) rfl N.g rfl) (pe_fld (pv 0) (by rfl)) (pe_un un_neg pe_int) ⟨rfl, rfl, rfl, rfl⟩) (pe_callB call_len (by rfl) (G.f "len" (by decide +kernel)) PySem.boot_len (pa_cons (pe_fld (pv 0) (by rfl)) pa_nil)) (nomark _))))), ?_⟩
    have ht := p.tyOf hv hg
    obtain ⟨a, dx, fs, t, us, rfl, ha, l1, l2, hut, hus⟩ := hv
    refine ⟨_, rfl, _, _, _, _, _, rfl, pm.cv, .base ht, p.kitP hg, _, rfl, iteT ⟨rfl, _, rfl, a, _, dx, fs, _, rfl, ha, pm.cls wd hsm, pm.n1 wd hsm, l1, _, rfl, ?_⟩⟩
    obtain ⟨_, _, u0, _, _, e0, r0⟩ := N.get wd _ hm
    have hlen : us.length = xs.length := hasL_len hus
    refine ⟨wd, u0, .int xs.length, rfl, e0, r0, _, rfl, a, _, dx, fs, _, rfl, ha, pm.cls wd hsm, pm.n2 wd hsm, l2, _, us.length, rfl, .inr ⟨_, SqT.of hut, rfl⟩, rfl, ?_⟩
    rw [hlen, decide_eq_true rfl]
    exact k H (Same.refl H)
theorem scTold : FnScope ["value", "deep", "one"] ["value", "deep"] (defScope sTold) := ⟨rfl, rfl, rfl, by decide +kernel, rfl, by decide +kernel, by decide +kernel⟩
theorem ok_told {f fI fN : Addr} {fd fdI fdN : FuncData} (p : Pap K Pp cl) (pm : PapM mg K Pp cl) (F : Fun K "is_told" "is_told" sTold f fd) (G : GF mg) (gG : ∃ t, mg "GREAT" = some (.int (10 ^ 40) t)) (gD : ∃ t, mg "MOST_DEEP" = some (.int 30 t))
    (bF : Binds K fd ["value", "deep"] []) (mF : mg "is_told" = some (.ref f))
    (FI : Fun K "is_integer" "is_integer" sIsInt fI fdI) (OI : FnOk P w K mg base CX0 1 fI fdI ["value"] (spIsInt cl)) (bI : Binds K fdI ["value"] []) (mI : mg "is_integer" = some (.ref fI))
    (FN : Fun K "is_named" "is_named" sNamed fN fdN) (ON : FnOk P w K mg base CX0 1 fN fdN ["value"] (spNamed cl)) (bN : Binds K fdN ["value"] []) (mN : mg "is_named" = some (.ref fN)) :
    ∀ b, b ≤ 31 → FnOk P w K mg base CX0 (b + 1) f fd ["value", "deep"] (under (spTold cl) b) := by
  obtain ⟨tG, gG⟩ := gG
  obtain ⟨tD, gD⟩ := gD
  have nd := scTold.nd
  intro b
  induction b with
  | zero => exact fun _ => ⟨fun _ _ _ _ ⟨_, e, _⟩ => (nomatch e), fun _ _ _ _ _ _ _ _ _ _ _ _ _ ⟨_, e, _⟩ => (nomatch e)⟩
  | succ b ih =>
    intro hb
    have ih := ih (by omega)
    refine F.ok scTold (fun vs H Q E h => ?_) (fun cdv A outer s H vs Q E hr h => ?_)
    · obtain ⟨_, _, _, _, rfl, _⟩ := h
      rfl
    · obtain ⟨b', eb, d, v, rfl, hv, htold, hw, k⟩ := h
      obtain rfl : b = b' := by omega
      have hr1 := hr.mono (show 1 ≤ b + 1 by omega)
      have hg := told_good htold
      refine ⟨_, pss_cons (ps_if (PW.pt (pw_or (pt_cmpR op_isN (pv 0) pe_non (nomark _)) (pw_or1 (pt_val (pe_callB call_isi (by rfl) (G.f "isinstance" (by decide +kernel)) PyProof.Rows.boot_isinstance (pa_cons (pv 0) (pa_cons (pe_bltn (v := .ty "bool") (u := .type "bool") (by rfl) (G.f "bool" (by decide +kernel)) (by decide +kernel) rfl) pa_nil)))))))
          (pss_one (ps_ret pe_bl)) pss_nil)
        (pss_cons (ps_if (pt_val (pe_call OI hr1 rfl mI FI.kp bI .nil pass0 (pa_cons (pv 0) pa_nil))) (pss_one (ps_ret (pe_cmpR op_lt (pe_callB call_abs (by rfl) (G.f "abs" (by decide +kernel)) (by decide +kernel) (pa_cons (pv 0) pa_nil)) (pe_glob (v := .int (10 ^ 40)) rfl gG ⟨_, rfl⟩) (nomark _)))) pss_nil)
        (pss_cons (ps_if (pt_cmpR op_eq (pv 1) (pe_glob (v := .int 30) rfl gD ⟨_, rfl⟩) (nomark _)) (pss_one (ps_ret pe_bl)) pss_nil)
        (pss_cons (ps_if (pt_val (pe_callB call_isi (by rfl) (G.f "isinstance" (by decide +kernel)) PyProof.Rows.boot_isinstance (pa_cons (pv 0) (pa_cons (pe_bltn (v := .ty "tuple") (u := .type "tuple") (by rfl) (G.f "tuple" (by decide +kernel)) (by decide +kernel) rfl) pa_nil))))
          (pss_one (ps_ret (pe_callB (cr_all rfl) (by rfl) (G.f "all" (by decide +kernel)) (by decide +kernel) (pa_cons
            (pe_lc (own := [("one", 2)]) (g := gName 2) (tt := tYes) rfl nd (pi_tup (pv 0)) (blkOk_by (N := ["value", "deep", "one"]) (sc := defScope sTold) (by decide +kernel)) (fun _ _ _ _ _ => pg_name (i := 2) nd rfl (Or.inl rfl)) (fun _ _ _ _ _ => pts_nil)
              (fun _ _ _ _ _ => pe_call ih hr rfl mF F.kp bF .nil pass0 (pa_cons (pv 2) (pa_cons (pe_op op_add (pv 1) pe_int) pa_nil)))) pa_nil)))) pss_nil)
        (pss_one (ps_ret (pe_and (pe_call ON hr1 rfl mN FN.kp bN .nil pass0 (pa_cons (pv 0) pa_nil)) (pe_one (pe_callB (cr_all rfl) (by rfl) (G.f "all" (by decide +kernel)) (by decide +kernel) (pa_cons
            (pe_lc (own := [("one", 2)]) (g := gName 2) (tt := tYes) rfl nd (pi_tup (pe_fld (pv 0) (by rfl))) (blkOk_by (N := ["value", "deep", "one"]) (sc := defScope sTold) (by decide +kernel)) (fun _ _ _ _ _ => pg_name (i := 2) nd rfl (Or.inl rfl)) (fun _ _ _ _ _ => pts_nil)
              (fun _ _ _ _ _ => pe_call ih hr rfl mF F.kp bF .nil pass0 (pa_cons (pv 2) (pa_cons (pe_op op_add (pv 1) pe_int) pa_nil)))) pa_nil))))))))), ?_⟩
      refine ⟨_, rfl, rfl, _, rfl, ?_⟩
      rw [has_non hv]
      cases d with
      | non => exact iteT (iteT (k H (Same.refl H)))
      | bl c => exact iteF ⟨_, rfl, _, _, _, _, _, rfl, .ty _, .base (p.tyOf hv hg), p.kitB hg, _, rfl, iteT (k H (Same.refl H))⟩
      | int i =>
        refine iteF ⟨_, rfl, _, _, _, _, _, rfl, .ty _, .base (p.tyOf hv hg), p.kitB hg, _, rfl, iteF ⟨_, rfl, .int i, v, rfl, hv, hg, fun H1 s1 => ⟨_, rfl, iteT ?_⟩⟩⟩
        obtain rfl : v = .int i := hv
        refine ⟨_, rfl, i, rfl, _, _, rfl, rfl, ?_⟩
        have hi : i.natAbs < 10 ^ 40 := by
          cases b <;> exact htold
        have : (if i < 0 then -i else i) < (10 : Int) ^ 40 := by
          have e : (10 : Int) ^ 40 = ((10 ^ 40 : Nat) : Int) := by decide +kernel
          have h2 : (i.natAbs : Int) < (10 : Int) ^ 40 := by
            rw [e]
            exact Int.ofNat_lt.mpr hi
          generalize (10 : Int) ^ 40 = g at h2 ⊢
          split <;> omega
        show Q (V.bl (decide ((if i < 0 then -i else i) < (10 : Int) ^ 40))) H1
        rw [decide_eq_true this]
        exact k H1 s1
      | tup xs =>
        obtain ⟨b'', rfl⟩ : ∃ c, b = c + 1 := by
          cases b with
          | zero => exact htold.elim
          | succ c => exact ⟨c, rfl⟩
        have ht' : toldL b'' xs := htold
        have hww : xs.length ≤ 1000 ∧ wideL xs := hw
        have hw' := hww.2
        refine iteF ⟨_, rfl, _, _, _, _, _, rfl, .ty _, .base (p.tyOf hv hg), p.kitB hg, _, rfl, iteF ⟨_, rfl, .tup xs, v, rfl, hv, hg, fun H1 s1 => ⟨_, rfl, iteF ⟨_, rfl, rfl, _, rfl, ?_⟩⟩⟩⟩
        have hv1 := D.has_kept (Kept.of s1) _ hv
        rw [show decide (V.int ((30 : Int) - ((b'' + 1 : Nat) : Int)) = V.int 30) = false by
          refine decide_eq_false fun q => ?_
          have := V.int.inj q
          omega]
        refine iteF ⟨_, rfl, _, _, _, _, _, rfl, .ty _, .base (p.tyOf hv1 hg), p.kitT hg, _, rfl, iteT ?_⟩
        obtain ⟨a, us, rfl, ha1, hl⟩ := hv1
        have hlen := hasL_len hl
        refine ⟨_, rfl, a, rfl, ⟨us, SqT.of ha1⟩, fun D hD => lc_it (walk_tup (xs := us)) (fun i Hx => Hx D = some (.lst ((List.replicate i true).map V.bl)) ∧ Same H1 Hx) ⟨upd_same, same_new (Same.refl H1) hD⟩ (fun i Hx hi hP => SqT.of (hP.2 _ _ ha1)) (fun i x Hx H2 hi hP hy => ?_) (fun Hx hP => ?_)⟩
        · obtain ⟨rfl, hx⟩ := hy
          obtain ⟨hD1, hs⟩ := hP
          obtain ⟨y, hy, hyv⟩ := hasL_at hl hx
          refine ⟨rfl, _, rfl, _, rfl, _, _, rfl, rfl, b'', rfl, y, x, congrArg (fun i => [x, V.int i]) (show (30 : Int) - ((b'' + 1 : Nat) : Int) + 1 = 30 - (b'' : Int) by omega), Nr.D.has_kept (Kept.of hs) y hyv, toldL_at ht' hy, wideL_at hw' hy, fun H3 s3 => ⟨_, s3 _ _ hD1, ?_, ?_, same_new (fun b o hb => s3 b o (hs b o hb)) hD⟩⟩
          · rw [List.length_map, List.length_replicate]
            have : us.length ≤ 1000 := by omega
            exact small1000 (by omega)
          · rw [upd_same, ← List.map_singleton (f := V.bl), ← List.map_append, ← List.replicate_succ']
        · obtain ⟨hD1, hs⟩ := hP
          refine ⟨D, _, rfl, SqL.of hD1, ?_⟩
          have : (List.replicate us.length true).all id = true := by simp
          rw [this]
          exact k _ (fun b o hb => hs b o (s1 b o hb))
      | pap wd xs =>
        obtain ⟨b'', rfl⟩ : ∃ c, b = c + 1 := by
          cases b with
          | zero => exact htold.elim
          | succ c => exact ⟨c, rfl⟩
        have ht0 : many wd = some xs.length ∧ toldL b'' xs := htold
        have ht' := ht0.2
        have hw' : wideL xs := hw
        have hsm : (many wd).isSome = true := hg
        have hlx := many_le ht0.1
        refine iteF ⟨_, rfl, _, _, _, _, _, rfl, .ty _, .base (p.tyOf hv hg), p.kitB hg, _, rfl, iteF ⟨_, rfl, .pap wd xs, v, rfl, hv, hg, fun H0 s0 => ⟨_, rfl, iteF ⟨_, rfl, rfl, _, rfl, ?_⟩⟩⟩⟩
        have hv0 := D.has_kept (Kept.of s0) _ hv
        rw [show decide (V.int ((30 : Int) - ((b'' + 1 : Nat) : Int)) = V.int 30) = false by
          refine decide_eq_false fun q => ?_
          have := V.int.inj q
          omega]
        refine iteF ⟨_, rfl, _, _, _, _, _, rfl, .ty _, .base (p.tyOf hv0 hg), p.kitT hg, _, rfl, iteF ⟨_, rfl, wd, xs, v, rfl, hv0, ht0.1, fun H1 s1 => ⟨_, rfl, iteT ?_⟩⟩⟩
        have hv1 := D.has_kept (Kept.of s1) _ hv0
        obtain ⟨a, dx, fs, t, us, rfl, ha, l1, l2, ha1, hl⟩ := hv1
        have hlen := hasL_len hl
        refine ⟨_, rfl, a, _, dx, fs, _, rfl, ha, pm.cls wd hsm, pm.n2 wd hsm, l2, t, rfl, ⟨us, SqT.of ha1⟩, fun D hD => lc_it (walk_tup (xs := us)) (fun i Hx => Hx D = some (.lst ((List.replicate i true).map V.bl)) ∧ Same H1 Hx) ⟨upd_same, same_new (Same.refl H1) hD⟩ (fun i Hx hi hP => SqT.of (hP.2 _ _ ha1)) (fun i x Hx H2 hi hP hy => ?_) (fun Hx hP => ?_)⟩
        · obtain ⟨rfl, hx⟩ := hy
          obtain ⟨hD1, hs⟩ := hP
          obtain ⟨y, hy, hyv⟩ := hasL_at hl hx
          refine ⟨rfl, _, rfl, _, rfl, _, _, rfl, rfl, b'', rfl, y, x, congrArg (fun i => [x, V.int i]) (show (30 : Int) - ((b'' + 1 : Nat) : Int) + 1 = 30 - (b'' : Int) by omega), Nr.D.has_kept (Kept.of hs) y hyv, toldL_at ht' hy, wideL_at hw' hy, fun H3 s3 => ⟨_, s3 _ _ hD1, ?_, ?_, same_new (fun b o hb => s3 b o (hs b o hb)) hD⟩⟩
          · rw [List.length_map, List.length_replicate]
            have : us.length ≤ 1000 := by omega
            exact small1000 (by omega)
          · rw [upd_same, ← List.map_singleton (f := V.bl), ← List.map_append, ← List.replicate_succ']
        · obtain ⟨hD1, hs⟩ := hP
          refine ⟨D, _, rfl, SqL.of hD1, ?_⟩
          have : (List.replicate us.length true).all id = true := by simp
          rw [this]
          exact k _ (fun b o hb => hs b o ((s0.trans s1) b o hb))
end
end Nr
end
set_option maxHeartbeats 4000000
section
/-! NrWords: value_words, paper_words; has_text, paper_text. -/
namespace Nr
open PySem PySem.Spec PyProof.Rows L2 LamX NdefX
theorem flatten_take {α : Type} {xss : List (List α)} {i : Nat} {x : List α} (h : xss[i]? = some x) : (xss.take (i + 1)).flatten = (xss.take i).flatten ++ x := by
  rw [List.take_succ, h, List.flatten_append]
  simp
theorem flatten_le {α : Type} (xss : List (List α)) (i : Nat) : (xss.take i).flatten.length ≤ xss.flatten.length := by
  have h : xss.flatten = (xss.take i).flatten ++ (xss.drop i).flatten := by rw [← List.flatten_append, List.take_append_drop]
  rw [h, List.length_append]
  omega
/-- the words of all the items, one list a turn -/
theorem lc2_words {K : PySem.W.Frag} {a D : Addr} {us : List V} {v0 : V} {H1 : Hp} {Q : Hp → Prop} {ta : TE} (xss : List (List Str)) (ha : H1 a = some (.tup us)) (hD : H1 D = none) (hn : us.length = xss.length) (hz : xss.flatten.length ≤ 1000)
    (hel : ∀ (m : Nat) (v : V) (ws : List Str) (H : Hp), us[m]? = some v → xss[m]? = some ws → Same H1 H → ∀ R : VK, (∀ p H', Same H H' → H p = none → H' p = some (.lst (ws.map V.str)) → R (.ref p) H') → ta [some v0, some v, none] H R)
    (hq : ∀ H, Same H1 H → H D = some (.lst (xss.flatten.map V.str)) → Q H) :
    ∃ W : Nat → Nat → Hp → Prop, (∃ m, W 0 m (upd H1 D (.lst []))) ∧ ∀ m n H, W m n H →
      ((Itt K a).stop m H ∧ Q H) ∨ ((Itt K a).go m H ∧ ∃ Nx : Hp → Prop, (∀ H', Nx H' → ∃ n', n' < n ∧ W (m + 1) n' H') ∧ ∀ x H', (Itt K a).yld m H x H' → gName 1 x (wipe [some v0, none, none] [1, 2]) H' fun σ2 H2 => wipe σ2 [1, 2] = wipe [some v0, none, none] [1, 2] ∧ tYes σ2 H2 fun b H3 =>
        if b = true then iList K ta σ2 H3 fun J1 H4 => ∃ W1 : Nat → Nat → Hp → Prop, (∃ m, W1 0 m H4) ∧ ∀ jj k H, W1 jj k H →
          (J1.stop jj H ∧ Nx H) ∨ (J1.go jj H ∧ ∃ Nx1 : Hp → Prop, (∀ H', Nx1 H' → ∃ k', k' < k ∧ W1 (jj + 1) k' H') ∧ ∀ x H', J1.yld jj H x H' → gName 2 x (wipe σ2 [2]) H' fun σ3 H5 => wipe σ3 [2] = wipe σ2 [2] ∧ tYes σ3 H5 fun b H6 =>
            if b = true then tVar 2 σ3 H6 fun y H7 => ∃ acc, H7 D = some (.lst acc) ∧ acc.length < sizeLine ∧ Nx1 (upd H7 D (.lst (acc ++ [y]))) else Nx1 H6)
        else Nx H3) := by
  let Pv : Nat → Hp → Prop := fun m H => Same H1 H ∧ H D = some (.lst ((xss.take m).flatten.map V.str))
  refine ⟨fun m n H => n = us.length - m ∧ m ≤ us.length ∧ Pv m H, ⟨us.length, by simp, Nat.zero_le _, same_new (Same.refl H1) hD, upd_same⟩, ?_⟩
  rintro m n H ⟨rfl, hm, hs, hD1⟩
  have hat : SqT K H a us := SqT.of (hs _ _ ha)
  by_cases hlt : m < us.length
  · refine .inr ⟨⟨us, us[m], hat, by simp [hlt]⟩, Pv (m + 1), fun H' p' => ⟨us.length - (m + 1), by omega, rfl, hlt, p'⟩, fun x H' hy => ?_⟩
    obtain ⟨rfl, hx⟩ := hy
    have hx := hx us hat
    obtain ⟨ws, hws⟩ : ∃ ws, xss[m]? = some ws := ⟨_, List.getElem?_eq_getElem (by omega)⟩
    refine ⟨rfl, ?_⟩
    refine hel m x ws H' hx hws hs _ fun p H2 s2 np hp => ?_
    have hD2 := s2 _ _ hD1
    have hpD : p ≠ D := fun e => by rw [e, hD1] at np; cases np
    refine ⟨p, rfl, ⟨_, SqL.of hp⟩, ?_⟩
    refine ⟨fun j k H => k = ws.length - j ∧ j ≤ ws.length ∧ Same H1 H ∧ H D = some (.lst (((xss.take m).flatten ++ ws.take j).map V.str)) ∧ H p = some (.lst (ws.map V.str)), ⟨ws.length, by simp, Nat.zero_le _, hs.trans s2, by simpa using hD2, hp⟩, ?_⟩
    rintro j k H3 ⟨rfl, hj, hs3, hD3, hp3⟩
    have hl3 : SqL K H3 p (ws.map V.str) := SqL.of hp3
    by_cases hjl : j < ws.length
    · refine .inr ⟨⟨_, V.str ws[j], hl3, by simp [hjl]⟩, fun H => Same H1 H ∧ H D = some (.lst (((xss.take m).flatten ++ ws.take (j + 1)).map V.str)) ∧ H p = some (.lst (ws.map V.str)), fun H' p' => ⟨ws.length - (j + 1), by omega, rfl, hjl, p'⟩, fun y H' hy => ?_⟩
      obtain ⟨rfl, hyy⟩ := hy
      have hyy := hyy _ hl3
      rw [List.getElem?_map] at hyy
      obtain ⟨w', hw', rfl⟩ : ∃ w', ws[j]? = some w' ∧ y = .str w' := by
        cases q1 : ws[j]? with
        | none => rw [q1] at hyy; cases hyy
        | some y' => rw [q1] at hyy; cases hyy; exact ⟨y', rfl, rfl⟩
      refine ⟨rfl, ?_⟩
      refine ⟨_, rfl, _, hD3, ?_, same_new hs3 hD, ?_, ?_⟩
      · rw [List.length_map, List.length_append]
        have h1 := flatten_le xss (m + 1)
        rw [flatten_take hws, List.length_append] at h1
        have : (ws.take j).length ≤ ws.length := by rw [List.length_take]; omega
        exact small1000 (by omega)
      · rw [upd_same]
        rw [List.take_succ, hw', ← List.map_singleton (f := V.str), ← List.map_append, List.append_assoc]
        rfl
      · rw [upd_ne hpD]
        exact hp3
    · refine .inl ⟨⟨_, hl3, by rw [List.length_map]; omega⟩, hs3, ?_⟩
      rw [hD3, flatten_take hws, List.take_of_length_le (l := ws) (by omega)]
  · refine .inl ⟨⟨us, hat, by omega⟩, hq H hs ?_⟩
    rw [hD1, List.take_of_length_le (by omega)]
def spWords (cl : Str → Addr) (b : Nat) : Sp := fun vs H Q _ => ∃ (d : D) (v : V), vs = [v] ∧ d.has cl H v ∧ d.told b ∧ d.wide ∧ d.words.length ≤ 900 ∧ ∀ l H', Same H H' → H l = none → H' l = some (.lst (d.words.map V.str)) → Q (.ref l) H'
def spWordsP (cl : Str → Addr) (b : Nat) : Sp := fun vs H Q _ => ∃ (wd : Str) (xs : List D) (v : V), vs = [v] ∧ (D.pap wd xs).has cl H v ∧ (many wd).isSome = true ∧ toldL b xs ∧ wideL xs ∧ xs.length ≤ 1000 ∧ (wordsL xs).length ≤ 900 ∧ ∀ l H', Same H H' → H l = none → H' l = some (.lst ((wd :: wordsL xs).map V.str)) → Q (.ref l) H'
theorem wordsL_flat : ∀ xs : List D, wordsL xs = (xs.map D.words).flatten
  | [] => rfl
  | x :: xs => by rw [wordsL, List.map_cons, List.flatten_cons, wordsL_flat xs]
theorem words_at_le {xs : List D} {i : Nat} {x : D} (h : xs[i]? = some x) : x.words.length ≤ (wordsL xs).length := by
  induction xs generalizing i with
  | nil => cases h
  | cons y ys ih =>
    rw [wordsL, List.length_append]
    cases i with
    | zero => cases h; omega
    | succ i => have := ih (i := i) h; omega
theorem log40 {i : Int} (h : i.natAbs < 10 ^ 40) : i.natAbs.log2 < 1920 := by
  by_cases h0 : i.natAbs = 0
  · rw [h0]; decide
  · exact Nat.lt_of_lt_of_le ((Nat.log2_lt h0).mpr (Nat.lt_trans h (show 10 ^ 40 < 2 ^ 140 by decide +kernel))) (by decide)
section
variable {P : Program} {w : World} {K : PySem.W.Frag} {mg : Str → Option Value} {base : Heap} {Pp aM aT : Addr} {cl : Str → Addr}
theorem scWordsV : FnScope ["value", "one", "word"] ["value"] (defScope sWordsV) := ⟨rfl, rfl, rfl, by decide +kernel, rfl, by decide +kernel, by decide +kernel⟩
theorem scWordsP : FnScope ["paper", "part", "word"] ["paper"] (defScope sWordsP) := ⟨rfl, rfl, rfl, by decide +kernel, rfl, by decide +kernel, by decide +kernel⟩
theorem ok_wordsP {f fV : Addr} {fd fdV : FuncData} (pm : PapM mg K Pp cl) (F : Fun K "paper_words" "paper_words" sWordsP f fd) (FV : Fun K "value_words" "value_words" sWordsV fV fdV) (bV : Binds K fdV ["value"] []) (mV : mg "value_words" = some (.ref fV)) (b : Nat)
    (OV : FnOk P w K mg base CX0 (2 * b + 3) fV fdV ["value"] (spWords cl b)) : FnOk P w K mg base CX0 (2 * b + 4) f fd ["paper"] (spWordsP cl b) := by
  have nd := scWordsP.nd
  refine F.ok scWordsP (fun vs H Q E h => ?_) (fun cdv A outer s H vs Q E hr h => ?_)
  · obtain ⟨_, _, _, rfl, _⟩ := h
    rfl
  · obtain ⟨wd, xs, v, rfl, hv, hsm, ht, hw, hl, hn, k⟩ := h
    obtain ⟨a, dx, fs, t, us, rfl, ha, l1, l2, hut, hus⟩ := hv
    refine ⟨_, pss_one (ps_ret (pe_lst (pa_cons (pe_fld (pv 0) (by rfl)) (StX.pa_star (pe_lc2 (own := [("part", 1), ("word", 2)]) (vs1 := [2]) (g := gName 1) (g1 := gName 2) (tt := tYes) (tt1 := tYes) (wi1 := iList K (tCall (spWords cl b) [] E0 (tCons (tVar 1) tNil))) rfl nd (pi_tup (pe_fld (pv 0) (by rfl)))
        (blkOk_by (N := ["paper", "part", "word"]) (sc := defScope sWordsP) (by decide +kernel)) (by decide) (fun _ _ _ _ _ => pg_name (i := 1) nd rfl (Or.inl rfl)) (fun _ _ _ _ _ => pts_nil)
        (fun _ _ _ _ _ => pi_list (pe_call OV hr rfl mV FV.kp bV .nil pass0 (pa_cons (pv 1) pa_nil))) (fun _ _ _ _ _ => pg_name (i := 2) nd rfl (Or.inl rfl)) (fun _ _ _ _ _ => pts_nil) (fun _ _ _ _ _ => pv 2)) pa_nil)))), ?_⟩
    have hlen := hasL_len hus
    refine ⟨_, rfl, a, _, dx, fs, _, rfl, ha, pm.cls wd hsm, pm.n1 wd hsm, l1, _, rfl, a, _, dx, fs, _, rfl, ha, pm.cls wd hsm, pm.n2 wd hsm, l2, t, rfl, ⟨us, SqT.of hut⟩, fun D hD => lc2_words (us := us) (xs.map Nr.D.words) hut hD (by rw [List.length_map, hlen]) ?_ (fun m x ws Hx hx hws hs R kR => ?_) (fun Hx hs hD1 => ?_)⟩
    · rw [← wordsL_flat]; omega
    · obtain ⟨y, hy, hyv⟩ := hasL_at hus hx
      have hyw : y.words = ws := by
        rw [List.getElem?_map, hy] at hws
        exact Option.some.inj hws
      have := words_at_le hy
      exact ⟨_, rfl, y, x, rfl, Nr.D.has_kept (Kept.of hs) y hyv, toldL_at ht hy, wideL_at hw hy, by omega, fun p H' s np hp => kR p H' s np (by rw [← hyw]; exact hp)⟩
    · rw [← wordsL_flat] at hD1
      refine ⟨D, _, rfl, .inr (SqL.of hD1), ?_, fun l hl => k l _ (same_new hs (same_none hs hl)) (same_none hs hl) ?_⟩
      · rw [List.length_cons, List.length_append, List.length_map]
        exact Nat.le_trans (show _ ≤ 1000 by simp; omega) (by decide)
      · rw [upd_same, List.map_cons, List.append_nil]
theorem wordsV_step {f fP : Addr} {fd fdP : FuncData} (p : Pap K Pp cl) (pm : PapM mg K Pp cl) (N : GN K mg aT) (G : GF mg) (F : Fun K "value_words" "value_words" sWordsV f fd) (bF : Binds K fd ["value"] []) (mF : mg "value_words" = some (.ref f))
    (FP : Fun K "paper_words" "paper_words" sWordsP fP fdP) (bP : Binds K fdP ["paper"] []) (mP : mg "paper_words" = some (.ref fP)) (b : Nat)
    (OV : FnOk P w K mg base CX0 (2 * b + 1) f fd ["value"] (under (spWords cl) b)) (OP : FnOk P w K mg base CX0 (2 * b + 2) fP fdP ["paper"] (under (spWordsP cl) b)) : FnOk P w K mg base CX0 (2 * b + 3) f fd ["value"] (spWords cl b) := by
  obtain ⟨t1, g1⟩ := N.open_
  obtain ⟨t2, g2⟩ := N.close
  obtain ⟨t3, g3⟩ := N.begin_
  obtain ⟨t4, g4⟩ := N.end_
  obtain ⟨t5, g5⟩ := N.none_
  have nd := scWordsV.nd
  refine F.ok scWordsV (fun vs H Q E h => ?_) (fun cdv A outer s H vs Q E hr h => ?_)
  · obtain ⟨_, _, rfl, _⟩ := h
    rfl
  · obtain ⟨d, v, rfl, hv, htold, hw, hn, k⟩ := h
    have hr1 := hr.mono (show 2 * b + 1 ≤ 2 * b + 2 by omega)
    have hg := told_good htold
    refine ⟨_, pss_cons (ps_if (pt_cmpR op_isN (pv 0) pe_non (nomark _)) (pss_one (ps_ret (pe_lst (pa_cons (pe_glob (v := .str "none") rfl g5 ⟨_, rfl⟩) pa_nil)))) pss_nil)
      (pss_cons (ps_if (pt_val (pe_callB call_isi (by rfl) (G.f "isinstance" (by decide +kernel)) PyProof.Rows.boot_isinstance (pa_cons (pv 0) (pa_cons (pe_bltn (v := .ty "bool") (u := .type "bool") (by rfl) (G.f "bool" (by decide +kernel)) (by decide +kernel) rfl) pa_nil))))
        (pss_one (ps_ret (pe_lst (pa_cons (pe_ix ix_tup (pe_glob (v := .ref aT) rfl N.truths rfl) (pe_callTy call_int1 (by rfl) (G.f "int" (by decide +kernel)) (by decide +kernel) (pa_cons (pv 0) pa_nil)) (fun _ _ => rfl)) pa_nil)))) pss_nil)
      (pss_cons (ps_if (pt_val (pe_callB call_isi (by rfl) (G.f "isinstance" (by decide +kernel)) PyProof.Rows.boot_isinstance (pa_cons (pv 0) (pa_cons (pe_bltn (v := .ty "tuple") (u := .type "tuple") (by rfl) (G.f "tuple" (by decide +kernel)) (by decide +kernel) rfl) pa_nil))))
        (pss_one (ps_ret (pe_lst (pa_cons (pe_glob (v := .str "(") rfl g1 ⟨_, rfl⟩) (StX.pa_star (pe_lc2 (own := [("one", 1), ("word", 2)]) (vs1 := [2]) (g := gName 1) (g1 := gName 2) (tt := tYes) (tt1 := tYes) (wi1 := iList K (tCall (under (spWords cl) b) [] E0 (tCons (tVar 1) tNil))) rfl nd (pi_tup (pv 0))
          (blkOk_by (N := ["value", "one", "word"]) (sc := defScope sWordsV) (by decide +kernel)) (by decide) (fun _ _ _ _ _ => pg_name (i := 1) nd rfl (Or.inl rfl)) (fun _ _ _ _ _ => pts_nil)
          (fun _ _ _ _ _ => pi_list (pe_call OV hr1 rfl mF F.kp bF .nil pass0 (pa_cons (pv 1) pa_nil))) (fun _ _ _ _ _ => pg_name (i := 2) nd rfl (Or.inl rfl)) (fun _ _ _ _ _ => pts_nil) (fun _ _ _ _ _ => pv 2)) (pa_cons (pe_glob (v := .str ")") rfl g2 ⟨_, rfl⟩) pa_nil)))))) pss_nil)
      (pss_one (ps_ret (pe_ifExp (pt_val (pe_callB call_isi (by rfl) (G.f "isinstance" (by decide +kernel)) PyProof.Rows.boot_isinstance (pa_cons (pv 0) (pa_cons (pe_glob (v := .ref Pp) rfl pm.g rfl) pa_nil))))
        (pe_lst (pa_cons (pe_glob (v := .str "[") rfl g3 ⟨_, rfl⟩) (StX.pa_star (pe_call OP hr rfl mP FP.kp bP .nil pass0 (pa_cons (pv 0) pa_nil)) (pa_cons (pe_glob (v := .str "]") rfl g4 ⟨_, rfl⟩) pa_nil))))
        (pe_lst (pa_cons (pe_callTy call_str_int (by rfl) (G.f "str" (by decide +kernel)) (by decide +kernel) (pa_cons (pv 0) pa_nil)) pa_nil))))))), ?_⟩
    refine ⟨_, rfl, rfl, _, rfl, ?_⟩
    rw [has_non hv]
    have fin : ∀ {H1 : Hp} {xs : List V}, Same H H1 → xs = d.words.map V.str → xs.length ≤ sizeLine ∧ ∀ l, H1 l = none → Q (.ref l) (upd H1 l (.lst xs)) := fun {H1 xs} s1 e => by
      subst e
      refine ⟨?_, fun l hl => k l _ (same_new s1 (same_none s1 hl)) (same_none s1 hl) upd_same⟩
      rw [List.length_map]
      exact Nat.le_trans hn (by decide)
    cases d with
    | non => exact iteT (fin (Same.refl H) rfl)
    | bl c =>
      refine iteF ⟨_, rfl, _, _, _, _, _, rfl, .ty _, .base (p.tyOf hv hg), p.kitB hg, _, rfl, iteT ?_⟩
      obtain rfl : v = .bl c := hv
      cases c with
      | true => exact ⟨_, rfl, .inr ⟨true, rfl, aT, [.str "no", .str "yes"], 1, .str "yes", rfl, rfl, N.tup _, rfl, fin (Same.refl H) rfl⟩⟩
      | false => exact ⟨_, rfl, .inr ⟨false, rfl, aT, [.str "no", .str "yes"], 0, .str "no", rfl, rfl, N.tup _, rfl, fin (Same.refl H) rfl⟩⟩
    | int i =>
      refine iteF ⟨_, rfl, _, _, _, _, _, rfl, .ty _, .base (p.tyOf hv hg), p.kitB hg, _, rfl, iteF ⟨_, rfl, _, _, _, _, _, rfl, .ty _, .base (p.tyOf hv hg), p.kitT hg, _, rfl, iteF ⟨_, rfl, _, _, _, _, _, rfl, pm.cv, .base (p.tyOf hv hg), p.kitP hg, _, rfl, iteF ?_⟩⟩⟩
      obtain rfl : v = .int i := hv
      have hi : i.natAbs < 10 ^ 40 := by cases b <;> exact htold
      exact ⟨_, rfl, i, rfl, log40 hi, fin (Same.refl H) rfl⟩
    | tup xs =>
      obtain ⟨b'', rfl⟩ : ∃ c, b = c + 1 := by
        cases b with
        | zero => exact htold.elim
        | succ c => exact ⟨c, rfl⟩
      have ht' : toldL b'' xs := htold
      have hww : xs.length ≤ 1000 ∧ wideL xs := hw
      have hn' : (wordsL xs).length ≤ 900 := by
        rw [D.words, List.length_cons, List.length_append] at hn
        omega
      refine iteF ⟨_, rfl, _, _, _, _, _, rfl, .ty _, .base (p.tyOf hv hg), p.kitB hg, _, rfl, iteF ⟨_, rfl, _, _, _, _, _, rfl, .ty _, .base (p.tyOf hv hg), p.kitT hg, _, rfl, iteT ?_⟩⟩
      obtain ⟨a, us, rfl, ha, hus⟩ := hv
      have hlen := hasL_len hus
      refine ⟨_, rfl, a, rfl, ⟨us, SqT.of ha⟩, fun D hD => lc2_words (us := us) (xs.map Nr.D.words) ha hD (by rw [List.length_map, hlen]) (by rw [← wordsL_flat]; omega) (fun m x ws Hx hx hws hs R kR => ?_) (fun Hx hs hD1 => ?_)⟩
      · obtain ⟨y, hy, hyv⟩ := hasL_at hus hx
        have hyw : y.words = ws := by
          rw [List.getElem?_map, hy] at hws
          exact Option.some.inj hws
        have := words_at_le hy
        exact ⟨_, rfl, b'', rfl, y, x, rfl, Nr.D.has_kept (Kept.of hs) y hyv, toldL_at ht' hy, wideL_at hww.2 hy, by omega, fun p H' s np hp => kR p H' s np (by rw [← hyw]; exact hp)⟩
      · rw [← wordsL_flat] at hD1
        refine ⟨D, _, rfl, .inr (SqL.of hD1), fin hs ?_⟩
        rw [Nr.D.words]
        simp
    | pap wd xs =>
      obtain ⟨b'', rfl⟩ : ∃ c, b = c + 1 := by
        cases b with
        | zero => exact htold.elim
        | succ c => exact ⟨c, rfl⟩
      have ht0 : many wd = some xs.length ∧ toldL b'' xs := htold
      have hw' : wideL xs := hw
      have hlx := many_le ht0.1
      have hn' : (wordsL xs).length ≤ 900 := by
        rw [D.words] at hn
        simp at hn
        omega
      refine iteF ⟨_, rfl, _, _, _, _, _, rfl, .ty _, .base (p.tyOf hv hg), p.kitB hg, _, rfl, iteF ⟨_, rfl, _, _, _, _, _, rfl, .ty _, .base (p.tyOf hv hg), p.kitT hg, _, rfl, iteF ⟨_, rfl, _, _, _, _, _, rfl, pm.cv, .base (p.tyOf hv hg), p.kitP hg, _, rfl, iteT ?_⟩⟩⟩
      refine ⟨_, rfl, b'', rfl, wd, xs, v, rfl, hv, hg, ht0.2, hw', by omega, hn', fun l H' s1 nl hl => ⟨l, _, rfl, .inr (SqL.of hl), fin s1 ?_⟩⟩
      rw [D.words]
      simp
theorem ok_words {f fP : Addr} {fd fdP : FuncData} (p : Pap K Pp cl) (pm : PapM mg K Pp cl) (N : GN K mg aT) (G : GF mg) (F : Fun K "value_words" "value_words" sWordsV f fd) (bF : Binds K fd ["value"] []) (mF : mg "value_words" = some (.ref f))
    (FP : Fun K "paper_words" "paper_words" sWordsP fP fdP) (bP : Binds K fdP ["paper"] []) (mP : mg "paper_words" = some (.ref fP)) :
    ∀ b, FnOk P w K mg base CX0 (2 * b + 1) f fd ["value"] (under (spWords cl) b) ∧ FnOk P w K mg base CX0 (2 * b + 2) fP fdP ["paper"] (under (spWordsP cl) b) := by
  intro b
  induction b with
  | zero => exact ⟨⟨fun _ _ _ _ ⟨_, e, _⟩ => (nomatch e), fun _ _ _ _ _ _ _ _ _ _ _ _ _ ⟨_, e, _⟩ => (nomatch e)⟩, ⟨fun _ _ _ _ ⟨_, e, _⟩ => (nomatch e), fun _ _ _ _ _ _ _ _ _ _ _ _ _ ⟨_, e, _⟩ => (nomatch e)⟩⟩
  | succ b ih =>
    obtain ⟨i1, i2⟩ := ih
    have r1 := wordsV_step p pm N G F bF mF FP bP mP b i1 i2
    have r2 := ok_wordsP pm FP F bF mF b r1
    refine ⟨r1.imp fun vs H Q E h => ?_, r2.imp fun vs H Q E h => ?_⟩
    · obtain ⟨b', e, h⟩ := h
      obtain rfl : b = b' := by omega
      exact h
    · obtain ⟨b', e, h⟩ := h
      obtain rfl : b = b' := by omega
      exact h
end
end Nr
end
set_option maxHeartbeats 4000000
section
/-! NrText: has_text, paper_text. -/
namespace Nr
open PySem PySem.Spec PyProof.Rows L2 LamX NdefX
def spHasText (cl : Str → Addr) : Sp := fun vs H Q _ => ∃ (wd : Str) (xs : List D) (v : V), vs = [v] ∧ (D.pap wd xs).has cl H v ∧ many wd = some xs.length ∧ toldL 30 xs ∧ wideL xs ∧ ∀ H', Same H H' → Q (.bl true) H'
def spPText (cl : Str → Addr) : Sp := fun vs H Q _ => ∃ (wd : Str) (xs : List D) (v : V), vs = [v] ∧ (D.pap wd xs).has cl H v ∧ many wd = some xs.length ∧ toldL 30 xs ∧ wideL xs ∧ (wordsL xs).length ≤ 900 ∧ (∀ x ∈ wd :: wordsL xs, x.length ≤ 640) ∧
  ∀ H', Same H H' → Q (.str (Txt.join " " (wd :: wordsL xs))) H'
theorem sum_le (c : Nat) : ∀ xs : List Str, (∀ x ∈ xs, x.length ≤ c) → (xs.map (·.length)).sum ≤ xs.length * c
  | [], _ => by simp
  | x :: xs, h => by
    have := sum_le c xs fun y hy => h y (List.mem_cons_of_mem _ hy)
    have := h x (List.mem_cons_self ..)
    rw [List.map_cons, List.sum_cons, List.length_cons, Nat.succ_mul]
    omega
section
variable {P : Program} {w : World} {K : PySem.W.Frag} {mg : Str → Option Value} {base : Heap} {Pp aM aT : Addr} {cl : Str → Addr}
theorem scHasText : FnScope ["value", "part"] ["value"] (defScope sHasText) := ⟨rfl, rfl, rfl, by decide +kernel, rfl, by decide +kernel, by decide +kernel⟩
theorem scPText : FnScope ["paper"] ["paper"] (defScope sPText) := ⟨rfl, rfl, rfl, by decide +kernel, rfl, by decide +kernel, by decide +kernel⟩
theorem ok_hastext {f fT fN : Addr} {fd fdT fdN : FuncData} (pm : PapM mg K Pp cl) (F : Fun K "has_text" "has_text" sHasText f fd) (G : GF mg)
    (FT : Fun K "is_told" "is_told" sTold fT fdT) (OT : FnOk P w K mg base CX0 32 fT fdT ["value", "deep"] (under (spTold cl) 31)) (bT : Binds K fdT ["value", "deep"] []) (mT : mg "is_told" = some (.ref fT))
    (FN : Fun K "is_named" "is_named" sNamed fN fdN) (ON : FnOk P w K mg base CX0 1 fN fdN ["value"] (spNamed cl)) (bN : Binds K fdN ["value"] []) (mN : mg "is_named" = some (.ref fN)) :
    FnOk P w K mg base CX0 33 f fd ["value"] (spHasText cl) := by
  have nd := scHasText.nd
  refine F.ok scHasText (fun vs H Q E h => ?_) (fun cdv A outer s H vs Q E hr h => ?_)
  · obtain ⟨_, _, _, rfl, _⟩ := h
    rfl
  · obtain ⟨wd, xs, v, rfl, hv, hm, ht', hw', k⟩ := h
    have hsm : (many wd).isSome = true := by rw [hm]; rfl
    have hlx := many_le hm
    refine ⟨_, pss_one (ps_ret (pe_and (pe_call ON (hr.mono (by decide)) rfl mN FN.kp bN .nil pass0 (pa_cons (pv 0) pa_nil)) (pe_one (pe_callB (cr_all rfl) (by rfl) (G.f "all" (by decide +kernel)) (by decide +kernel) (pa_cons
            (pe_lc (own := [("part", 1)]) (g := gName 1) (tt := tYes) rfl nd (pi_tup (pe_fld (pv 0) (by rfl))) (blkOk_by (N := ["value", "part"]) (sc := defScope sHasText) (by decide +kernel)) (fun _ _ _ _ _ => pg_name (i := 1) nd rfl (Or.inl rfl)) (fun _ _ _ _ _ => pts_nil)
              (fun _ _ _ _ _ => pe_call OT hr rfl mT FT.kp bT .nil pass0 (pa_cons (pv 1) (pa_cons pe_int pa_nil)))) pa_nil))))), ?_⟩
    refine ⟨_, rfl, wd, xs, v, rfl, hv, hm, fun H1 s1 => ⟨_, rfl, iteT ?_⟩⟩
    have hv1 := D.has_kept (Kept.of s1) _ hv
    obtain ⟨a, dx, fs, t, us, rfl, ha, l1, l2, ha1, hl⟩ := hv1
    have hlen := hasL_len hl
    refine ⟨_, rfl, a, _, dx, fs, _, rfl, ha, pm.cls wd hsm, pm.n2 wd hsm, l2, t, rfl, ⟨us, SqT.of ha1⟩, fun D hD => lc_it (walk_tup (xs := us)) (fun i Hx => Hx D = some (.lst ((List.replicate i true).map V.bl)) ∧ Same H1 Hx) ⟨upd_same, same_new (Same.refl H1) hD⟩ (fun i Hx hi hP => SqT.of (hP.2 _ _ ha1)) (fun i x Hx H2 hi hP hy => ?_) (fun Hx hP => ?_)⟩
    · obtain ⟨rfl, hx⟩ := hy
      obtain ⟨hD1, hs⟩ := hP
      obtain ⟨y, hy, hyv⟩ := hasL_at hl hx
      refine ⟨rfl, _, rfl, 30, rfl, y, x, rfl, Nr.D.has_kept (Kept.of hs) y hyv, toldL_at ht' hy, wideL_at hw' hy, fun H3 s3 => ⟨_, s3 _ _ hD1, ?_, ?_, same_new (fun b o hb => s3 b o (hs b o hb)) hD⟩⟩
      · rw [List.length_map, List.length_replicate]
        have : us.length ≤ 1000 := by omega
        exact small1000 (by omega)
      · rw [upd_same, ← List.map_singleton (f := V.bl), ← List.map_append, ← List.replicate_succ']
    · obtain ⟨hD1, hs⟩ := hP
      refine ⟨D, _, rfl, SqL.of hD1, ?_⟩
      have : (List.replicate us.length true).all id = true := by simp
      rw [this]
      exact k _ (fun b o hb => hs b o (s1 b o hb))
theorem ok_ptext {f fH fW : Addr} {fd fdH fdW : FuncData} (F : Fun K "paper_text" "paper_text" sPText f fd)
    (FH : Fun K "has_text" "has_text" sHasText fH fdH) (OH : FnOk P w K mg base CX0 33 fH fdH ["value"] (spHasText cl)) (bH : Binds K fdH ["value"] []) (mH : mg "has_text" = some (.ref fH))
    (FW : Fun K "paper_words" "paper_words" sWordsP fW fdW) (OW : FnOk P w K mg base CX0 64 fW fdW ["paper"] (under (spWordsP cl) 31)) (bW : Binds K fdW ["paper"] []) (mW : mg "paper_words" = some (.ref fW)) :
    FnOk P w K mg base CX0 65 f fd ["paper"] (spPText cl) := by
  refine F.ok scPText (fun vs H Q E h => ?_) (fun cdv A outer s H vs Q E hr h => ?_)
  · obtain ⟨_, _, _, rfl, _⟩ := h
    rfl
  · obtain ⟨wd, xs, v, rfl, hv, hm, ht, hw, hn, hwl, k⟩ := h
    refine ⟨_, pss_cons (ps_if (pt_not (pt_val (pe_call OH (hr.mono (by decide)) rfl mH FH.kp bH .nil pass0 (pa_cons (pv 0) pa_nil)))) pss_never pss_nil)
      (pss_one (ps_ret (pe_join pe_str (pe_call OW hr rfl mW FW.kp bW .nil pass0 (pa_cons (pv 0) pa_nil))))), ?_⟩
    refine ⟨_, rfl, wd, xs, v, rfl, hv, hm, ht, hw, fun H1 s1 => ⟨_, rfl, iteF ⟨⟨_, rfl⟩, _, rfl, 30, rfl, wd, xs, v, rfl, D.has_kept (Kept.of s1) _ hv, by rw [hm]; rfl, ht, hw, Nat.le_trans (many_le hm) (by decide), hn, fun l H2 s2 nl hl => ⟨" ", l, wd :: wordsL xs, rfl, rfl, .inl (SqL.of hl), ?_, k H2 (s1.trans s2)⟩⟩⟩⟩
    have h1 := sum_le 640 _ hwl
    have h2 : (wd :: wordsL xs).length ≤ 901 := by rw [List.length_cons]; omega
    have h3 : (" " : Str).length = 1 := by decide +kernel
    rw [h3]
    have h4 : (wd :: wordsL xs).length * 640 ≤ 901 * 640 := Nat.mul_le_mul_right _ h2
    omega
end
end Nr
end
set_option maxHeartbeats 8000000
section
/-! NrPen: the law's pen: _law_pen, _law_draw, _law_pick. -/
namespace Nr
open PySem PySem.Spec PyProof.Rows L2 LamX NdefX
/-- the pen: its cells, at most n draws begun -/
def PenAt (H : Hp) (p c : Addr) (cs : List Int) (n : Nat) : Prop := ∃ (k : Nat) (r : Int), k ≤ n ∧ H p = some (.lst [.ref c, .int k, .int r]) ∧ H c = some (.lst (cs.map V.int)) ∧ cs.length ≤ 63
theorem PenAt.mono {H : Hp} {p c : Addr} {cs : List Int} {n m : Nat} (h : PenAt H p c cs n) (l : n ≤ m) : PenAt H p c cs m := by
  obtain ⟨k, r, h1, h2, h3, h4⟩ := h
  exact ⟨k, r, Nat.le_trans h1 l, h2, h3, h4⟩
theorem PenAt.ext {H H' : Hp} {p c : Addr} {cs : List Int} {n : Nat} (h : PenAt H p c cs n) (s : ExtN H H') : PenAt H' p c cs n := by
  obtain ⟨k, r, h1, h2, h3, h4⟩ := h
  exact ⟨k, r, h1, s _ _ h2 (fun _ z => nomatch z), s _ _ h3 (fun _ z => nomatch z), h4⟩
def spPen (K : PySem.W.Frag) : Sp := fun vs H Q _ => ∃ (a : Addr) (ns : List Int), vs = [.ref a] ∧ SqL K H a (ns.map V.int) ∧ ns.length ≤ 63 ∧ ∀ p c cs H', Same H H' → H p = none → PenAt H' p c cs 0 → Q (.ref p) H'
def spDraw : Sp := fun vs H Q _ => ∃ (p c : Addr) (cs : List Int) (n : Nat) (m : Int), vs = [.ref p, .int m] ∧ PenAt H p c cs n ∧ n ≤ 100000 ∧ 0 < m ∧ m < 1000000 ∧ ∀ r H', 0 ≤ r → r < m → Off p H H' → PenAt H' p c cs (n + 1) → Q (.int r) H'
theorem dp_ints {K : PySem.W.Frag} {H : Hp} : ∀ cs : List Int, DpAll K H (cs.map V.int) (cs.map PyData.int)
  | [] => .nil
  | c :: cs => .cons (.int c) (dp_ints cs)
theorem lay_ints : ∀ cs : List Int, PyData.canLayAll0 (cs.map PyData.int) = true
  | [] => rfl
  | c :: cs => by rw [List.map_cons, PyData.canLayAll0, lay_ints cs]; rfl
theorem deep_ints : ∀ cs : List Int, PyData.depthAll (cs.map PyData.int) = 0
  | [] => rfl
  | c :: cs => by rw [List.map_cons, PyData.depthAll, deep_ints cs]; rfl
theorem shaped_ints (cs : List Int) : SeqAt.shaped (.list (cs.map PyData.int)) = true := by
  unfold SeqAt.shaped
  rw [PyData.canLay0, PyData.depth, lay_ints, deep_ints]
  rfl
theorem eqv_nil_ints (cs : List Int) : PyData.eqv (.list (cs.map PyData.int)) (.list []) = cs.isEmpty := by
  cases cs with
  | nil => rfl
  | cons c cs => rfl
theorem pow64 {x : Int} (h0 : 0 ≤ x) (h1 : x < 18446744073709551616) : x.natAbs < 2 ^ 64 := by
  have : (2 : Nat) ^ 64 = 18446744073709551616 := by decide +kernel
  omega
theorem pow_b1 (x t : Int) (h0 : 0 ≤ t) (h1 : t ≤ 100000) : (x % 2147483549 + 84653 * t + 2203).natAbs < 2 ^ 64 := by
  have a := Int.emod_nonneg x (show (2147483549 : Int) ≠ 0 by decide)
  have b := Int.emod_lt_of_pos x (show (0 : Int) < 2147483549 by decide)
  exact pow64 (by omega) (by omega)
theorem pow_b2 (y t : Int) (h0 : 0 ≤ t) (h1 : t ≤ 100000) : (y % 2147483563 * (2 * t + 2203) + 57793 * t * t + 84653).natAbs < 2 ^ 64 := by
  have a := Int.emod_nonneg y (show (2147483563 : Int) ≠ 0 by decide)
  have b := Int.emod_lt_of_pos y (show (0 : Int) < 2147483563 by decide)
  generalize y % 2147483563 = z at a b ⊢
  have p1 : 0 ≤ z * (2 * t + 2203) := Int.mul_nonneg a (by omega)
  have p2 : z * (2 * t + 2203) ≤ 2147483563 * 202203 := Int.mul_le_mul (by omega) (by omega) (by omega) (by decide)
  have p3 : 0 ≤ 57793 * t * t := Int.mul_nonneg (by omega) h0
  have p4 : 57793 * t * t ≤ 5779300000 * 100000 := Int.mul_le_mul (by omega) h1 h0 (by decide)
  exact pow64 (by omega) (by omega)
section
variable {P : Program} {w : World} {K : PySem.W.Frag} {mg : Str → Option Value} {base : Heap}
theorem scDraw : FnScope ["pen", "many", "rest", "at", "cell", "mixed"] ["pen", "many"] (defScope sDraw) := ⟨rfl, rfl, rfl, by decide +kernel, rfl, by decide +kernel, by decide +kernel⟩
theorem ok_draw {f : Addr} {fd : FuncData} (F : Fun K "_law_draw" "_law_draw" sDraw f fd) (G : GF mg) : FnOk P w K mg base CX0 1 f fd ["pen", "many"] spDraw := by
  have nd := scDraw.nd
  refine F.ok scDraw (fun vs H Q E h => ?_) (fun cdv A outer s H vs Q E hr h => ?_)
  · obtain ⟨_, _, _, _, _, rfl, _⟩ := h
    rfl
  · obtain ⟨p, c, cs, n, m, rfl, hp, hn, hm, hm2, k⟩ := h
    obtain ⟨t, r0, ht, h1, h2, h3⟩ := hp
    refine ⟨_, pss_cons (ps_if (pt_cmpR op_gt (pe_ix ix_list (pv 0) pe_int (fun _ _ => rfl)) pe_int (nomark _))
        (pss_cons (ps_set (i := 2) nd rfl (.inl rfl) (pe_callTy call_int1 (by rfl) (G.f "int" (by decide +kernel)) (by decide +kernel) (pa_cons (pe_ix ix_list (pv 0) pe_int (fun _ _ => rfl)) pa_nil)))
        (pss_cons (ps_asg (pe_op op_fdiv (pv 2) (pv 1)) (pg_sub (pv 0) pe_int set_list))
        (pss_one (ps_ret (pe_op op_mod (pe_callTy call_int1 (by rfl) (G.f "int" (by decide +kernel)) (by decide +kernel) (pa_cons (pv 2) pa_nil)) (pv 1)))))) pss_nil)
      (pss_cons (ps_set (i := 3) nd rfl (.inl rfl) (pe_ix ix_list (pv 0) pe_int (fun _ _ => rfl)))
      (pss_cons (ps_asg (pe_op op_add (pv 3) pe_int) (pg_sub (pv 0) pe_int set_list))
      (pss_cons (ps_set (i := 4) nd rfl (.inl rfl) (pe_op op_add (pe_op op_mul pe_int (pv 3)) pe_int))
      (pss_cons (ps_if (pt_cmpR (op_neD hr.units) (pe_ix ix_list (pv 0) pe_int (fun _ _ => rfl)) (pe_lst pa_nil) (nomark _))
        (pss_one (ps_set (i := 4) nd rfl (.inl rfl) (pe_ix ix_list (pe_ix ix_list (pv 0) pe_int (fun _ _ => rfl)) (pe_op op_mod (pe_callTy call_int1 (by rfl) (G.f "int" (by decide +kernel)) (by decide +kernel) (pa_cons (pv 3) pa_nil))
          (pe_callB call_len_seq (by rfl) (G.f "len" (by decide +kernel)) PySem.boot_len (pa_cons (pe_ix ix_list (pv 0) pe_int (fun _ _ => rfl)) pa_nil))) (fun _ _ => rfl)))) pss_nil)
      (pss_cons (ps_if (PW.pt (pw_and (pt_cmpR op_lt (pv 3) (pe_callB call_len_seq (by rfl) (G.f "len" (by decide +kernel)) PySem.boot_len (pa_cons (pe_ix ix_list (pv 0) pe_int (fun _ _ => rfl)) pa_nil)) (nomark _))
          (pw_and1 (pt_cmpR op_ge (pe_callB call_abs (by rfl) (G.f "abs" (by decide +kernel)) (by decide +kernel) (pa_cons (pv 4) pa_nil)) (pe_op op_pow pe_int pe_int) (nomark _)))))
        (pss_cons (ps_set (i := 2) nd rfl (.inl rfl) (pe_op op_add (pe_op op_mul pe_int (pe_op op_sub (pe_callB call_abs (by rfl) (G.f "abs" (by decide +kernel)) (by decide +kernel) (pa_cons (pv 4) pa_nil)) (pe_op op_pow pe_int pe_int)))
          (pe_callTy call_int1 (by rfl) (G.f "int" (by decide +kernel)) (by decide +kernel) (pa_cons (pe_cmpR op_lt (pv 4) pe_int (nomark _)) pa_nil))))
        (pss_cons (ps_asg (pe_op op_fdiv (pe_callTy call_int1 (by rfl) (G.f "int" (by decide +kernel)) (by decide +kernel) (pa_cons (pv 2) pa_nil)) (pv 1)) (pg_sub (pv 0) pe_int set_list))
        (pss_one (ps_ret (pe_op op_mod (pe_callTy call_int1 (by rfl) (G.f "int" (by decide +kernel)) (by decide +kernel) (pa_cons (pv 2) pa_nil)) (pv 1)))))) pss_nil)
      (pss_cons (ps_set (i := 5) nd rfl (.inl rfl) (pe_op op_mod (pe_callTy call_int1 (by rfl) (G.f "int" (by decide +kernel)) (by decide +kernel) (pa_cons (pe_op op_pow (pe_op op_add (pe_op op_add (pe_op op_mod (pe_callTy call_int1 (by rfl) (G.f "int" (by decide +kernel)) (by decide +kernel) (pa_cons (pv 4) pa_nil)) pe_int) (pe_op op_mul pe_int (pv 3))) pe_int) pe_int) pa_nil)) pe_int))
      (pss_cons (ps_set (i := 5) nd rfl (.inl rfl) (pe_op op_mod (pe_callTy call_int1 (by rfl) (G.f "int" (by decide +kernel)) (by decide +kernel) (pa_cons (pe_op op_pow (pe_op op_add (pe_op op_add (pe_op op_mul (pv 5) (pe_op op_add (pe_op op_mul pe_int (pv 3)) pe_int)) (pe_op op_mul (pe_op op_mul pe_int (pv 3)) (pv 3))) pe_int) pe_int) pa_nil)) pe_int))
      (pss_one (ps_ret (pe_op op_mod (pe_callTy call_int1 (by rfl) (G.f "int" (by decide +kernel)) (by decide +kernel) (pa_cons (pe_op op_fdiv (pv 5) pe_int) pa_nil)) (pv 1))))))))))), ?_⟩
    have hcp : c ≠ p := fun e => by
      rw [e, h1] at h2
      have := HO.lst.inj (Option.some.inj h2)
      cases cs with
      | nil => cases this
      | cons x xs => cases this
    refine ⟨_, rfl, p, [.ref c, .int t, .int r0], 2, _, rfl, rfl, SqL.of h1, rfl, _, _, rfl, rfl, _, rfl, ?_⟩
    by_cases c0 : r0 > 0
    · rw [decide_eq_true c0]
      refine iteT ⟨_, rfl, p, [.ref c, .int t, .int r0], 2, _, rfl, rfl, SqL.of h1, rfl, .inl ⟨r0, rfl, ?_⟩⟩
      refine ⟨_, rfl, _, rfl, _, _, rfl, rfl, ⟨hm, by omega⟩, _, rfl, p, [.ref c, .int t, .int r0], 2, 2, rfl, rfl, h1, rfl, ?_⟩
      refine ⟨_, rfl, .inl ⟨r0, rfl, _, rfl, _, _, rfl, rfl, hm, k _ _ (Int.emod_nonneg _ (by omega)) (Int.emod_lt_of_pos _ hm) (fun b o hb e => by rw [upd_ne hb]; exact e) ⟨t, r0 / m, by omega, ?_, ?_, h3⟩⟩⟩
      · rw [upd_same]; rfl
      · rw [upd_ne hcp]; exact h2
    · rw [decide_eq_false c0]
      refine iteF ⟨_, rfl, p, [.ref c, .int t, .int r0], 1, _, rfl, rfl, SqL.of h1, rfl, _, rfl, _, _, rfl, rfl, _, rfl, p, [.ref c, .int t, .int r0], 1, 1, rfl, rfl, h1, rfl, ?_⟩
      have g1 : upd H p (.lst ([V.ref c, .int t, .int r0].set 1 (.int (t + 1)))) p = some (.lst [.ref c, .int ((t + 1 : Nat) : Int), .int r0]) := by
        rw [upd_same]; rfl
      have g2 : upd H p (.lst ([V.ref c, .int t, .int r0].set 1 (.int (t + 1)))) c = some (.lst (cs.map V.int)) := by
        rw [upd_ne hcp]; exact h2
      have go : Off p H (upd H p (.lst ([V.ref c, .int t, .int r0].set 1 (.int (t + 1))))) := fun b o hb e => by
        rw [upd_ne hb]; exact e
      generalize upd H p (.lst ([V.ref c, .int t, .int r0].set 1 (.int (t + 1)))) = H1 at g1 g2 go ⊢
      refine ⟨_, rfl, _, _, rfl, rfl, .inl ⟨by decide, by decide⟩, _, _, rfl, rfl, ?_⟩
      refine ⟨_, rfl, p, _, 0, _, rfl, rfl, SqL.of g1, rfl, (show 0 ≤ sizeLine by decide), fun q hq => ?_⟩
      have s2 : Same H1 (upd H1 q (.lst [])) := same_new (Same.refl H1) hq
      have hq2 : upd H1 q (.lst []) q = some (.lst []) := upd_same
      have g1' := s2 _ _ g1
      have g2' := s2 _ _ g2
      have go' : Off p H (upd H1 q (.lst [])) := fun b o hb e => s2 _ _ (go b o hb e)
      generalize upd H1 q (.lst []) = H2 at hq2 g1' g2' go' ⊢
      refine ⟨_, _, .lst (SqL.of g2') (dp_ints cs), .lst (SqL.of hq2) .nil, shaped_ints cs, rfl, _, rfl, ?_⟩
      rw [eqv_nil_ints]
      have ht0 : (0 : Int) ≤ (t : Int) := Int.natCast_nonneg t
      have ht1 : (t : Int) ≤ 100000 := by omega
      have pen' : ∀ (H3 : Hp) (r : Int), H3 p = some (.lst [.ref c, .int ((t + 1 : Nat) : Int), .int r]) → H3 c = some (.lst (cs.map V.int)) → PenAt H3 p c cs (n + 1) := fun H3 r e1 e2 => ⟨t + 1, r, by omega, e1, e2, h3⟩
      cases hcs : cs.isEmpty with
      | false =>
        have hlen : 0 < cs.length := by
          cases cs with
          | nil => cases hcs
          | cons x xs => simp
        have hmod0 := Int.emod_nonneg (t : Int) (show (cs.length : Int) ≠ 0 by omega)
        have hmod1 := Int.emod_lt_of_pos (t : Int) (show (0 : Int) < (cs.length : Int) by omega)
        obtain ⟨cell, hcell⟩ : ∃ cell, cs[((t : Int) % (cs.length : Int)).toNat]? = some cell := ⟨_, List.getElem?_eq_getElem (by omega)⟩
        have hat : atI (cs.map V.int) ((t : Int) % ((cs.map V.int).length : Int)) = some (.int cell) := by
          rw [List.length_map]
          have e : (t : Int) % (cs.length : Int) = ((((t : Int) % (cs.length : Int)).toNat : Nat) : Int) := by omega
          rw [e]
          exact atI_nat (by rw [List.getElem?_map, hcell]; rfl)
        refine iteT ⟨_, rfl, p, _, 0, _, rfl, rfl, SqL.of g1', rfl, _, rfl, .inl ⟨_, rfl, _, rfl, p, _, 0, _, rfl, rfl, SqL.of g1', rfl, c, _, rfl, .inl (SqL.of g2'), _, _, rfl, rfl, by rw [List.length_map]; omega, c, _, _, _, rfl, rfl, SqL.of g2', hat, ?_⟩⟩
        refine ⟨_, rfl, _, rfl, p, _, 0, _, rfl, rfl, SqL.of g1', rfl, c, _, rfl, .inl (SqL.of g2'), _, _, rfl, rfl, _, rfl, ?_⟩
        have b1 := pow_b1 cell t ht0 ht1
        have b2 := pow_b2 ((cell % 2147483549 + 84653 * (t : Int) + 2203) ^ (5 : Int).toNat) t ht0 ht1
        by_cases c1 : (t : Int) < ((cs.map V.int).length : Int)
        · rw [decide_eq_true c1]
          refine iteT ⟨_, rfl, cell, rfl, _, _, rfl, rfl, ⟨by decide, by decide, by decide +kernel⟩, _, _, rfl, rfl, _, rfl, ?_⟩
          by_cases c2 : (if cell < 0 then -cell else cell) ≥ (10 : Int) ^ (18 : Int).toNat
          · rw [decide_eq_true c2]
            refine iteT ⟨_, rfl, cell, rfl, _, _, rfl, rfl, ⟨by decide, by decide, by decide +kernel⟩, _, _, rfl, rfl, _, _, rfl, rfl, .inl ⟨by decide, by decide⟩, _, rfl, _, _, rfl, rfl, .inr ⟨_, rfl, _, _, rfl, rfl, ?_⟩⟩
            refine ⟨_, rfl, .inl ⟨_, rfl, _, rfl, _, _, rfl, rfl, ⟨hm, by omega⟩, _, rfl, p, _, 2, 2, rfl, rfl, g1', rfl, ?_⟩⟩
            refine ⟨_, rfl, .inl ⟨_, rfl, _, rfl, _, _, rfl, rfl, hm, k _ _ (Int.emod_nonneg _ (by omega)) (Int.emod_lt_of_pos _ hm) (fun b o hb e => by rw [upd_ne hb]; exact go' b o hb e) ?_⟩⟩
            exact pen' _ _ (by rw [upd_same]; rfl) (by rw [upd_ne hcp]; exact g2')
          · rw [decide_eq_false c2]
            refine iteF ?_
            refine ⟨_, rfl, .inl ⟨cell, rfl, _, _, rfl, rfl, (show (0 : Int) < 2147483549 by decide), _, rfl, _, _, rfl, rfl, .inl ⟨by decide, by decide⟩, _, _, rfl, rfl, _, _, rfl, rfl, _, _, rfl, rfl, ⟨by decide, by decide, b1⟩, .inl ⟨_, rfl, _, _, rfl, rfl, (show (0 : Int) < 2147483563 by decide), ?_⟩⟩⟩
            have z0 := Int.emod_nonneg ((cell % 2147483549 + 84653 * (t : Int) + 2203) ^ (5 : Int).toNat) (show (2147483563 : Int) ≠ 0 by decide)
            have z1 := Int.emod_lt_of_pos ((cell % 2147483549 + 84653 * (t : Int) + 2203) ^ (5 : Int).toNat) (show (0 : Int) < 2147483563 by decide)
            refine ⟨_, rfl, _, rfl, _, _, rfl, rfl, .inl ⟨by decide, by decide⟩, _, _, rfl, rfl, _, _, rfl, rfl, .inl ⟨by omega, by omega⟩, _, rfl, _, _, rfl, rfl, .inl ⟨by decide, by decide⟩, _, rfl, _, _, rfl, rfl, .inr ⟨by omega, by omega⟩, _, _, rfl, rfl, _, _, rfl, rfl, _, _, rfl, rfl, ⟨by decide, by decide, b2⟩, .inl ⟨_, rfl, _, _, rfl, rfl, (show (0 : Int) < 2147483587 by decide), ?_⟩⟩
            refine ⟨_, rfl, _, _, rfl, rfl, ⟨by decide, by decide⟩, .inl ⟨_, rfl, _, rfl, _, _, rfl, rfl, hm, k _ _ (Int.emod_nonneg _ (by omega)) (Int.emod_lt_of_pos _ hm) go' (pen' _ _ g1' g2')⟩⟩
        · rw [decide_eq_false c1]
          refine iteF ?_
          refine ⟨_, rfl, .inl ⟨cell, rfl, _, _, rfl, rfl, (show (0 : Int) < 2147483549 by decide), _, rfl, _, _, rfl, rfl, .inl ⟨by decide, by decide⟩, _, _, rfl, rfl, _, _, rfl, rfl, _, _, rfl, rfl, ⟨by decide, by decide, b1⟩, .inl ⟨_, rfl, _, _, rfl, rfl, (show (0 : Int) < 2147483563 by decide), ?_⟩⟩⟩
          have z0 := Int.emod_nonneg ((cell % 2147483549 + 84653 * (t : Int) + 2203) ^ (5 : Int).toNat) (show (2147483563 : Int) ≠ 0 by decide)
          have z1 := Int.emod_lt_of_pos ((cell % 2147483549 + 84653 * (t : Int) + 2203) ^ (5 : Int).toNat) (show (0 : Int) < 2147483563 by decide)
          refine ⟨_, rfl, _, rfl, _, _, rfl, rfl, .inl ⟨by decide, by decide⟩, _, _, rfl, rfl, _, _, rfl, rfl, .inl ⟨by omega, by omega⟩, _, rfl, _, _, rfl, rfl, .inl ⟨by decide, by decide⟩, _, rfl, _, _, rfl, rfl, .inr ⟨by omega, by omega⟩, _, _, rfl, rfl, _, _, rfl, rfl, _, _, rfl, rfl, ⟨by decide, by decide, b2⟩, .inl ⟨_, rfl, _, _, rfl, rfl, (show (0 : Int) < 2147483587 by decide), ?_⟩⟩
          refine ⟨_, rfl, _, _, rfl, rfl, ⟨by decide, by decide⟩, .inl ⟨_, rfl, _, rfl, _, _, rfl, rfl, hm, k _ _ (Int.emod_nonneg _ (by omega)) (Int.emod_lt_of_pos _ hm) go' (pen' _ _ g1' g2')⟩⟩
      | true =>
        refine iteF ?_
        refine ⟨_, rfl, _, rfl, p, _, 0, _, rfl, rfl, SqL.of g1', rfl, c, _, rfl, .inl (SqL.of g2'), _, _, rfl, rfl, _, rfl, ?_⟩
        have b1 := pow_b1 (57793 * (t : Int) + 31013) t ht0 ht1
        have b2 := pow_b2 (((57793 * (t : Int) + 31013) % 2147483549 + 84653 * (t : Int) + 2203) ^ (5 : Int).toNat) t ht0 ht1
        have c1 : ¬ (t : Int) < ((cs.map V.int).length : Int) := by
          rw [List.isEmpty_iff.mp hcs]
          exact Int.not_lt.mpr ht0
        · rw [decide_eq_false c1]
          refine iteF ?_
          refine ⟨_, rfl, .inl ⟨(57793 * (t : Int) + 31013), rfl, _, _, rfl, rfl, (show (0 : Int) < 2147483549 by decide), _, rfl, _, _, rfl, rfl, .inl ⟨by decide, by decide⟩, _, _, rfl, rfl, _, _, rfl, rfl, _, _, rfl, rfl, ⟨by decide, by decide, b1⟩, .inl ⟨_, rfl, _, _, rfl, rfl, (show (0 : Int) < 2147483563 by decide), ?_⟩⟩⟩
          have z0 := Int.emod_nonneg (((57793 * (t : Int) + 31013) % 2147483549 + 84653 * (t : Int) + 2203) ^ (5 : Int).toNat) (show (2147483563 : Int) ≠ 0 by decide)
          have z1 := Int.emod_lt_of_pos (((57793 * (t : Int) + 31013) % 2147483549 + 84653 * (t : Int) + 2203) ^ (5 : Int).toNat) (show (0 : Int) < 2147483563 by decide)
          refine ⟨_, rfl, _, rfl, _, _, rfl, rfl, .inl ⟨by decide, by decide⟩, _, _, rfl, rfl, _, _, rfl, rfl, .inl ⟨by omega, by omega⟩, _, rfl, _, _, rfl, rfl, .inl ⟨by decide, by decide⟩, _, rfl, _, _, rfl, rfl, .inr ⟨by omega, by omega⟩, _, _, rfl, rfl, _, _, rfl, rfl, _, _, rfl, rfl, ⟨by decide, by decide, b2⟩, .inl ⟨_, rfl, _, _, rfl, rfl, (show (0 : Int) < 2147483587 by decide), ?_⟩⟩
          refine ⟨_, rfl, _, _, rfl, rfl, ⟨by decide, by decide⟩, .inl ⟨_, rfl, _, rfl, _, _, rfl, rfl, hm, k _ _ (Int.emod_nonneg _ (by omega)) (Int.emod_lt_of_pos _ hm) go' (pen' _ _ g1' g2')⟩⟩
end
end Nr
end
set_option maxHeartbeats 4000000
section
/-! NrPick: _law_pen, _law_pick. -/
namespace Nr
open PySem PySem.Spec PyProof.Rows L2 LamX NdefX
/-- some[i], i any -/
def spPick (K : PySem.W.Frag) : Sp := fun vs H Q _ => ∃ (p c : Addr) (cs : List Int) (n : Nat) (l : Addr) (us : List V), vs = [.ref p, .ref l] ∧ PenAt H p c cs n ∧ n ≤ 100000 ∧ H l = some (.lst us) ∧ 0 < us.length ∧ us.length < 1000000 ∧ l ≠ p ∧
  ∀ (i : Nat) v H', us[i]? = some v → Off p H H' → PenAt H' p c cs (n + 1) → Q v H'
section
variable {P : Program} {w : World} {K : PySem.W.Frag} {mg : Str → Option Value} {base : Heap}
theorem scPick : FnScope ["pen", "some"] ["pen", "some"] (defScope sPick) := ⟨rfl, rfl, rfl, by decide +kernel, rfl, by decide +kernel, by decide +kernel⟩
theorem ok_pick {f fD : Addr} {fd fdD : FuncData} (F : Fun K "_law_pick" "_law_pick" sPick f fd) (G : GF mg) (FD : Fun K "_law_draw" "_law_draw" sDraw fD fdD) (bD : Binds K fdD ["pen", "many"] []) (mD : mg "_law_draw" = some (.ref fD)) (OD : FnOk P w K mg base CX0 1 fD fdD ["pen", "many"] spDraw) :
    FnOk P w K mg base CX0 2 f fd ["pen", "some"] (spPick K) := by
  refine F.ok scPick (fun vs H Q E h => ?_) (fun cdv A outer s H vs Q E hr h => ?_)
  · obtain ⟨_, _, _, _, _, _, rfl, _⟩ := h
    rfl
  · obtain ⟨p, c, cs, n, l, us, rfl, hp, hn, hl, h0, h1, hlp, k⟩ := h
    refine ⟨_, pss_one (ps_ret (pe_ix ix_list (pv 1) (pe_call OD hr rfl mD FD.kp bD .nil pass0 (pa_cons (pv 0) (pa_cons (pe_callB call_len_seq (by rfl) (G.f "len" (by decide +kernel)) PySem.boot_len (pa_cons (pv 1) pa_nil)) pa_nil))) (fun _ _ => rfl))), ?_⟩
    refine ⟨_, rfl, _, rfl, _, rfl, l, us, rfl, .inl (SqL.of hl), p, c, cs, n, us.length, rfl, hp, hn, by omega, by omega, fun r H' r0 r1 ho hp' => ?_⟩
    obtain ⟨v, hv⟩ : ∃ v, us[r.toNat]? = some v := ⟨_, List.getElem?_eq_getElem (by omega)⟩
    have e : r = ((r.toNat : Nat) : Int) := by omega
    refine ⟨l, us, r, v, rfl, rfl, SqL.of (ho _ _ hlp hl), by rw [e]; exact atI_nat hv, k r.toNat v H' hv ho hp'⟩
theorem scPen : FnScope ["script", "cell"] ["script"] (defScope sPen) := ⟨rfl, rfl, rfl, by decide +kernel, rfl, by decide +kernel, by decide +kernel⟩
theorem ok_pen {f : Addr} {fd : FuncData} (F : Fun K "_law_pen" "_law_pen" sPen f fd) (G : GF mg) : FnOk P w K mg base CX0 1 f fd ["script"] (spPen K) := by
  have nd := scPen.nd
  refine F.ok scPen (fun vs H Q E h => ?_) (fun cdv A outer s H vs Q E hr h => ?_)
  · obtain ⟨_, _, rfl, _⟩ := h
    rfl
  · obtain ⟨a, ns, rfl, ha, hn, k⟩ := h
    refine ⟨_, pss_one (ps_ret (pe_lst (pa_cons (pe_lc (own := [("cell", 1)]) (g := gName 1) (tt := tYes) rfl nd (pi_list (pe_slice sl_list (pv 0) po_none (po_some pe_int))) (blkOk_by (N := ["script", "cell"]) (sc := defScope sPen) (by decide +kernel)) (fun _ _ _ _ _ => pg_name (i := 1) nd rfl (Or.inl rfl)) (fun _ _ _ _ _ => pts_nil)
      (fun _ _ _ _ _ => pe_callTy call_int1 (by rfl) (G.f "int" (by decide +kernel)) (by decide +kernel) (pa_cons (pv 1) pa_nil))) (pa_cons pe_int (pa_cons pe_int pa_nil))))), ?_⟩
    obtain ⟨cs, hcs, hlen⟩ : ∃ cs : List Int, cutV (ns.map V.int) none (some 63) = cs.map V.int ∧ cs.length ≤ 63 := by
      refine ⟨(ns.drop (HT.sIx (ns.map V.int).length 0 none)).take (HT.sIx (ns.map V.int).length (ns.map V.int).length (some 63) - HT.sIx (ns.map V.int).length 0 none), ?_, ?_⟩
      · unfold cutV
        rw [List.map_take, List.map_drop]
      · rw [List.length_take, List.length_drop]
        omega
    refine ⟨_, rfl, _, rfl, a, ns.map V.int, rfl, ha, fun q hq => ?_⟩
    rw [hcs]
    have s1 : Same H (upd H q (.lst (cs.map V.int))) := same_new (Same.refl H) hq
    refine ⟨q, rfl, ⟨_, SqL.of upd_same⟩, fun D hD => lc_it (walk_list (xs := cs.map V.int)) (fun i Hx => Hx D = some (.lst ((cs.take i).map V.int)) ∧ Same (upd H q (.lst (cs.map V.int))) Hx) ⟨upd_same, same_new (Same.refl _) hD⟩ (fun i Hx hi hP => SqL.of (hP.2 _ _ upd_same)) (fun i x Hx H2 hi hP hy => ?_) (fun Hx hP => ?_)⟩
    · obtain ⟨rfl, hx⟩ := hy
      obtain ⟨hD1, hs⟩ := hP
      rw [List.getElem?_map] at hx
      obtain ⟨z, hz, rfl⟩ : ∃ z, cs[i]? = some z ∧ x = .int z := by
        cases q1 : cs[i]? with
        | none => rw [q1] at hx; cases hx
        | some y => rw [q1] at hx; cases hx; exact ⟨y, rfl, rfl⟩
      refine ⟨rfl, _, rfl, .inl ⟨z, rfl, _, hD1, ?_, ?_, same_new hs hD⟩⟩
      · rw [List.length_map, List.length_take]
        exact small1000 (by omega)
      · rw [upd_same, List.take_succ, hz, List.map_append]
        rfl
    · obtain ⟨hD1, hs⟩ := hP
      rw [List.take_of_length_le (by simp)] at hD1
      refine ⟨(show 3 ≤ sizeLine by decide), fun l hl => k l D cs _ (same_new (fun b o e => hs _ _ (s1 b o e)) (same_none (fun b o e => hs _ _ (s1 b o e)) hl)) (same_none (fun b o e => hs _ _ (s1 b o e)) hl) ⟨0, 0, Nat.le_refl _, upd_same, ?_, hlen⟩⟩
      rw [upd_ne (ne_of_none hD1 hl)]
      exact hD1
end
end Nr
end
set_option maxHeartbeats 2000000
section
/-! NrLamD: f(lambda y=0: e), the lambda capturing nothing. -/
namespace PySem.W
open PySem PySem.Spec PySem.Calls PyProof.Rows
/-- a lambda's words with its defaults -/
abbrev ld_fn (qual : Str) (params : Arguments) (body : Expr) (scope : Scope) (dV pm cdv ct : Value) : FuncData :=
  { name := "<lambda>", qualname := qual, params, body := .expr body, scope, globals := mainGlobals, closure := [], defaults := dV, kwdefaults := .none, doc := .none, pyModule := pm, annotations := none, code := cdv, closureTuple := ct, builtins := builtinsNs }
abbrev ld_obj (qual : Str) (params : Arguments) (body : Expr) (scope : Scope) (dV pm : Value) (c' : Addr) (ctv : Value) : Obj := { cls := .type "function", data := .func (ld_fn qual params body scope dV pm (.ref c') ctv) }
section
variable {M : Model} {A : Around} {E : Value → Shared → Prop} {s : Shared} {qual : Str} {params : Arguments} {body : Expr} {scope : Scope} {env : Env} {c P : Addr} {ps : Array Value} {pos : Pos} {firstLine : Nat} {mg : Str → Option Value} {dV : Value} {Q : Value → Shared → Prop}
theorem ld_tail (hcl : closureFor scope env = pure []) (hge0 : env.globals = mainGlobals) (hg : s.heap.Ns mainGlobals mg) (hcode : env.code = .ref c) (C : CodeHd s.heap c P) (hP : s.heap.get? P = some (tabObj ps)) (ht : TriplesOk ps.toList)
    (hgP : mainGlobals ≠ P) (hb : s.heap.BuiltinsAt mg P)
    (hnew : codeAmong pos ps.toList = none → ∀ c' ctv h' tk, Heap.ExtBut P s.heap h' → s.heap.objs.size ≤ c' → c' < h'.objs.size → h'.CodeRec (.ref c') qual → h'.get? P = some (tabObj (ps ++ #[rawInt pos.line, rawInt pos.col, .ref c'])) →
      Q (.ref h'.objs.size) { s with heap := h'.push (ld_obj qual params body scope dV ((mg "__name__").getD .none) c' ctv), toks := tk })
    (hhit : ∀ cv, codeAmong pos ps.toList = some cv → ∀ (ctv : Value),
      Q (.ref s.heap.objs.size) { s with heap := s.heap.push { cls := .type "function", data := .func (ld_fn qual params body scope dV ((mg "__name__").getD .none) cv ctv) } }) :
    wpAny M A (makeTail "<lambda>" qual params (.expr body) scope env dV .none none pos firstLine) Q E s := by
  obtain ⟨bm, ob, b1, b2, _, b3, b4, b5, b6, b7⟩ := hb
  unfold makeTail
  rw [hcl, hge0]
  refine wpAny_bind (wpAny_pure ?_)
  simp only [List.isEmpty_nil, if_true]
  refine wpAny_bind (wpAny_pure ?_)
  cases hc : codeAmong pos ps.toList with
  | none =>
    refine wpAny_bind (wpAny_functionCodeX hcode (C.code hP ht) (C.tab hP) hc fun c' h' tk hx hge hlt _ hrec htb _ => ?_)
    have hg' := hg.extBut hx hgP
    refine wpAny_bind (wpAny_builtinsFor hg' b1 b2 (hx _ _ b3 b4) b5 b6 b7 ?_)
    refine wpAny_bind (wpAny_nsGet hg' ?_)
    exact wpAny_bind (wpAny_pure (wpAny_newObj_type (hnew hc c' .none h' tk hx hge hlt hrec htb.2) (by size_fits)))
  | some cv =>
    refine wpAny_bind (wpAny_functionCode_hit hcode (C.code hP ht) hc ?_)
    refine wpAny_bind (wpAny_builtinsFor hg b1 b2 b4 b5 b6 b7 ?_)
    refine wpAny_bind (wpAny_nsGet hg ?_)
    exact wpAny_bind (wpAny_pure (wpAny_newObj_type (hhit cv hc .none) (by size_fits)))
end
end PySem.W
namespace Nr
open PySem PySem.Spec PyProof.Rows L2 LamX NdefX
/-- the words of such a lambda -/
abbrev nfD (X : Cx) (params : Arguments) (scope : Scope) (c' : Addr) : NF := ⟨"<lambda>", X.env.qual ++ "<lambda>", params, [], scope, [], c'⟩
section
variable {X : Cx} {pins : List (Addr × Obj)} {σ : L2.St} {H : Hp} {s : Shared}
/-- the lambda is made; its one default is an int -/
theorem lam_makeD {T : List (Addr × Str)} {c P : Addr} {params : Arguments} {body : Expr} {scope : Scope} {pos dpos : Pos} {dk : Nat} {dj : Int} {E : Value → Shared → Prop} {Q : Value → Shared → Prop} (I : Inv X pins σ H s) (TB : TabB X.base X.mg c P) (hcode : X.env.code = .ref c)
    (hm : (P, X.env.qual ++ "<lambda>") ∈ T) (hu : ∀ p ∈ T, p.1 = P → p.2 = X.env.qual ++ "<lambda>") (hT : Tabs T H) (hdef : defaultsOf params X.env = ([eval (.Constant (.int dj) dk dpos) X.env], [])) (hkw : params.kwonlyargs = [])
    (hfree : ∀ y ∈ scope.names, y.2 ≠ .free)
    (h : ∀ (f c' td : Addr) (tt : Tok) (pm ctv : Value) (H1 : Hp) (s' : Shared), Inv X pins σ H1 s' → ExtN H H1 → Tabs T H1 →
      s'.heap.get? f = some (PySem.W.ld_obj (X.env.qual ++ "<lambda>") params body scope (.ref td) pm c' ctv) → H1 f = none → f ∉ frs X.stack →
      s'.heap.get? td = some { cls := .type "tuple", data := .seq #[.int dj tt] } → H1 td = none → td ∉ frs X.stack → H1 c' = some (CodeO c' (X.env.qual ++ "<lambda>")) → Q (.ref f) s') :
    wpAny (model X.prog X.w) X.A (eval (.Lambda params body scope pos) X.env) Q E s := by
  have nofr : ∀ f, s.heap.objs.size ≤ f → f ∉ frs X.stack := fun f hf z => by
    rcases List.mem_cons.mp (I.stkSub _ z) with e | e
    · have h1 := I.lt
      rw [← e] at h1
      exact Nat.lt_irrefl _ (Nat.lt_of_lt_of_le h1 hf)
    · exact I.nofs hf e
  rw [arm_eval_Lambda, hdef]
  show wpAny _ _ (do let dv ← evalAll [eval (.Constant (.int dj) dk dpos) X.env]; let kdv ← holding dv (evalAllOpt []); makeFunction "<lambda>" (X.env.qual ++ "<lambda>") params (.expr body) scope X.env dv kdv [] pos pos.line) _ _ _
  refine wpAny_bind (wpAny_evalAll_cons (wpAny_Constant_int ?_))
  refine wpAny_evalAll_nil ?_
  refine wpAny_bind (wpAny_holding (wpAny_pure ?_))
  rw [makeFunction_eq]
  simp only [hkw, List.zip_nil_left, List.filterMap_nil, List.isEmpty_nil, List.isEmpty_cons, Bool.false_eq_true, if_false, if_true, pure_bind]
  refine wpAny_bind (wpAny_newTextTuple ?_)
  generalize hs1 : ({ s with heap := s.heap.push { cls := .type "tuple", data := .seq ([Value.int dj s.toks] : List Value).toArray }, toks := s.toks + 1 } : Shared) = s1
  have I1 : Inv X pins σ H s1 := by
    rw [← hs1]
    exact I.kept (t' := s.toks + 1) fun b o e => Heap.get?_push_of_some _ e
  have td1 : s1.heap.get? s.heap.objs.size = some { cls := .type "tuple", data := .seq #[.int dj s.toks] } := by
    rw [← hs1]
    exact Heap.get?_push_size _ rfl
  have ntd : H s.heap.objs.size = none := I.hok.fresh (Nat.le_refl _)
  have sz1 : s1.heap.objs.size = s.heap.objs.size + 1 := by
    rw [← hs1]
    exact Heap.size_push _ _
  obtain ⟨ps, hP, ht, ha⟩ := hT _ hm
  have bP : s1.heap.BuiltinsAt X.mg P := TB.bm.keeps I1.bk
  have hP' : s1.heap.get? P = some { cls := .none, data := .fields ps } := I1.hok P _ hP
  have ecl : closureFor scope X.env = pure [] := by
    rw [closure_ok (fun y hy e => absurd e (hfree y hy))]
    congr 1
    have : ∀ (l : List (Str × NameKind)) (acc : List (Str × Addr)), (∀ y ∈ l, y.2 ≠ .free) → cloFrom X.env.cells l acc = acc := by
      intro l
      induction l with
      | nil => intro acc _; rfl
      | cons q r ih =>
        intro acc hq
        obtain ⟨n, k⟩ := q
        unfold cloFrom
        have hk : (k == NameKind.free) = false := by
          have := hq (n, k) List.mem_cons_self
          simpa using this
        rw [hk, if_neg Bool.false_ne_true]
        exact ih acc fun y hy => hq y (List.mem_cons_of_mem _ hy)
    exact this _ _ hfree
  refine PySem.W.ld_tail (mg := X.mg) (c := c) (P := P) (ps := ps) ecl I1.ok.glob (I1.mod.glob.keeps I1.bk) hcode (TB.code.keeps I1.bk) hP' ht TB.gP bP (fun hc c' ctv h' tk hx hge hlt hrec htb => ?_) (fun cv hc ctv => ?_)
  · obtain ⟨c2, oc, vs, t, e2, hoc, hd, hv⟩ := hrec
    cases e2
    have hsz : s1.heap.objs.size ≤ h'.objs.size := Nat.le_trans hge (Nat.le_of_lt hlt)
    have nC : H c' = none := I1.hok.fresh hge
    have I2 := inv_table (t' := tk) (more := #[rawInt pos.line, rawInt pos.col, .ref c']) (h' := h'.push (PySem.W.ld_obj (X.env.qual ++ "<lambda>") params body scope (.ref s.heap.objs.size) ((X.mg "__name__").getD .none) c' ctv)) I1 hP
      (fun b o hb e => Heap.get?_push_of_some _ (hx b o hb e)) (Heap.get?_push_of_some _ htb) hge ⟨oc, vs, t, Heap.get?_push_of_some _ hoc, hd, hv⟩
    have hE : ExtN H (upd (upd H P (.tbl (ps ++ #[rawInt pos.line, rawInt pos.col, .ref c']))) c' (CodeO c' (X.env.qual ++ "<lambda>"))) := fun b o e n => by
      rw [upd_ne (ne_of_none e nC), upd_ne (fun z => n ps (Option.some.inj (e.symm.trans (by rw [z]; exact hP))))]
      exact e
    have eL : (ps ++ #[rawInt pos.line, rawInt pos.col, .ref c']).toList = ps.toList ++ [rawInt pos.line, rawInt pos.col, .ref c'] := by simp
    have ntdP : s.heap.objs.size ≠ P := fun z => by rw [z, hP] at ntd; cases ntd
    have ntdC : s.heap.objs.size ≠ c' := Nat.ne_of_lt (Nat.lt_of_lt_of_le (by rw [sz1]; exact Nat.lt_succ_self _) hge)
    rw [← hs1] at I2
    refine h h'.objs.size c' s.heap.objs.size s.toks ((X.mg "__name__").getD .none) ctv _ _ (by rw [← hs1]; exact I2) hE (fun p hp => ?_) (Heap.get?_push_size _ rfl) ?_ (nofr _ (Nat.le_trans (by rw [sz1]; exact Nat.le_succ _) hsz)) (Heap.get?_push_of_some _ (hx _ _ ntdP td1)) (by rw [upd_ne ntdC, upd_ne ntdP]; exact ntd) (nofr _ (Nat.le_refl _)) upd_same
    · by_cases hb : p.1 = P
      · rw [hu p hp hb, hb]
        refine ⟨_, by rw [upd_ne (ne_of_none hP nC), upd_same], by rw [eL]; exact PySem.TriplesOk_snoc _ _ _ _ ht, fun p' cv hcv => ?_⟩
        rw [eL] at hcv
        rcases among_app _ ht hcv with z | z
        · obtain ⟨c0, e1, e2⟩ := ha p' cv z
          exact ⟨c0, e1, hE _ _ e2 codeO_ne⟩
        · exact ⟨c', z, upd_same⟩
      · obtain ⟨ps', a1, a2, a3⟩ := hT p hp
        refine ⟨ps', by rw [upd_ne (ne_of_none a1 nC), upd_ne hb]; exact a1, a2, fun p' cv hcv => ?_⟩
        obtain ⟨c0, e1, e2⟩ := a3 p' cv hcv
        exact ⟨c0, e1, hE _ _ e2 codeO_ne⟩
    · have n1 : h'.objs.size ≠ c' := Nat.ne_of_gt hlt
      have n2 : h'.objs.size ≠ P := Nat.ne_of_gt (Nat.lt_of_lt_of_le (Heap.lt_size hP') hsz)
      rw [upd_ne n1, upd_ne n2]
      exact I1.hok.fresh hsz
  · obtain ⟨c', e, hco⟩ := ha pos cv hc
    subst e
    have I2 : Inv X pins σ H { s1 with heap := s1.heap.push { cls := .type "function", data := .func (PySem.W.ld_fn (X.env.qual ++ "<lambda>") params body scope (.ref s.heap.objs.size) ((X.mg "__name__").getD .none) (.ref c') ctv) } } := I1.kept (t' := s1.toks) fun b o e => Heap.get?_push_of_some _ e
    exact h s1.heap.objs.size c' s.heap.objs.size s.toks ((X.mg "__name__").getD .none) ctv H _ I2 (ExtN.refl H) hT (Heap.get?_push_size _ rfl) (I1.hok.fresh (Nat.le_refl _)) (nofr _ (by rw [sz1]; exact Nat.le_succ _)) (Heap.get?_push_of_some _ td1) ntd (nofr _ (Nat.le_refl _)) hco
/-- x(), in the def that got the lambda -/
theorem pe_actD {CXg : CXT} {Eg : XK} {Ng N1 : List Str} {qg : Str} {sg : Scope} {g f c' td : Addr} {tt : Tok} {dj : Int} {cdg pm ctv : Value} {params : Arguments} {body : Expr} {scope : Scope} {k i : Nat} {a y : Str} {pn : List (Addr × Obj)} {xe : Value → Shared → Prop} {W : WX} {E : XK} {tb : TE} {p1 p2 : Pos}
    (I : Inv X pins σ H s) (S : NScope N1 [y] [] scope) (hf : s.heap.get? f = some (PySem.W.ld_obj (X.env.qual ++ "<lambda>") params body scope (.ref td) pm c' ctv)) (hfn : H f = none) (hfr : f ∉ frs X.stack)
    (htd : s.heap.get? td = some { cls := .type "tuple", data := .seq #[.int dj tt] }) (htn : H td = none) (htr : td ∉ frs X.stack)
    (hbind : ∃ kk, bindArgs (PySem.W.ld_fn (X.env.qual ++ "<lambda>") params body scope (.ref td) pm (.ref c') ctv) ⟨[], []⟩ = seqItems? (.ref td) >>= kk ∧ kk (some #[.int dj tt]) = pure [(y, .int dj tt)])
    (tk : Takes ((cxOf CXg X.prog X.w X.K X.mg X.base Ng qg sg g cdg X.A X.stack s H Eg).tr pn xe) W) (hW : ∀ cls d σ' H', E cls d H' → W cls d σ' H') (hr : Room (k + 1) (X.A.deeper (envOfC qg sg s.heap.objs.size g cdg)))
    (hbody : ∀ (A : Around) (outer : List Env) (s : Shared) (H : Hp), Room k (A.deeper (envF (nfD X params scope c') f s.heap.objs.size)) → PE (ncx (L2.CX X.prog X.w) X.prog X.w X.K X.mg X.base N1 (nfD X params scope c') f A outer s H E) body tb)
    (hN : Ng[i]? = some a) (hv : Vis sg a) (hd : (a == ("__debug__" : Str)) = false := by decide) (hcd : (a == ("__classdict__" : Str)) = false := by decide) :
    PE ((cxOf CXg X.prog X.w X.K X.mg X.base Ng qg sg g cdg X.A X.stack s H Eg).tr pn xe) (.Call (.Name a p1) [] [] p2)
      (fun σZ HZ Q => σZ[i]? = some (some (.ref f)) ∧ HZ c' = some (CodeO c' (X.env.qual ++ "<lambda>")) ∧ tb (startF N1 [.int dj] []) HZ Q) := by
  refine ⟨fun pinsZ sZ σZ HZ Q IZ h => ?_⟩
  obtain ⟨hs, hc, ht⟩ := h
  refine wpAny_Call_Name_kw (thn ((pe_var (pos := p1) (i := i) hN hv hd hcd).run pinsZ sZ σZ HZ (fun v H1 => v = .ref f ∧ H1 = HZ) IZ ⟨.ref f, hs, rfl, rfl⟩) fun u s1 ⟨v, H1, I1, r1, q1⟩ => ?_)
  obtain ⟨ev, eH⟩ := q1
  subst ev
  rw [eH] at I1
  obtain rfl : u = Value.ref f := r1
  have of1 : s1.heap.get? f = some (PySem.W.ld_obj (X.env.qual ++ "<lambda>") params body scope (.ref td) pm c' ctv) := I1.base.keep f _ hf hfn hfr (fun z => nomatch (show f ∈ ([] : List Addr) from z))
  have ot1 : s1.heap.get? td = some { cls := .type "tuple", data := .seq #[.int dj tt] } := I1.base.keep td _ htd htn htr (fun z => nomatch (show td ∈ ([] : List Addr) from z))
  refine PySem.W.callWith_F0 ⟨_, _, _, _, of1⟩ ?_
  obtain ⟨⟨oc, vs, t, hoc, hdc, hvc⟩, _, _⟩ := I1.hok c' _ hc
  obtain ⟨kk, hb1, hb2⟩ := hbind
  have rc : codeAny (model X.prog X.w) (X.A.deeper (envOfC qg sg s.heap.objs.size g cdg)) (.call (.ref f) ⟨[], []⟩) (CR (L2.CX X.prog X.w) (envOfC qg sg s.heap.objs.size g cdg :: X.stack) X.prog X.w HZ s1 Q E) s1 := by
    refine PySem.W.kla_callFunE hr.depth of1 rfl S.co S.gen rfl ⟨c', oc, vs, t, rfl, hoc, hdc, hvc⟩ ?_
    refine BindsTo.of_defaults (T := td) rfl ot1 rfl hb1 hb2 _ _ _ _ ?_
    refine wpAny_newFunctionEnv S.nocell (fun z hz => by
      rw [List.mem_singleton] at hz
      subst hz
      exact S.par y (List.mem_singleton.mpr rfl)) (fun h₁ hns hsb => ⟨I1.nolimit.fresh _ hsb, ?_⟩) S.kind
    show codeAny _ _ (.expr body (envF (nfD X params scope c') f s1.heap.objs.size)) _ _
    have kp : ∀ b o, s1.heap.get? b = some o → h₁.get? b = some o := fun b o e => hsb.extBut b o (Nat.ne_of_lt (Heap.lt_size e)) (Heap.get?_push_of_some _ e)
    have C0 : CellsAt [] [] [] s1.heap HZ := ⟨rfl, fun y c z => by simp at z, fun x y c z => by simp at z, fun i y z => by simp at z⟩
    have J : Inv (ncx (L2.CX X.prog X.w) X.prog X.w X.K X.mg X.base N1 (nfD X params scope c') f (X.A.deeper (envOfC qg sg s.heap.objs.size g cdg)) (envOfC qg sg s.heap.objs.size g cdg :: X.stack) s1 HZ E) [] (startF N1 [.int dj] []) HZ { s1 with heap := h₁, toks := s1.toks + [(y, Value.int dj tt)].length } :=
      inv_startN (us := [.int dj tt]) (vs := [.int dj]) S hr.hd I1.env0 rfl (.cons ⟨tt, rfl⟩ .nil) C0 hns kp
    refine PySem.W.kla_codeExpr (wpAny_mono ((hbody _ _ s1 HZ (hr.deeper _)).run [] _ _ HZ Q J ht) (fun v s' hq => ?_) fun e s' hq => hq)
    obtain ⟨w', H', J', rv, q⟩ := hq
    exact ⟨w', H', J'.os, J'.bare, J'.base, J'.hok, rv, q⟩
  have hx : Passes (L2.CX X.prog X.w) ((cxOf CXg X.prog X.w X.K X.mg X.base Ng qg sg g cdg X.A X.stack s H Eg).tr pn xe) E := passes_call tk hW
  refine wpAny_call (codeAny_mono rc fun r s' hq => ?_)
  cases r with
  | error e => exact hx pinsZ σZ HZ s1 e s' I1 hq
  | ok fl =>
    cases fl with
    | ret u => exact I1.after hq
    | next => exact False.elim hq
    | brk => exact False.elim hq
    | cont => exact False.elim hq
end
section
variable {X : Cx}
def tLamD (T : List (Addr × Str)) (TT : (XK → Hp → VK → Prop) → Hp → VK → Prop) (N1 : List Str) (dj : Int) (t : XK → TE) : TE := fun σ H Q => Tabs T H ∧ ∀ H1, ExtN H H1 → Tabs T H1 → TT (fun E H' Q' => t E (startF N1 [.int dj] []) H' Q') H1 Q
/-- x(lambda y=0: body) -/
theorem pe_lamcallD {T : List (Addr × Str)} {TT : (XK → Hp → VK → Prop) → Hp → VK → Prop} {x a y : Str} {g c P : Addr} {k : Nat} {pg : Arguments} {bg : List Stmt} {sg : Scope} {dV kV doc pm cdv ct oc : Value} {an od : Option Addr} {osl : Array (Option Value)} {Ng N1 : List Str}
    {params : Arguments} {body : Expr} {scope : Scope} {t : XK → TE} {p lpos pos dpos : Pos} {dk : Nat} {dj : Int} (hg : Gl X x) (hm : X.mg x = some (.ref g)) (hk : PySem.W.keepIn X.K (.ref g) = true)
    (lk : X.K.lookup g = some ⟨oc, od, .func (PySem.W.fnOf x x pg bg sg dV kV doc pm an cdv ct), osl⟩) (hcg : PySem.W.codeIn X.K cdv x = true) (hb : L2.Binds X.K (PySem.W.fnOf x x pg bg sg dV kV doc pm an cdv ct) [a] []) (Sg : FnScope Ng [a] sg) (hNg : Ng[0]? = some a) (hva : Vis sg a)
    (hG : GivesTo X Ng x sg g cdv bg a (X.env.qual ++ "<lambda>") TT)
    (TB : TabB X.base X.mg c P) (hcode : X.env.code = .ref c) (hmT : (P, X.env.qual ++ "<lambda>") ∈ T) (hu : ∀ p ∈ T, p.1 = P → p.2 = X.env.qual ++ "<lambda>") (hr : Room (k + 2) X.A) (S : NScope N1 [y] [] scope) (hdef : defaultsOf params X.env = ([eval (.Constant (.int dj) dk dpos) X.env], [])) (hkw : params.kwonlyargs = [])
    (hbind : ∀ (q : Str) (td : Addr) (tt : Tok) (pm cv ctv : Value), ∃ kk, bindArgs (PySem.W.ld_fn q params body scope (.ref td) pm cv ctv) ⟨[], []⟩ = seqItems? (.ref td) >>= kk ∧ kk (some #[.int dj tt]) = pure [(y, .int dj tt)])
    (hbody : ∀ (A : Around) (outer : List Env) (s : Shared) (H : Hp) (E : XK) (f c' : Addr), Room k (A.deeper (envF (nfD X params scope c') f s.heap.objs.size)) → PE (ncx (L2.CX X.prog X.w) X.prog X.w X.K X.mg X.base N1 (nfD X params scope c') f A outer s H E) body (t E))
    (hdb : (x == ("__debug__" : Str)) = false := by decide) (hd : (a == ("__debug__" : Str)) = false := by decide) (hcd : (a == ("__classdict__" : Str)) = false := by decide) :
    PE X (.Call (.Name x p) [.Lambda params body scope lpos] [] pos) (tLamD T TT N1 dj t) := by
  refine ⟨fun pins s σ H Q I h => ?_⟩
  obtain ⟨hT, h⟩ := h
  refine wpAny_Call_Name_kw (ld_glob I hg hm ?_ hdb)
  refine PySem.W.callWith_K (h₀ := X.base) I.ok.mod.kin hk ?_ (by rfl) (by rfl)
  show wpAny _ _ (spliced ((false, eval (.Lambda params body scope lpos) X.env) :: backTo pos (starEach [] X.env))) _ _ s
  have hfree : ∀ z ∈ scope.names, z.2 ≠ .free := fun z hz e => by
    have := S.free z hz e
    simp at this
  refine Calls.spliced_cons (lam_makeD I TB hcode hmT hu hT hdef hkw hfree fun f c' td tt pm' ctv H1 s' I1 eN T1 hf hfn hfr htd htn htr hco => ?_)
  refine Calls.spliced_nil ⟨I1.kIn, ?_⟩
  have rc : codeAny (model X.prog X.w) X.A (.call (.ref g) ⟨[.ref f], []⟩) (CR C8.CX0 X.stack X.prog X.w H1 s' Q C8.E0) s' := by
    refine run_ofS (N := Ng) (ps := [a]) (us := [.ref f]) (vs := [.ref f]) lk hcg Sg hr I1.env0 (hb s' [.ref f] I1.kIn rfl) (.cons rfl .nil) rfl fun hr' => ?_
    obtain ⟨t', ht', hq'⟩ := hG f c' s' H1 Q (fun E H' Q' => t E (startF N1 [.int dj] []) H' Q')
      (fun W pn xe E p1 p2 tk hW => pe_actD (i := 0) I1 S hf hfn hfr htd htn htr (hbind _ _ _ _ _ _) tk hW hr' (fun A outer s H hr2 => hbody A outer s H E f c' hr2) hNg hva hd hcd) hco (h H1 eN T1)
    exact ⟨t', ht'.nox, hq'⟩
  refine wpAny_call (codeAny_mono rc fun r s2 hq => ?_)
  cases r with
  | error e => exact (show False from hq).elim
  | ok fl =>
    cases fl with
    | ret u => exact I1.after hq
    | next => exact False.elim hq
    | brk => exact False.elim hq
    | cont => exact False.elim hq
end
end Nr
end
set_option maxHeartbeats 4000000
section
/-! NrHeard: _law_heard. -/
namespace Nr
open PySem PySem.Spec PyProof.Rows L2 LamX NdefX
/-- the errors' classes, for a BadText at CB -/
structure HeardC (K : PySem.W.Frag) (mg : Str → Option Value) (CB : Addr) : Prop where
  ne : ∃ CN : Addr, mg "NearError" = some (.ref CN) ∧ PySem.W.exmOne K (.ref CB) (.ref CN) = some true
  tm : ∃ CT : Addr, mg "TooMany" = some (.ref CT) ∧ PySem.W.kitOne K (.ref CB) (.ref CT) = some false
  bt : PySem.W.kitOne K (.ref CB) (.ref CB) = some true
  xf : XfC K CB
  ec : ExcC K CB
/-- what comes of asking -/
def THeard (CB : Addr) : (XK → Hp → VK → Prop) → Hp → VK → Prop := fun tl H Q => ∃ (B : Nat → Nat → Hp → Prop) (R : V → Hp → Prop),
  (∀ (E2 : XK) (Q2 : VK) (H0 : Hp), Same H H0 → (∀ n k d H', B n k H' → H' d = some (.xd (btF n k)) → E2 (.ref CB) (some d) H') → (∀ v H', R v H' → Q2 v H') → tl E2 H0 Q2) ∧
  (∀ n k H' H'' r, B n k H' → Same H' H'' → H'' r = some (.tup [.str "text", .int n, .int k]) → Q (.ref r) H'') ∧ (∀ v H' H'' l, R v H' → Same H' H'' → H'' l = some (.lst [v]) → Q (.ref l) H'')
theorem scHeard : FnScope ["ask", "found", "caught", "error", "words", "kinds"] ["ask"] (defScope sHeard) := ⟨rfl, rfl, rfl, by decide +kernel, rfl, by decide +kernel, by decide +kernel⟩
/-- the slots are as many as the names -/
theorem takes_len {X : Cx} {W : WX} (t : Takes X W) : Takes X (fun c d σ H => σ.length = X.N.length → W c d σ H) := fun u s' ⟨a, B, sI, pins, σ, H, cls, d, e, I, nb, up, sky, na, os, ag, w⟩ =>
  t u s' ⟨a, B, sI, pins, σ, H, cls, d, e, I, nb, up, sky, na, os, ag, w I.len⟩
section
variable {X : Cx} {CB fI : Addr} {fdI : FuncData}
theorem heard_gives {g : Addr} {cdg : Value} {q : Str} (C : HeardC X.K X.mg CB) (I : ErrI X.prog X.K X.mg CB fI fdI) (G : GF X.mg) : GivesTo X ["ask", "found", "caught", "error", "words", "kinds"] "_law_heard" (defScope sHeard) g cdg (defBody sHeard) "ask" q (THeard CB) := by
  intro f c' s H Q tl act hc h
  obtain ⟨CN, gN, eN⟩ := C.ne
  obtain ⟨CT, gT, kT⟩ := C.tm
  have nd := scHeard.nd
  obtain ⟨B, R, htl, hB, hR⟩ := h
  refine ⟨_, pss_cons (ps_asg (pe_tup (pa_cons pe_non (pa_cons pe_non pa_nil))) (pg_tup (by rfl) (pgs_cons (pg_name (i := 1) nd rfl (.inl rfl)) (pgs_cons (pg_name (i := 2) nd rfl (.inl rfl)) pgs_nil))))
    (pss_cons (ps_try_keep (i := 3) (j := 2) (c := .ref CN)
      (tb := fun W D σ H => ∃ Ech : XK, (∀ cls d σ' H', Ech cls d H' → σ'.length = 6 → W cls d σ' H') ∧ σ[0]? = some (some (.ref f)) ∧ H c' = some (CodeO c' q) ∧ tl Ech H fun v H' => D.nx (σ.set 1 (some v)) H')
      rfl rfl rfl nd rfl rfl rfl rfl (by decide) (by decide) (by decide) ⟨by rfl, by decide, .inl gN⟩ L2.takes0 (by rfl) (fun W pn xe tk _ => ?_))
    (pss_cons (ps_if (pt_cmpR op_isN (pv 2) pe_non (nomark _)) (pss_one (ps_ret (pe_lst (pa_cons (pv 1) pa_nil)))) pss_nil)
    (pss_cons (ps_if (pt_val (pe_callB call_isK (by rfl) (G.f "isinstance" (by decide +kernel)) PyProof.Rows.boot_isinstance (pa_cons (pv 2) (pa_cons (pe_glob (v := .ref CT) rfl gT rfl) pa_nil)))) pss_never pss_nil)
    (pss_cons (ps_if (pt_val (pe_callB call_isK (by rfl) (G.f "isinstance" (by decide +kernel)) PyProof.Rows.boot_isinstance (pa_cons (pv 2) (pa_cons (pe_glob (v := .ref CB) rfl I.g rfl) pa_nil))))
      (pss_one (ps_ret (pe_tup (pa_cons pe_str (pa_cons (pe_kf (pv 2)) (pa_cons (pe_kf (pv 2)) pa_nil)))))) pss_nil)
    pss_never)))), ?_⟩
  · refine ⟨fun pins s' σ H' D I' h' => ?_⟩
    obtain ⟨Ech, hW, h1, h2, h3⟩ := h'
    exact (pss_one (ps_set (i := 1) nd rfl (.inl rfl) (act (fun c d σ H => σ.length = 6 → W c d σ H) pn xe Ech _ _ (takes_len tk) hW))).run pins s' σ H' D I' ⟨h1, h2, h3⟩
  · refine ⟨(show 2 ≤ sizeLine by decide), fun p hp => ⟨p, _, rfl, SqT.of upd_same, rfl, _, _, rfl, _, _, rfl, rfl, ?_⟩⟩
    have sp : Same H (upd H p (.tup [.non, .non])) := same_new (Same.refl H) hp
    refine ⟨fun cls d H' => cls = .ref CB ∧ ∃ dd n k, d = some dd ∧ H' dd = some (.xd (btF n k)) ∧ ∀ H'' r, Same H' H'' → H'' r = some (.tup [.str "text", .int n, .int k]) → Q (.ref r) H'', fun cls d σ' H' hE hl => ?_, rfl, sp _ _ hc, htl _ _ _ sp (fun n k d H' hb hx => ⟨rfl, d, n, k, rfl, hx, fun H'' r s2 hr => hB n k H' H'' r hb s2 hr⟩) fun v H' hv => ?_⟩
    · obtain ⟨rfl, dd, n, k, rfl, hx, hq⟩ := hE
      refine ⟨true, eN, fun _ a ha => ?_, fun z => nomatch z⟩
      obtain ⟨x0, x1, x2, x3, x4, x5, rfl⟩ : ∃ x0 x1 x2 x3 x4 x5, σ' = [x0, x1, x2, x3, x4, x5] := by
        match σ', hl with
        | [x0, x1, x2, x3, x4, x5], _ => exact ⟨x0, x1, x2, x3, x4, x5, rfl⟩
      have sa : Same H' (upd H' a (ExK (.ref CB) (some dd) a)) := same_new (Same.refl H') ha
      have hx' := sa _ _ hx
      refine ⟨_, rfl, rfl, _, rfl, iteF ⟨_, rfl, a, CB, dd, _, .ref CT, _, _, rfl, upd_same, hx', C.ec, fun u hu => hu, kT, _, rfl, iteF ⟨_, rfl, a, CB, dd, _, .ref CB, _, _, rfl, upd_same, hx', C.ec, fun u hu => hu, C.bt, _, rfl, iteT ?_⟩⟩⟩
      refine ⟨_, rfl, a, CB, dd, _, _, rfl, upd_same, C.xf, I.n1, hx', rfl, _, rfl, a, CB, dd, _, _, rfl, upd_same, C.xf, I.n2, hx', rfl, (show 3 ≤ sizeLine by decide), fun r hr => ?_⟩
      exact hq _ r (same_new sa (same_none sa hr)) upd_same
    · refine ⟨_, rfl, rfl, _, rfl, iteT ⟨_, rfl, (show 1 ≤ sizeLine by decide), fun l hl => hR v H' _ l hv (same_new (Same.refl H') hl) upd_same⟩⟩
end
end Nr
end
set_option maxHeartbeats 4000000
section
/-! NrRows: the law's stack of lists. -/
namespace Nr
open PySem PySem.Spec PyProof.Rows L2 LamX NdefX
abbrev Rw := Str × Nat
def rowV (r : Rw) : List V := [.str r.1, .int (r.2 : Int)]
/-- what the law's stack holds -/
def rows (k : Nat) : List Fr → List Rw
  | [] => [(("one" : Str), k)]
  | .par :: r => rows k r ++ [((("(" : Str), 0) : Rw)]
  | .pap j :: r => rows k r ++ [((("[" : Str), 0) : Rw), (("one" : Str), j)]
structure Rows (H : Hp) (as : List Addr) (L : List Rw) : Prop where
  len : as.length = L.length
  nd : as.Nodup
  at_ : ∀ (i : Nat) (a : Addr) (r : Rw), as[i]? = some a → L[i]? = some r → H a = some (.lst (rowV r))
theorem Rows.nil {H : Hp} : Rows H [] [] := ⟨rfl, List.nodup_nil, fun i a r h => by simp at h⟩
theorem Rows.snoc {H : Hp} {as : List Addr} {L : List Rw} {a : Addr} {r : Rw} (h : Rows H as L) (n : a ∉ as) (e : H a = some (.lst (rowV r))) : Rows H (as ++ [a]) (L ++ [r]) := by
  refine ⟨by rw [List.length_append, List.length_append, h.len]; rfl, ?_, fun i b q h1 h2 => ?_⟩
  · rw [List.nodup_append]
    refine ⟨h.nd, by simp, fun x hx y hy z => ?_⟩
    simp at hy
    subst hy
    subst z
    exact n hx
  · by_cases hi : i < as.length
    · rw [List.getElem?_append_left hi] at h1
      rw [List.getElem?_append_left (by rw [← h.len]; exact hi)] at h2
      exact h.at_ i b q h1 h2
    · rw [List.getElem?_append_right (by omega)] at h1
      rw [List.getElem?_append_right (by rw [← h.len]; omega)] at h2
      have e1 : i - as.length = 0 := by
        have := (List.getElem?_eq_some_iff.mp h1).1
        simp at this
        omega
      rw [e1] at h1
      rw [← h.len, e1] at h2
      cases h1
      cases h2
      exact e
theorem Rows.unsnoc {H : Hp} {as : List Addr} {L : List Rw} {r : Rw} (h : Rows H as (L ++ [r])) : ∃ as' a, as = as' ++ [a] ∧ Rows H as' L ∧ a ∉ as' ∧ H a = some (.lst (rowV r)) := by
  have hl := h.len
  rw [List.length_append, List.length_singleton] at hl
  obtain ⟨as', a, rfl⟩ : ∃ as' a, as = as' ++ [a] := by
    have : as ≠ [] := fun e => by rw [e] at hl; simp at hl
    exact ⟨as.dropLast, as.getLast this, (List.dropLast_concat_getLast this).symm⟩
  rw [List.length_append, List.length_singleton] at hl
  have hl' : as'.length = L.length := by omega
  have hnd := h.nd
  rw [List.nodup_append] at hnd
  refine ⟨as', a, rfl, ⟨hl', hnd.1, fun i b q h1 h2 => ?_⟩, fun hm => hnd.2.2 a hm a (by simp) rfl, ?_⟩
  · have i1 := (List.getElem?_eq_some_iff.mp h1).1
    have i2 := (List.getElem?_eq_some_iff.mp h2).1
    exact h.at_ i b q (by rw [List.getElem?_append_left i1]; exact h1) (by rw [List.getElem?_append_left i2]; exact h2)
  · refine h.at_ as'.length a r (by rw [List.getElem?_append_right (Nat.le_refl _), Nat.sub_self]; rfl) (by rw [hl', List.getElem?_append_right (Nat.le_refl _), Nat.sub_self]; rfl)
theorem Rows.keep {H H' : Hp} {as : List Addr} {L : List Rw} (h : Rows H as L) (k : ∀ a ∈ as, H' a = H a) : Rows H' as L :=
  ⟨h.len, h.nd, fun i a r h1 h2 => by rw [k a (List.mem_of_getElem? h1)]; exact h.at_ i a r h1 h2⟩
theorem Rows.upd {H : Hp} {as : List Addr} {L : List Rw} {b : Addr} {o : HO} (h : Rows H as L) (n : b ∉ as) : Rows (upd H b o) as L := h.keep fun a ha => upd_ne fun e => n (e ▸ ha)
theorem Rows.same {H H' : Hp} {as : List Addr} {L : List Rw} (h : Rows H as L) (s : Same H H') : Rows H' as L :=
  ⟨h.len, h.nd, fun i a r h1 h2 => s _ _ (h.at_ i a r h1 h2)⟩
theorem Rows.some {H : Hp} {as : List Addr} {L : List Rw} (h : Rows H as L) {a : Addr} (ha : a ∈ as) : ∃ vs, H a = some (.lst vs) := by
  obtain ⟨i, hi, rfl⟩ := List.mem_iff_getElem.mp ha
  have hi2 : i < L.length := by rw [← h.len]; exact hi
  exact ⟨_, h.at_ i _ L[i] (List.getElem?_eq_getElem hi) (List.getElem?_eq_getElem hi2)⟩
theorem Rows.fresh {H : Hp} {as : List Addr} {L : List Rw} (h : Rows H as L) {b : Addr} (n : H b = none) : b ∉ as := fun hb => by
  obtain ⟨vs, e⟩ := h.some hb
  rw [n] at e
  cases e
/-- the top -/
def topRw (k : Nat) : List Fr → Rw
  | [] => ("one", k)
  | .par :: _ => ("(", 0)
  | .pap j :: _ => ("one", j)
def under1 (k : Nat) : List Fr → List Rw
  | [] => []
  | .par :: r => rows k r
  | .pap _ :: r => rows k r ++ [(("[" : Str), 0)]
theorem rows_top (k : Nat) (fs : List Fr) : rows k fs = under1 k fs ++ [topRw k fs] := by
  match fs with
  | [] => rfl
  | .par :: r => rfl
  | .pap j :: r => simp [rows, under1, topRw]
/-- one value less is wanted: the top's second -/
def lessRw (r : Rw) : Rw := (r.1, if r.1 = ("one" : Str) then r.2 - 1 else r.2)
theorem rows_less (k : Nat) (fs : List Fr) : rows (less k fs).1 (less k fs).2 = under1 k fs ++ [lessRw (topRw k fs)] := by
  match fs with
  | [] => simp [less, rows, under1, topRw, lessRw]
  | .par :: r =>
    have : ¬ (("(" : Str) = "one") := by decide +kernel
    simp [less, rows, under1, topRw, lessRw, this]
  | .pap j :: r => simp [less, rows, under1, topRw, lessRw]
/-- all counters below are above 0 -/
def OkFs (k : Nat) : List Fr → Prop
  | [] => True
  | _ :: r => Want k r ∧ OkFs k r
theorem ok_less {k : Nat} {fs : List Fr} (h : OkFs k fs) : OkFs (less k fs).1 (less k fs).2 := by
  match fs with
  | [] => trivial
  | .par :: r => exact h
  | .pap j :: r => exact h
/-- how many brackets are open -/
theorem rows_count (k : Nat) (fs : List Fr) : ((rows k fs).filter fun r : Rw => !decide (r.1 = ("one" : Str))).length = fs.length := by
  induction fs with
  | nil => rfl
  | cons f r ih =>
    have h1 : ¬ (("(" : Str) = "one") := by decide +kernel
    have h2 : ¬ (("[" : Str) = "one") := by decide +kernel
    cases f with
    | par => simp [rows, List.filter_append, ih, h1]
    | pap j => simp [rows, List.filter_append, ih, h2]
/-- the law's stack as it lies -/
structure Rep (H : Hp) (ll : Addr) (as : List Addr) (k : Nat) (fs : List Fr) : Prop where
  at_ : H ll = some (.lst (as.map V.ref))
  rows : Rows H as (rows k fs)
  ne : ll ∉ as
theorem Rep.top {H : Hp} {ll : Addr} {as : List Addr} {k : Nat} {fs : List Fr} (h : Rep H ll as k fs) : ∃ as' a, as = as' ++ [a] ∧ Rows H as' (under1 k fs) ∧ a ∉ as' ∧ H a = some (.lst (rowV (topRw k fs))) := by
  have := h.rows
  rw [rows_top] at this
  exact this.unsnoc
/-- the top changed: one value less -/
theorem Rep.less {H : Hp} {ll : Addr} {as' : List Addr} {a : Addr} {k : Nat} {fs : List Fr} (hl : H ll = some (.lst ((as' ++ [a]).map V.ref))) (hr : Rows H as' (under1 k fs)) (hn : a ∉ as') (hne : ll ∉ as' ++ [a]) :
    Rep (upd H a (.lst (rowV (lessRw (topRw k fs))))) ll (as' ++ [a]) (less k fs).1 (less k fs).2 := by
  refine ⟨?_, ?_, hne⟩
  · rw [upd_ne fun e => hne (by rw [e]; simp)]
    exact hl
  · rw [rows_less]
    exact (hr.upd hn).snoc hn upd_same
end Nr
end
set_option maxHeartbeats 4000000
section
/-! NrMany: _law_tx_many. -/
namespace Nr
open PySem PySem.Spec PyProof.Rows L2 LamX NdefX
def manyT : List (Str × Nat) := [("classes", 3), ("hinders", 2), ("moment", 2), ("nearness", 4), ("never", 2), ("reach", 3), ("reached", 4), ("realmoment", 1), ("records", 1), ("relations", 1), ("rounds", 2), ("smith", 3), ("unreached", 4)]
def manyD : List (Key × V) := manyT.map fun p => (Sum.inr p.1, V.int (p.2 : Int))
theorem many_look (w : Str) : many w = manyT.lookup w := by
  have step : ∀ (k : Str) (n : Nat) (r : List (Str × Nat)), List.lookup w ((k, n) :: r) = if w = k then some n else List.lookup w r := fun k n r => by
    by_cases h : w = k
    · rw [if_pos h, h]
      simp [List.lookup]
    · rw [if_neg h]
      have : (w == k) = false := by simpa using h
      simp [List.lookup, this]
  unfold many manyT
  simp only [step]
  rfl
theorem valS (w : Str) : ∀ l : List (Str × Nat), valV (l.map fun p => ((Sum.inr p.1 : Key), V.int (p.2 : Int))) (Sum.inr w) = (l.lookup w).map fun j => V.int (j : Int)
  | [] => rfl
  | (k, n) :: r => by
    by_cases h : w = k
    · rw [List.map_cons, valV_pos (by rw [h])]
      simp [List.lookup, h]
    · have hb : (w == k) = false := by simpa using h
      have hk : ¬ ((Sum.inr k : Key) = Sum.inr w) := fun z => h (Sum.inr.inj z).symm
      have ih := valS w r
      rw [List.map_cons]
      show valV ((Sum.inr k, V.int (n : Int)) :: _) _ = _
      unfold valV at ih ⊢
      rw [List.find?_cons]
      simp only [decide_eq_false hk]
      rw [ih]
      simp [List.lookup, hb]
theorem manyD_val (w : Str) : valV manyD (Sum.inr w) = (many w).map fun j => V.int (j : Int) := by
  rw [many_look]
  exact valS w manyT
def spMany : Sp := fun vs H Q _ => vs = [] ∧ ∀ d H', Same H H' → H d = none → H' d = some (.dK manyD) → Q (.ref d) H'
section
variable {P : Program} {w : World} {K : PySem.W.Frag} {mg : Str → Option Value} {base : Heap}
theorem scMany : FnScope [] [] (defScope sMany) := ⟨rfl, rfl, rfl, by decide +kernel, rfl, by decide +kernel, by decide +kernel⟩
theorem ok_many {f : Addr} {fd : FuncData} (F : Fun K "_law_tx_many" "_law_tx_many" sMany f fd) : FnOk P w K mg base CX0 1 f fd [] spMany := by
  refine F.ok scMany (fun vs H Q E h => ?_) (fun cdv A outer s H vs Q E hr h => ?_)
  · obtain ⟨rfl, _⟩ := h
    rfl
  · obtain ⟨rfl, k⟩ := h
    refine ⟨_, pss_one (ps_ret (pe_disp (pps_cons pe_str pe_int (pps_cons pe_str pe_int (pps_cons pe_str pe_int (pps_cons pe_str pe_int (pps_cons pe_str pe_int (pps_cons pe_str pe_int (pps_cons pe_str pe_int (pps_cons pe_str pe_int (pps_cons pe_str pe_int (pps_cons pe_str pe_int (pps_cons pe_str pe_int (pps_cons pe_str pe_int (pps_cons pe_str pe_int pps_nil))))))))))))) (by rfl) (by rfl) (fun z => by cases z) (by decide))), ?_⟩
    refine fun p hp => ⟨upd_same, manyD, rfl, by decide +kernel, ?_⟩
    refine k p _ (fun b o e => ?_) hp ?_
    · rw [upd_ne (ne_of_none e hp), upd_ne (ne_of_none e hp)]
      exact e
    · rw [upd_same, show mergeK [] manyD = manyD by decide +kernel]
end
end Nr
end
set_option maxHeartbeats 4000000
section
/-! NrStk: the stack of lists, its moves. -/
namespace Nr
open PySem PySem.Spec PyProof.Rows L2 LamX NdefX
structure Stk (H0 H : Hp) (ll : Addr) (as : List Addr) (L : List Rw) : Prop where
  at_ : H ll = some (.lst (as.map V.ref))
  rows : Rows H as L
  ne : ll ∉ as
  new : ∀ a ∈ as, H0 a = none
  newl : H0 ll = none
  same : Same H0 H
section
variable {H0 H H' : Hp} {ll a q : Addr} {as : List Addr} {L : List Rw} {r : Rw}
theorem Stk.ext (h : Stk H0 H ll as L) (s : Same H H') : Stk H0 H' ll as L := ⟨s _ _ h.at_, h.rows.same s, h.ne, h.new, h.newl, h.same.trans s⟩
theorem Stk.top (h : Stk H0 H ll as (L ++ [r])) : ∃ as' a, as = as' ++ [a] ∧ H a = some (.lst (rowV r)) := by
  obtain ⟨as', a, e, _, _, ha⟩ := h.rows.unsnoc
  exact ⟨as', a, e, ha⟩
theorem Stk.pop (h : Stk H0 H ll (as ++ [a]) (L ++ [r])) : Stk H0 (upd H ll (.lst (((as ++ [a]).map V.ref).dropLast))) ll as L := by
  obtain ⟨as', a', e, hr, hn, ha⟩ := h.rows.unsnoc
  obtain ⟨e1, e2⟩ := List.append_inj' e rfl
  cases e1
  have hne : ll ∉ as := fun z => h.ne (List.mem_append_left _ z)
  refine ⟨?_, hr.upd hne, hne, fun b hb => h.new b (List.mem_append_left _ hb), h.newl, same_new h.same h.newl⟩
  rw [upd_same, List.map_append, List.map_singleton, List.dropLast_concat]
theorem Stk.push (h : Stk H0 H ll as L) (hq : H q = none) : Stk H0 (upd (upd H q (.lst (rowV r))) ll (.lst (as.map V.ref ++ [.ref q]))) ll (as ++ [q]) (L ++ [r]) := by
  have hql : q ≠ ll := fun e => by rw [e, h.at_] at hq; cases hq
  have hqa := h.rows.fresh hq
  refine ⟨by rw [upd_same, List.map_append]; rfl, ?_, ?_, fun b hb => ?_, h.newl, same_new (same_new h.same (same_none h.same hq)) h.newl⟩
  · refine Rows.upd ?_ ?_
    · exact (h.rows.upd hqa).snoc hqa upd_same
    · rw [List.mem_append]
      exact fun z => z.elim h.ne fun y => hql (List.mem_singleton.mp y).symm
  · rw [List.mem_append]
    exact fun z => z.elim h.ne fun y => hql (List.mem_singleton.mp y).symm
  · rcases List.mem_append.mp hb with z | z
    · exact h.new b z
    · rw [List.mem_singleton.mp z]
      exact same_none h.same hq
theorem Stk.set (h : Stk H0 H ll (as ++ [a]) (L ++ [r])) (r' : Rw) : Stk H0 (upd H a (.lst (rowV r'))) ll (as ++ [a]) (L ++ [r']) := by
  obtain ⟨as', a', e, hr, hn, ha⟩ := h.rows.unsnoc
  obtain ⟨e1, e2⟩ := List.append_inj' e rfl
  cases e1
  cases e2
  have hal : ll ≠ a := fun e => h.ne (by rw [e]; simp)
  refine ⟨by rw [upd_ne hal]; exact h.at_, (hr.upd hn).snoc hn upd_same, h.ne, h.new, h.newl, same_new h.same (h.new a (by simp))⟩
theorem Stk.last (h : Stk H0 H ll (as ++ [a]) L) {K : PySem.W.Frag} : SqL K H ll ((as ++ [a]).map V.ref) ∧ atI ((as ++ [a]).map V.ref) (-1) = some (V.ref a) :=
  ⟨SqL.of h.at_, by rw [List.map_append]; exact atI_last _ _⟩
end
def rowD (r : Rw) : PyData := .list [.str r.1, .int (r.2 : Int)]
theorem dp_rows {K : PySem.W.Frag} {H : Hp} : ∀ {as : List Addr} {L : List Rw}, as.length = L.length → (∀ (i : Nat) (a : Addr) (r : Rw), as[i]? = some a → L[i]? = some r → H a = some (.lst (rowV r))) → DpAll K H (as.map V.ref) (L.map rowD)
  | [], [], _, _ => .nil
  | a :: as, r :: L, hl, h => .cons (.lst (SqL.of (h 0 a r rfl rfl)) (.cons (.str _) (.cons (.int _) .nil))) (dp_rows (Nat.succ.inj hl) fun i b q h1 h2 => h (i + 1) b q h1 h2)
  | [], r :: L, hl, _ => by cases hl
  | a :: as, [], hl, _ => by cases hl
def tagOk (r : Rw) : Prop := PyData.strOk r.1 = true
theorem lay_rows : ∀ {L : List Rw}, (∀ r ∈ L, tagOk r) → PyData.canLayAll0 (L.map rowD) = true
  | [], _ => rfl
  | r :: L, h => by
    have h1 : PyData.strOk r.1 = true := h r (List.mem_cons_self ..)
    rw [List.map_cons, PyData.canLayAll0, lay_rows fun q hq => h q (List.mem_cons_of_mem _ hq)]
    unfold rowD
    rw [PyData.canLay0, PyData.canLayAll0, PyData.canLay0, h1]
    rfl
theorem deep_rows : ∀ L : List Rw, PyData.depthAll (L.map rowD) ≤ 1
  | [] => by rw [List.map_nil, PyData.depthAll]; decide
  | r :: L => by
    rw [List.map_cons, PyData.depthAll]
    have := deep_rows L
    have h : PyData.depth (rowD r) = 1 := rfl
    omega
theorem shaped_rows {L : List Rw} (h : ∀ r ∈ L, tagOk r) : SeqAt.shaped (.list (L.map rowD)) = true := by
  unfold SeqAt.shaped
  rw [PyData.canLay0, PyData.depth, lay_rows h, Bool.true_and]
  have := deep_rows L
  exact decide_eq_true (by omega)
theorem eqv_nilR (ds : List PyData) : PyData.eqv (.list ds) (.list []) = ds.isEmpty := by
  cases ds <;> rfl
theorem rows_tags (k : Nat) : ∀ fs : List Fr, ∀ r ∈ rows k fs, tagOk r
  | [], r, h => by
    simp [rows] at h
    rw [h]
    show PyData.strOk "one" = true
    decide +kernel
  | .par :: fs, r, h => by
    rw [rows, List.mem_append] at h
    rcases h with h | h
    · exact rows_tags k fs r h
    · rw [List.mem_singleton.mp h]
      show PyData.strOk "(" = true
      decide +kernel
  | .pap j :: fs, r, h => by
    rw [rows, List.mem_append] at h
    rcases h with h | h
    · exact rows_tags k fs r h
    · simp at h
      rcases h with h | h <;> rw [h]
      · show PyData.strOk "[" = true
        decide +kernel
      · show PyData.strOk "one" = true
        decide +kernel
theorem rows_len (k : Nat) : ∀ fs : List Fr, (rows k fs).length ≤ 2 * fs.length + 1
  | [] => by simp [rows]
  | .par :: fs => by
    have := rows_len k fs
    rw [rows, List.length_append, List.length_cons]
    simp
    omega
  | .pap j :: fs => by
    have := rows_len k fs
    rw [rows, List.length_append, List.length_cons]
    simp
    omega
theorem want_top {k : Nat} {fs : List Fr} (h : Want k fs) (t : (topRw k fs).1 = ("one" : Str)) : 0 < (topRw k fs).2 := by
  match fs, h with
  | [], h => exact h
  | .par :: r, _ => exact absurd t (by show ¬ (("(" : Str) = "one"); decide +kernel)
  | .pap j :: r, h => exact h
theorem top_par (k : Nat) (fs : List Fr) : decide ((topRw k fs).1 = ("(" : Str)) = isPar fs := by
  match fs with
  | [] => show decide (("one" : Str) = "(") = false; decide +kernel
  | .par :: r => show decide (("(" : Str) = "(") = true; decide +kernel
  | .pap j :: r => show decide (("one" : Str) = "(") = false; decide +kernel
theorem less_val {k : Nat} {fs : List Fr} (h : Want k fs) : ((topRw k fs).2 : Int) - (if decide (V.str (topRw k fs).1 = V.str ("one" : Str)) = true then 1 else 0) = ((lessRw (topRw k fs)).2 : Int) := by
  rw [strEq]
  unfold lessRw
  by_cases t : (topRw k fs).1 = ("one" : Str)
  · have := want_top h t
    rw [decide_eq_true t, if_pos rfl, if_pos t]
    omega
  · rw [decide_eq_false t, if_neg Bool.false_ne_true, if_neg t]
    omega
theorem less_row {k : Nat} {fs : List Fr} (h : Want k fs) : (rowV (topRw k fs)).set 1 (.int (((topRw k fs).2 : Int) - (if decide (V.str (topRw k fs).1 = V.str ("one" : Str)) = true then 1 else 0))) = rowV (lessRw (topRw k fs)) := by
  rw [less_val h]
  rfl
theorem stk_less {H0 H : Hp} {ll b : Addr} {as : List Addr} {k : Nat} {fs : List Fr} (h : Stk H0 H ll (as ++ [b]) (rows k fs)) (hw : Want k fs) :
    Stk H0 (upd H b (.lst ((rowV (topRw k fs)).set 1 (.int (((topRw k fs).2 : Int) - (if decide (V.str (topRw k fs).1 = V.str ("one" : Str)) = true then 1 else 0)))))) ll (as ++ [b]) (rows (less k fs).1 (less k fs).2) := by
  rw [less_row hw, rows_less]
  rw [rows_top] at h
  exact h.set _
theorem Stk.lastN {H0 H : Hp} {ll a : Addr} {as : List Addr} {L : List Rw} (h : Stk H0 H ll (as ++ [a]) L) : ((as ++ [a]).map V.ref)[((as ++ [a]).map V.ref).length - 1]? = some (V.ref a) := by
  rw [List.map_append, List.map_singleton, List.length_append, List.length_singleton, Nat.add_sub_cancel, List.getElem?_append_right (Nat.le_refl _), Nat.sub_self]
  rfl
theorem row_set (r : Rw) (n : Nat) : (rowV r).set 1 (.int (n : Int)) = rowV (r.1, n) := rfl
theorem want_not {k : Nat} {fs : List Fr} (h : ¬ Want k fs) : (fs = [] ∧ k = 0) ∨ ∃ r, fs = .pap 0 :: r := by
  match fs with
  | [] => exact .inl ⟨rfl, Nat.eq_zero_of_not_pos h⟩
  | .par :: r => exact absurd trivial h
  | .pap j :: r =>
    have : j = 0 := Nat.eq_zero_of_not_pos h
    exact .inr ⟨r, by rw [this]⟩
end Nr
end
set_option maxHeartbeats 8000000
section
/-! NrLRead: _law_tx_read. -/
namespace Nr
open PySem PySem.Spec PyProof.Rows L2 LamX NdefX
/-- what the law's look at one value tells -/
def lookV (ws : List Str) (a : Nat) : List V := match readV ws 30 a with
  | .ok _ a' => [.int (a' : Int), .non]
  | .bad e => [.non, .int (e : Int)]
def spLRead : Sp := fun vs H Q _ => ∃ (wl : Addr) (ws : List Str) (a : Nat), vs = [.ref wl, .int a, .int 0] ∧ H wl = some (.lst (ws.map V.str)) ∧ ws.length ≤ 1000 ∧ (∀ x ∈ ws, x.length ≤ 640 ∧ PyData.strOk x = true) ∧
  ∀ t H', Same H H' → H' t = some (.tup (lookV ws a)) → Q (.ref t) H'
theorem stp_pap0 (ws : List Str) (k a : Nat) (r : List Fr) : stp ws ⟨k, .pap 0 :: r, a⟩ = if ws[a]? = some ("]" : Str) then .go ⟨(less k r).1, (less k r).2, a + 1⟩ else .bad a := rfl
def resM (r : Mr) : List V := match r with
  | .done a => [.int (a : Int), .non]
  | .bad e => [.non, .int (e : Int)]
  | .go s => [.non, .int (s.at' : Int)]
theorem lookV_run (ws : List Str) (a : Nat) (h : ws.length ≤ 1000) : lookV ws a = resM (runM ws 4000 ⟨1, [], a⟩) := by
  rw [run_value ws a 4000 (by omega)]
  unfold lookV
  cases readV ws 30 a <;> rfl
section
variable {P : Program} {w : World} {K : PySem.W.Frag} {mg : Str → Option Value} {base : Heap}
theorem scLRead : FnScope ["words", "at", "deep", "many", "line", "spot", "turn", "while_open", "word", "height", "one"] ["words", "at", "deep"] (defScope sLRead) := ⟨rfl, rfl, rfl, by decide +kernel, rfl, by decide +kernel, by decide +kernel⟩
theorem ok_lread {f fM fI : Addr} {fd fdM fdI : FuncData} (F : Fun K "_law_tx_read" "_law_tx_read" sLRead f fd) (G : GF mg)
    (FM : Fun K "_law_tx_many" "_law_tx_many" sMany fM fdM) (bM : Binds K fdM [] []) (mM : mg "_law_tx_many" = some (.ref fM)) (OM : FnOk P w K mg base CX0 1 fM fdM [] spMany)
    (FI : Fun K "_law_tx_integer" "_law_tx_integer" sLInt fI fdI) (bI : Binds K fdI ["word"] []) (mI : mg "_law_tx_integer" = some (.ref fI)) (OI : FnOk P w K mg base CX0 2 fI fdI ["word"] spLInt) :
    FnOk P w K mg base CX0 3 f fd ["words", "at", "deep"] spLRead := by
  have nd := scLRead.nd
  refine F.ok scLRead (fun vs H Q E h => ?_) (fun cdv A outer s H vs Q E hr h => ?_)
  · obtain ⟨_, _, _, rfl, _⟩ := h
    rfl
  · obtain ⟨wl, ws, a0, rfl, hw, hn, hwl, k⟩ := h
    have hu := hu_of hr
    refine ⟨_, pss_cons (ps_set (i := 3) nd rfl (.inl rfl) (pe_call0 OM (hr.mono (by decide)) rfl mM FM.kp bM .nil pass0))
      (pss_cons (ps_par (i := 4) (j := 5) (by rfl) nd rfl rfl (by decide) rfl rfl (pa_cons (pe_lst (pa_cons (pe_lst (pa_cons pe_str (pa_cons pe_int pa_nil))) pa_nil)) (pa_cons (pe_callTy call_int1 (by rfl) (G.f "int" (by decide +kernel)) (by decide +kernel) (pa_cons (pv 1) pa_nil)) pa_nil)) (by rfl))
      (pss_cons (ps_for PassesOwn.never rfl (pi_range1 (by rfl) (G.f "range" (by decide +kernel)) (pa_cons pe_int pa_nil)) (pg_name (i := 6) nd rfl (Or.inl rfl))
        (pss_cons (ps_set (i := 7) nd rfl (.inl rfl) (pe_ix ix_list (pv 4) (pe_un un_neg pe_int) (fun _ _ => rfl)))
        (pss_cons (ps_if (PW.pt (pw_and (pt_cmpR op_eq (pe_ix ix_list (pv 7) pe_int (fun _ _ => rfl)) pe_str (nomark _)) (pw_and1 (pt_cmpR op_eq (pe_ix ix_list (pv 7) pe_int (fun _ _ => rfl)) pe_int (nomark _)))))
          (pss_cons (ps_expr (pe_bm0 PySem.F.plainAttrs_list PySem.F.slot_list_pop PySem.F.type_list_pop mt_pop (pv 4)))
          (pss_cons (ps_if (pt_cmpR (op_eqD hr.units) (pv 4) (pe_lst pa_nil) (nomark _)) (pss_one (ps_ret (pe_tup (pa_cons (pv 5) (pa_cons pe_non pa_nil))))) pss_nil)
          (pss_cons (ps_if (pt_cmpR op_eq (pe_ix ix_list (pe_ix ix_list (pv 4) (pe_un un_neg pe_int) (fun _ _ => rfl)) pe_int (fun _ _ => rfl)) pe_str (nomark _))
            (pss_cons (ps_if (PW.pt (pw_or (pt_cmpR op_ge (pv 5) (pe_callB call_len_seq (by rfl) (G.f "len" (by decide +kernel)) PySem.boot_len (pa_cons (pv 0) pa_nil)) (nomark _)) (pw_or1 (pt_cmpR op_ne (pe_ix ix_list (pv 0) (pv 5) (fun _ _ => rfl)) pe_str (nomark _)))))
              (pss_one (ps_ret (pe_tup (pa_cons pe_non (pa_cons (pv 5) pa_nil))))) pss_nil)
            (pss_cons (ps_expr (pe_bm0 PySem.F.plainAttrs_list PySem.F.slot_list_pop PySem.F.type_list_pop mt_pop (pv 4)))
            (pss_cons (ps_set (i := 5) nd rfl (.inl rfl) (pe_op op_add (pv 5) pe_int))
            (pss_one (ps_asg (pe_op op_sub (pe_ix ix_list (pe_ix ix_list (pv 4) (pe_un un_neg pe_int) (fun _ _ => rfl)) pe_int (fun _ _ => rfl)) (pe_callTy call_int1 (by rfl) (G.f "int" (by decide +kernel)) (by decide +kernel) (pa_cons (pe_cmpR op_eq (pe_ix ix_list (pe_ix ix_list (pv 4) (pe_un un_neg pe_int) (fun _ _ => rfl)) pe_int (fun _ _ => rfl)) pe_str (nomark _)) pa_nil)))
              (pg_sub (pe_ix ix_list (pv 4) (pe_un un_neg pe_int) (fun _ _ => rfl)) pe_int set_list)))))) pss_nil)
          (pss_one ps_continue)))) pss_nil)
        (pss_cons (ps_if (pt_cmpR op_ge (pv 5) (pe_callB call_len_seq (by rfl) (G.f "len" (by decide +kernel)) PySem.boot_len (pa_cons (pv 0) pa_nil)) (nomark _)) (pss_one (ps_ret (pe_tup (pa_cons pe_non (pa_cons (pv 5) pa_nil))))) pss_nil)
        (pss_cons (ps_par (i := 8) (j := 9) (by rfl) nd rfl rfl (by decide) rfl rfl (pa_cons (pe_ix ix_list (pv 0) (pv 5) (fun _ _ => rfl)) (pa_cons (pe_op op_add (pv 2) (pe_callB call_len_seq (by rfl) (G.f "len" (by decide +kernel)) PySem.boot_len (pa_cons
            (pe_lc (own := [("one", 10)]) (g := gName 10) (tt := _) rfl nd (pi_list (pv 4)) (blkOk_by (N := ["words", "at", "deep", "many", "line", "spot", "turn", "while_open", "word", "height", "one"]) (sc := defScope sLRead) (by decide +kernel)) (fun _ _ _ _ _ => pg_name (i := 10) nd rfl (Or.inl rfl)) (fun _ _ _ _ _ => pts_one (pt_cmpR op_ne (pe_ix (show IxR _ (rIxL K) from ix_list) (pv 10) pe_int (fun _ _ => rfl)) pe_str (nomark _)))
              (fun _ _ _ _ _ => pv 10)) pa_nil))) pa_nil)) (by rfl))
        (pss_cons (ps_if (PW.pt (pw_and (pt_cmpR op_eq (pv 8) pe_str (nomark _)) (pw_and1 (pt_cmpR op_eq (pe_ix ix_list (pv 7) pe_int (fun _ _ => rfl)) pe_str (nomark _)))))
          (pss_cons (ps_expr (pe_bm0 PySem.F.plainAttrs_list PySem.F.slot_list_pop PySem.F.type_list_pop mt_pop (pv 4)))
          (pss_one (ps_asg (pe_op op_sub (pe_ix ix_list (pe_ix ix_list (pv 4) (pe_un un_neg pe_int) (fun _ _ => rfl)) pe_int (fun _ _ => rfl)) (pe_callTy call_int1 (by rfl) (G.f "int" (by decide +kernel)) (by decide +kernel) (pa_cons (pe_cmpR op_eq (pe_ix ix_list (pe_ix ix_list (pv 4) (pe_un un_neg pe_int) (fun _ _ => rfl)) pe_int (fun _ _ => rfl)) pe_str (nomark _)) pa_nil)))
              (pg_sub (pe_ix ix_list (pv 4) (pe_un un_neg pe_int) (fun _ _ => rfl)) pe_int set_list))))
          (pss_one (ps_if (PW.pt (pw_and (pt_cmpR op_eq (pv 8) pe_str (nomark _)) (pw_and1 (pt_cmpR op_lt (pv 9) pe_int (nomark _)))))
            (pss_one (ps_expr (pe_bm PySem.F.plainAttrs_list PySem.F.slot_list_append PySem.F.type_list_append mt_append (pv 4) (pa_cons (pe_lst (pa_cons pe_str (pa_cons pe_int pa_nil))) pa_nil))))
            (pss_one (ps_if (PW.pt (pw_and (pt_cmpR op_eq (pv 8) pe_str (nomark _)) (pw_and1 (pt_cmpR op_lt (pv 9) pe_int (nomark _)))))
              (pss_cons (ps_if (PW.pt (pw_or (pt_cmpR op_ge (pe_op op_add (pv 5) pe_int) (pe_callB call_len_seq (by rfl) (G.f "len" (by decide +kernel)) PySem.boot_len (pa_cons (pv 0) pa_nil)) (nomark _)) (pw_or1 (pt_cmp (pc_dnotin hu (pe_ix ix_list (pv 0) (pe_op op_add (pv 5) pe_int) (fun _ _ => rfl)) (pv 3))))))
                (pss_one (ps_ret (pe_tup (pa_cons pe_non (pa_cons (pe_op op_add (pv 5) pe_int) pa_nil))))) pss_nil)
              (pss_cons (ps_expr (pe_bm PySem.F.plainAttrs_list PySem.F.slot_list_append PySem.F.type_list_append mt_append (pv 4) (pa_cons (pe_lst (pa_cons pe_str (pa_cons pe_int pa_nil))) pa_nil)))
              (pss_cons (ps_expr (pe_bm PySem.F.plainAttrs_list PySem.F.slot_list_append PySem.F.type_list_append mt_append (pv 4) (pa_cons (pe_lst (pa_cons pe_str (pa_cons (pe_dget hu (pv 3) (pe_ix ix_list (pv 0) (pe_op op_add (pv 5) pe_int) (fun _ _ => rfl)) (fun _ _ => rfl)) pa_nil))) pa_nil)))
              (pss_one (ps_set (i := 5) nd rfl (.inl rfl) (pe_op op_add (pv 5) pe_int))))))
              (pss_one (ps_if (PW.pt (pw_or (pt_cmpR op_in_seq (pv 8) (pe_tup (pa_cons pe_str (pa_cons pe_str (pa_cons pe_str pa_nil)))) (by rfl)) (pw_or1 (pt_val (pe_call OI hr rfl mI FI.kp bI .nil pass0 (pa_cons (pv 8) pa_nil))))))
                (pss_one (ps_asg (pe_op op_sub (pe_ix ix_list (pv 7) pe_int (fun _ _ => rfl)) (pe_callTy call_int1 (by rfl) (G.f "int" (by decide +kernel)) (by decide +kernel) (pa_cons (pe_cmpR op_eq (pe_ix ix_list (pv 7) pe_int (fun _ _ => rfl)) pe_str (nomark _)) pa_nil))) (pg_sub (pv 7) pe_int set_list)))
                (pss_one (ps_ret (pe_tup (pa_cons pe_non (pa_cons (pv 5) pa_nil))))))))))))
        (pss_one (ps_set (i := 5) nd rfl (.inl rfl) (pe_op op_add (pv 5) pe_int)))))))))
      (pss_one (ps_ret (pe_tup (pa_cons pe_non (pa_cons (pv 5) pa_nil))))))), ?_⟩
    have h1len : (1 : Nat) ≤ sizeLine := by decide
    have h2len : (2 : Nat) ≤ sizeLine := by decide
    refine ⟨rfl, fun md H1 s1 nmd hmd => ⟨h2len, fun a ha => ⟨h1len, fun ll hll => ⟨_, rfl, .inl ⟨(a0 : Int), rfl, _, _, rfl, ?_⟩⟩⟩⟩⟩
    have hwl1 := s1 _ _ hw
    have stk0 : Stk H1 (upd (upd H1 a (.lst (rowV (("one" : Str), 1)))) ll (.lst [.ref a])) ll [a] (rows 1 []) := by
      have hal : a ≠ ll := fun e => by rw [e, upd_same] at hll; cases hll
      refine ⟨upd_same, ?_, fun z => hal (List.mem_singleton.mp z).symm, fun b hb => by rw [List.mem_singleton.mp hb]; exact ha, ?_, same_new (same_new (Same.refl H1) ha) ?_⟩
      · refine Rows.upd ?_ fun z => hal (List.mem_singleton.mp z).symm
        exact Rows.nil.snoc (as := []) (L := []) (by simp) upd_same
      · rw [upd_ne (Ne.symm hal)] at hll; exact hll
      · rw [upd_ne (Ne.symm hal)] at hll; exact hll
    have lookEq := lookV_run ws a0 hn
    refine ⟨4000, rfl, by decide, by decide, for_range (n := 4000) (fun i σ Hx => ∃ (kk : Nat) (fs : List Fr) (sp : Nat) (as : List Addr) (x6 x7 x8 x9 x10 : Option V), σ = [some (.ref wl), some (.int (a0 : Int)), some (.int 0), some (.ref md), some (.ref ll), some (.int (sp : Int)), x6, x7, x8, x9, x10] ∧
      runM ws i ⟨1, [], a0⟩ = .go ⟨kk, fs, sp⟩ ∧ Stk H1 Hx ll as (rows kk fs) ∧ OkFs kk fs ∧ fs.length ≤ 30) ⟨1, [], a0, [a], _, _, _, _, _, rfl, rfl, stk0, trivial, by decide⟩ (fun i σ Hx hi hP => ?_) (fun σ Hx hP => ?_)⟩
    · obtain ⟨kk, fs, sp, as, x6, x7, x8, x9, x10, rfl, hrun, stk, hok, hfl⟩ := hP
      have hwx : Hx wl = some (.lst (ws.map V.str)) := stk.same _ _ hwl1
      have hmx : Hx md = some (.dK manyD) := stk.same _ _ hmd
      -- the machine's turn
      have fin : ∀ r, (∀ s, r ≠ .go s) → stp ws ⟨kk, fs, sp⟩ = r → lookV ws a0 = resM r := fun r hr hs => by
        have e : runM ws (i + 1) ⟨1, [], a0⟩ = r := by
          rw [runM_add ws i 1 _ _ hrun, runM_succ, hs]
          cases r with
          | go s => exact absurd rfl (hr s)
          | done a => rfl
          | bad e => rfl
        have := runM_end ws hr (i + 1) (4000 - (i + 1)) _ e
        rw [show i + 1 + (4000 - (i + 1)) = 4000 by omega] at this
        rw [lookEq, this]
      have next : ∀ s', stp ws ⟨kk, fs, sp⟩ = .go s' → runM ws (i + 1) ⟨1, [], a0⟩ = .go s' := fun s' hs => by
        rw [runM_add ws i 1 _ _ hrun]
        exact run_one ws hs
      have giveBad : ∀ (e : Nat) (Hy : Hp), Same H1 Hy → lookV ws a0 = [.non, .int (e : Int)] → [V.non, V.int (e : Int)].length ≤ sizeLine ∧ ∀ l, Hy l = none → Q (.ref l) (upd Hy l (.tup [.non, .int (e : Int)])) := fun e Hy sy hl => ⟨h2len, fun t ht => k t _ (same_new (s1.trans sy) (same_none (s1.trans sy) ht)) (by rw [hl, upd_same])⟩
      obtain ⟨as', a', rfl, ha'⟩ := (show Stk H1 Hx ll as (under1 kk fs ++ [topRw kk fs]) by rw [← rows_top]; exact stk).top
      refine ⟨_, rfl, _, rfl, ll, _, -1, .ref a', rfl, rfl, (stk.last (K := K)).1, (stk.last (K := K)).2, ?_⟩
      by_cases cW : Want kk fs
      · have sv := stp_val ws (a := sp) cW
        refine ⟨_, rfl, a', _, 0, _, rfl, rfl, SqL.of ha', rfl, rfl, _, rfl, ?_⟩
        rw [strEq]
        refine (fun r => ite2 (fun h1 => ⟨_, rfl, a', _, 1, _, rfl, rfl, SqL.of ha', rfl, rfl, _, rfl, by
          have h1 := of_decide_eq_true h1
          have h2 := want_top cW h1
          rw [decide_eq_false (fun z => by have := V.int.inj z; omega)]
          exact r⟩) (fun _ => r)) ?_
        refine iteF ⟨_, rfl, _, rfl, wl, _, rfl, .inl (SqL.of hwx), _, _, rfl, rfl, _, rfl, ?_⟩
        rw [List.length_map]
        by_cases c0 : ws.length ≤ sp
        · rw [decide_eq_true (show (sp : Int) ≥ (ws.length : Int) by omega)]
          have e0 : ws[sp]? = none := List.getElem?_eq_none c0
          rw [e0] at sv
          exact iteT ⟨_, rfl, giveBad sp Hx stk.same (fin (.bad sp) (fun _ z => nomatch z) sv)⟩
        · rw [decide_eq_false (show ¬ (sp : Int) ≥ (ws.length : Int) by omega)]
          obtain ⟨x, e0⟩ : ∃ x, ws[sp]? = some x := ⟨_, List.getElem?_eq_getElem (by omega)⟩
          have hxm : x ∈ ws := List.mem_of_getElem? e0
          rw [e0] at sv
          dsimp only at sv
          have hrl := rows_len kk fs
          refine iteF ⟨_, rfl, _, rfl, wl, _, _, .str x, rfl, rfl, SqL.of hwx, atI_nat (by rw [List.getElem?_map, e0]; rfl), _, rfl, _, rfl, ll, rfl, ⟨_, SqL.of stk.at_⟩, fun D hD => lc_it (walk_list (xs := (as' ++ [a']).map V.ref)) (fun j Hy => ∃ acc, Hy D = some (.lst acc) ∧ acc.length = (((rows kk fs).take j).filter fun r : Rw => !decide (r.1 = ("one" : Str))).length ∧ Same Hx Hy)
            ⟨[], upd_same, rfl, same_new (Same.refl Hx) hD⟩ (fun j Hy hj hP => SqL.of (hP.choose_spec.2.2 _ _ stk.at_)) (fun j y Hy H2 hj hP hy => ?_) (fun Hy hP => ?_)⟩
          · obtain ⟨rfl, hy⟩ := hy
            obtain ⟨acc, hD1, hacc, sy⟩ := hP
            rw [List.getElem?_map] at hy
            obtain ⟨b, hb, rfl⟩ : ∃ b, (as' ++ [a'])[j]? = some b ∧ y = .ref b := by
              cases q1 : (as' ++ [a'])[j]? with
              | none => rw [q1] at hy; cases hy
              | some y' => rw [q1] at hy; cases hy; exact ⟨y', rfl, rfl⟩
            obtain ⟨r, hr⟩ : ∃ r, (rows kk fs)[j]? = some r := ⟨_, List.getElem?_eq_getElem (by rw [← stk.rows.len]; exact (List.getElem?_eq_some_iff.mp hb).1)⟩
            have hbr := sy _ _ (stk.rows.at_ j b r hb hr)
            have et : (rows kk fs).take (j + 1) = (rows kk fs).take j ++ [r] := by
              rw [List.take_succ, hr]
              rfl
            have hfl2 : (((rows kk fs).take j).filter fun r : Rw => !decide (r.1 = ("one" : Str))).length ≤ (rows kk fs).length := Nat.le_trans (List.length_filter_le _ _) (by rw [List.length_take]; omega)
            refine ⟨rfl, _, rfl, b, _, 0, _, rfl, rfl, SqL.of hbr, rfl, rfl, _, rfl, ?_⟩
            rw [strEq]
            refine ite2 (fun h1 => ⟨_, rfl, acc, hD1, small1000 (by omega), _, upd_same, ?_, same_new sy hD⟩) (fun h1 => ⟨acc, hD1, ?_, sy⟩)
            · rw [List.length_append, hacc, et, List.filter_append, List.length_append]
              simp [h1]
            · rw [hacc, et, List.filter_append, List.length_append]
              simp at h1
              simp [h1]
          · obtain ⟨acc, hD1, hacc, sy⟩ := hP
            have haccn : acc.length = fs.length := by
              rw [hacc, List.length_map, List.take_of_length_le (by rw [stk.rows.len]; exact Nat.le_refl _), rows_count]
            have stk2 := stk.ext sy
            have ha2 := sy _ _ ha'
            have hw2 := sy _ _ hwx
            have hm2 := sy _ _ hmx
            refine ⟨D, acc, rfl, .inl (SqL.of hD1), _, _, rfl, rfl, _, _, rfl, ?_⟩
            rw [haccn]
            refine ⟨_, rfl, rfl, _, rfl, ?_⟩
            rw [strEq]
            by_cases c1 : x = ")" ∧ isPar fs = true
            · rw [if_pos c1] at sv
              obtain ⟨r, rfl⟩ : ∃ r, fs = .par :: r := by
                match fs, c1.2 with
                | .par :: r, _ => exact ⟨r, rfl⟩
              rw [decide_eq_true c1.1]
              refine iteT ⟨_, rfl, a', _, 0, _, rfl, rfl, SqL.of ha2, rfl, rfl, _, rfl, ?_⟩
              rw [strEq, top_par, c1.2]
              refine iteT ⟨_, rfl, .inl ⟨rfl, _, SqL.of stk2.at_⟩, ll, _, .ref a', rfl, rfl, stk2.at_, stk2.lastN, ?_⟩
              have stk3 := Stk.pop (L := rows kk r) (r := (("(" : Str), 0)) stk2
              obtain ⟨as2, b, rfl, hb⟩ := (show Stk H1 _ ll as' (under1 kk r ++ [topRw kk r]) by rw [← rows_top]; exact stk3).top
              refine ⟨_, rfl, _, rfl, ll, _, -1, .ref b, rfl, rfl, (stk3.last (K := K)).1, (stk3.last (K := K)).2, b, _, 1, _, rfl, rfl, SqL.of hb, rfl, _, rfl, _, rfl, ll, _, -1, .ref b, rfl, rfl, (stk3.last (K := K)).1, (stk3.last (K := K)).2, b, _, 0, _, rfl, rfl, SqL.of hb, rfl, rfl, .inr ⟨_, rfl, _, _, rfl, rfl, _, rfl, _, rfl, ll, _, -1, .ref b, rfl, rfl, (stk3.last (K := K)).1, (stk3.last (K := K)).2, b, _, 1, 1, rfl, rfl, hb, rfl, ?_⟩⟩
              exact ⟨_, rfl, _, _, rfl, rfl, (less kk r).1, (less kk r).2, sp + 1, as2 ++ [b], _, _, _, _, _, rfl, next _ sv, stk_less stk3 hok.1, ok_less hok.2, by
                have h1 : (less kk r).2.length ≤ r.length := by
                  unfold less
                  split <;> simp
                rw [List.length_cons] at hfl
                omega⟩
            · rw [if_neg c1] at sv
              refine (fun r => ite2 (fun h1 => ⟨_, rfl, a', _, 0, _, rfl, rfl, SqL.of ha2, rfl, rfl, _, rfl, by
                rw [strEq, top_par]
                have h1 := of_decide_eq_true h1
                have : isPar fs = false := by
                  cases q1 : isPar fs with
                  | false => rfl
                  | true => exact absurd ⟨h1, q1⟩ c1
                rw [this]
                exact r⟩) (fun _ => r)) ?_
              refine iteF ⟨_, rfl, rfl, _, rfl, ?_⟩
              rw [strEq]
              have hlt : decide ((0 : Int) + (fs.length : Int) < 30) = decide (fs.length < 30) := by
                by_cases q1 : fs.length < 30
                · rw [decide_eq_true q1, decide_eq_true (by omega)]
                · rw [decide_eq_false q1, decide_eq_false (by omega)]
              have hsz : ((as' ++ [a']).map V.ref).length < sizeLine := by
                rw [List.length_map, stk.rows.len]
                exact small1000 (by omega)
              by_cases c2 : x = "(" ∧ fs.length < 30
              · rw [if_pos c2] at sv
                rw [decide_eq_true c2.1]
                refine iteT ⟨_, rfl, _, _, rfl, rfl, _, rfl, ?_⟩
                rw [hlt, decide_eq_true c2.2]
                refine iteT ⟨_, rfl, .inl ⟨rfl, _, SqL.of stk2.at_⟩, h2len, fun q hq => ⟨ll, _, _, rfl, rfl, by rw [upd_ne (ne_of_none stk2.at_ hq)]; exact stk2.at_, hsz, ?_⟩⟩
                exact ⟨_, rfl, _, _, rfl, rfl, kk, .par :: fs, sp + 1, as' ++ [a'] ++ [q], _, _, _, _, _, rfl, next _ sv, stk2.push (r := (("(" : Str), 0)) hq, ⟨cW, hok⟩, by rw [List.length_cons]; omega⟩
              · rw [if_neg c2] at sv
                refine (fun r => ite2 (fun h1 => ⟨_, rfl, _, _, rfl, rfl, _, rfl, by
                  have h1 := of_decide_eq_true h1
                  rw [hlt, decide_eq_false fun z => c2 ⟨h1, z⟩]
                  exact r⟩) (fun _ => r)) ?_
                refine iteF ⟨_, rfl, rfl, _, rfl, ?_⟩
                rw [strEq]
                by_cases c3 : x = "[" ∧ fs.length < 30
                · rw [if_pos c3] at sv
                  rw [decide_eq_true c3.1]
                  refine iteT ⟨_, rfl, _, _, rfl, rfl, _, rfl, ?_⟩
                  rw [hlt, decide_eq_true c3.2]
                  refine iteT ⟨_, rfl, _, _, rfl, rfl, _, rfl, wl, _, rfl, .inl (SqL.of hw2), _, _, rfl, rfl, _, rfl, ?_⟩
                  rw [List.length_map]
                  by_cases c4 : ws.length ≤ sp + 1
                  · rw [decide_eq_true (show (sp : Int) + 1 ≥ (ws.length : Int) by omega)]
                    rw [List.getElem?_eq_none c4] at sv
                    exact iteT (iteT ⟨_, rfl, _, _, rfl, rfl, giveBad (sp + 1) Hy stk2.same (fin (.bad (sp + 1)) (fun _ z => nomatch z) sv)⟩)
                  · rw [decide_eq_false (show ¬ (sp : Int) + 1 ≥ (ws.length : Int) by omega)]
                    obtain ⟨y, ey⟩ : ∃ y, ws[sp + 1]? = some y := ⟨_, List.getElem?_eq_getElem (by omega)⟩
                    rw [ey] at sv
                    dsimp only at sv
                    have aty : atI (ws.map V.str) ((sp : Int) + 1) = some (.str y) := atI_nat (j := sp + 1) (by rw [List.getElem?_map, ey]; rfl)
                    refine iteF ⟨_, rfl, _, rfl, _, _, rfl, rfl, wl, _, _, .str y, rfl, rfl, SqL.of hw2, aty, _, rfl, md, _, rfl, DGet.k (k := Sum.inr y) hm2, _, rfl, ?_⟩
                    rw [manyD_val]
                    cases em : many y with
                    | none =>
                      rw [em] at sv
                      exact iteT ⟨_, rfl, _, _, rfl, rfl, giveBad (sp + 1) Hy stk2.same (fin (.bad (sp + 1)) (fun _ z => nomatch z) sv)⟩
                    | some j =>
                      rw [em] at sv
                      dsimp only at sv
                      refine iteF ⟨_, rfl, .inl ⟨rfl, _, SqL.of stk2.at_⟩, h2len, fun q hq => ⟨ll, _, _, rfl, rfl, by rw [upd_ne (ne_of_none stk2.at_ hq)]; exact stk2.at_, hsz, ?_⟩⟩
                      have stk3 := stk2.push (r := (("[" : Str), 0)) hq
                      have hsz3 : ((as' ++ [a']).map V.ref ++ [V.ref q]).length < sizeLine := by
                        rw [List.length_append, List.length_map, stk.rows.len, List.length_singleton]
                        exact small1000 (by omega)
                      have hw3 := stk3.same _ _ hwl1
                      have hm3 := stk3.same _ _ hmd
                      have dg : ∀ Hz : Hp, Hz md = some (.dK manyD) → DGet Hz md (.str y) (some (.int (j : Int))) := fun Hz hz => by
                        have := DGet.k (k := Sum.inr y) hz
                        rw [manyD_val, em] at this
                        exact this
                      refine ⟨_, rfl, .inl ⟨rfl, _, SqL.of stk3.at_⟩, _, rfl, _, rfl, _, rfl, _, _, rfl, rfl, wl, _, _, .str y, rfl, rfl, SqL.of hw3, aty, md, _, rfl, dg _ hm3, h2len, fun q2 hq2 => ⟨ll, _, _, rfl, rfl, by rw [upd_ne (ne_of_none stk3.at_ hq2)]; exact stk3.at_, by rw [List.map_append]; exact hsz3, ?_⟩⟩
                      have stk4 := stk3.push (r := (("one" : Str), j)) hq2
                      have e4 : (as' ++ [a'] ++ [q]).map V.ref = (as' ++ [a']).map V.ref ++ [V.ref q] := by rw [List.map_append]; rfl
                      have e5 : rows kk fs ++ [(("[" : Str), 0)] ++ [(("one" : Str), j)] = rows kk (.pap j :: fs) := by simp [rows]
                      rw [e5] at stk4
                      exact ⟨_, rfl, _, _, rfl, rfl, _, rfl, _, _, rfl, rfl, kk, .pap j :: fs, sp + 2, _, _, _, _, _, _, rfl, next _ sv, stk4, ⟨cW, hok⟩, by rw [List.length_cons]; omega⟩
                · rw [if_neg c3] at sv
                  refine (fun r => ite2 (fun h1 => ⟨_, rfl, _, _, rfl, rfl, _, rfl, by
                    have h1 := of_decide_eq_true h1
                    rw [hlt, decide_eq_false fun z => c3 ⟨h1, z⟩]
                    exact r⟩) (fun _ => r)) ?_
                  refine iteF ⟨_, rfl, (show 3 ≤ sizeLine by decide), fun q hq => ?_⟩
                  have sq : Same Hy (upd Hy q (.tup [.str "none", .str "yes", .str "no"])) := same_new (Same.refl Hy) hq
                  have stk3 := stk2.ext sq
                  have ha3 := sq _ _ ha2
                  refine ⟨q, [.str "none", .str "yes", .str "no"], rfl, .inr (SqT.of upd_same), rfl, rfl, _, rfl, ?_⟩
                  have e2 : inV (.str x) [.str "none", .str "yes", .str "no"] = decide (x ∈ [("none" : Str), "yes", "no"]) := inV_str x ["none", "yes", "no"]
                  rw [if_neg Bool.false_ne_true, e2]
                  have lessEnd : ∀ Hz : Hp, Same Hy Hz → isFlat x = true → ∀ Hq, Hq = upd Hz a' (.lst ((rowV (topRw kk fs)).set 1 (.int (((topRw kk fs).2 : Int) - (if decide (V.str (topRw kk fs).1 = V.str ("one" : Str)) = true then 1 else 0))))) → Stk H1 Hq ll (as' ++ [a']) (rows (less kk fs).1 (less kk fs).2) ∧ stp ws ⟨kk, fs, sp⟩ = .go ⟨(less kk fs).1, (less kk fs).2, sp + 1⟩ ∧ (less kk fs).2.length ≤ 30 := fun Hz sz hf Hq e => by
                    subst e
                    rw [if_pos hf] at sv
                    refine ⟨stk_less (stk2.ext sz) cW, sv, ?_⟩
                    have h1 : (less kk fs).2.length ≤ fs.length := by
                      unfold less
                      split <;> simp
                    omega
                  by_cases c5 : x ∈ [("none" : Str), "yes", "no"]
                  · have hf : isFlat x = true := by
                      unfold isFlat
                      simp only [List.mem_cons, List.not_mem_nil, or_false] at c5
                      rcases c5 with c5 | c5 | c5 <;> simp [c5]
                    rw [decide_eq_true c5]
                    refine iteT (iteT ⟨_, rfl, a', _, 1, _, rfl, rfl, SqL.of ha3, rfl, _, rfl, a', _, 0, _, rfl, rfl, SqL.of ha3, rfl, rfl, .inr ⟨_, rfl, _, _, rfl, rfl, _, rfl, a', _, 1, 1, rfl, rfl, ha3, rfl, ?_⟩⟩)
                    obtain ⟨l1, l2, l3⟩ := lessEnd _ sq hf _ rfl
                    exact ⟨_, rfl, _, _, rfl, rfl, (less kk fs).1, (less kk fs).2, sp + 1, _, _, _, _, _, _, rfl, next _ l2, l1, ok_less hok, l3⟩
                  · rw [decide_eq_false c5]
                    have hfx : isFlat x = isIntW x := by
                      unfold isFlat
                      simp only [List.mem_cons, List.not_mem_nil, or_false, not_or] at c5
                      rw [decide_eq_false c5.1, decide_eq_false c5.2.1, decide_eq_false c5.2.2]
                      rfl
                    refine iteF ⟨_, rfl, x, rfl, Nat.le_trans (hwl x hxm).1 (by decide), (hwl x hxm).2, fun H3 s3 => ⟨_, rfl, ?_⟩⟩
                    have ha4 := s3 _ _ ha3
                    cases hi2 : isIntW x with
                    | true =>
                      refine iteT ⟨_, rfl, a', _, 1, _, rfl, rfl, SqL.of ha4, rfl, _, rfl, a', _, 0, _, rfl, rfl, SqL.of ha4, rfl, rfl, .inr ⟨_, rfl, _, _, rfl, rfl, _, rfl, a', _, 1, 1, rfl, rfl, ha4, rfl, ?_⟩⟩
                      obtain ⟨l1, l2, l3⟩ := lessEnd _ (sq.trans s3) (by rw [hfx, hi2]) _ rfl
                      exact ⟨_, rfl, _, _, rfl, rfl, (less kk fs).1, (less kk fs).2, sp + 1, _, _, _, _, _, _, rfl, next _ l2, l1, ok_less hok, l3⟩
                    | false =>
                      rw [if_neg (by rw [hfx, hi2]; exact Bool.false_ne_true)] at sv
                      exact iteF ⟨_, rfl, giveBad sp H3 (stk2.same.trans (sq.trans s3)) (fin (.bad sp) (fun _ z => nomatch z) sv)⟩
      · rcases want_not cW with ⟨rfl, rfl⟩ | ⟨r, rfl⟩
        · -- the line is told
          obtain rfl : as' = [] := by
            have := stk.rows.len
            rw [List.length_append, show (rows 0 []).length = 1 from rfl, show [a'].length = 1 from rfl] at this
            exact List.eq_nil_of_length_eq_zero (by omega)
          refine ⟨_, rfl, a', _, 0, _, rfl, rfl, SqL.of ha', rfl, rfl, _, rfl, ?_⟩
          rw [strEq, show decide ((topRw 0 ([] : List Fr)).1 = ("one" : Str)) = true from decide_eq_true rfl]
          refine iteT ⟨_, rfl, a', _, 1, _, rfl, rfl, SqL.of ha', rfl, rfl, _, rfl, ?_⟩
          rw [show decide (V.int ((topRw 0 ([] : List Fr)).2 : Int) = V.int 0) = true from decide_eq_true rfl]
          refine iteT ⟨_, rfl, .inl ⟨rfl, _, SqL.of stk.at_⟩, ll, _, .ref a', rfl, rfl, stk.at_, stk.lastN, ?_⟩
          have stk3 := Stk.pop (as := []) (L := []) (r := (("one" : Str), 0)) stk
          refine ⟨_, rfl, (show 0 ≤ sizeLine by decide), fun q hq => ?_⟩
          have sq := same_new (o := .lst []) (Same.refl _) hq
          refine ⟨.list [], .list [], .lst (SqL.of (sq _ _ stk3.at_)) .nil, .lst (SqL.of upd_same) .nil, rfl, rfl, _, rfl, iteT ⟨_, rfl, h2len, fun t ht => k t _ (same_new (s1.trans (stk3.same.trans sq)) (same_none (s1.trans (stk3.same.trans sq)) ht)) ?_⟩⟩
          rw [fin (.done sp) (fun _ z => nomatch z) rfl, upd_same]
          rfl
        · have stk' : Stk H1 Hx ll (as' ++ [a']) ((rows kk r ++ [(("[" : Str), 0)]) ++ [(("one" : Str), 0)]) := by
            have := stk
            rw [show rows kk (.pap 0 :: r) = (rows kk r ++ [(("[" : Str), 0)]) ++ [(("one" : Str), 0)] by simp [rows]] at this
            exact this
          refine ⟨_, rfl, a', _, 0, _, rfl, rfl, SqL.of ha', rfl, rfl, _, rfl, ?_⟩
          rw [strEq, show decide ((topRw kk (.pap 0 :: r)).1 = ("one" : Str)) = true from decide_eq_true rfl]
          refine iteT ⟨_, rfl, a', _, 1, _, rfl, rfl, SqL.of ha', rfl, rfl, _, rfl, ?_⟩
          rw [show decide (V.int ((topRw kk (.pap 0 :: r)).2 : Int) = V.int 0) = true from decide_eq_true rfl]
          refine iteT ⟨_, rfl, .inl ⟨rfl, _, SqL.of stk.at_⟩, ll, _, .ref a', rfl, rfl, stk.at_, stk.lastN, ?_⟩
          have stk3 := stk'.pop
          refine ⟨_, rfl, (show 0 ≤ sizeLine by decide), fun q hq => ?_⟩
          have stk4 := stk3.ext (same_new (o := .lst []) (Same.refl _) hq)
          obtain ⟨as2, b2, rfl, hb2⟩ := stk4.top
          have tags : ∀ x ∈ rows kk r ++ [(("[" : Str), 0)], tagOk x := fun x hx => rows_tags kk (.pap 0 :: r) x (by
            rw [rows]
            rcases List.mem_append.mp hx with z | z
            · exact List.mem_append_left _ z
            · exact List.mem_append_right _ (by rw [List.mem_singleton.mp z]; exact List.mem_cons_self ..))
          refine ⟨_, .list [], .lst (SqL.of stk4.at_) (dp_rows stk4.rows.len stk4.rows.at_), .lst (SqL.of upd_same) .nil, shaped_rows tags, rfl, _, rfl, ?_⟩
          rw [eqv_nilR]
          have e9 : ((rows kk r ++ [(("[" : Str), 0)]).map rowD).isEmpty = false := by simp
          rw [e9]
          refine iteF ⟨_, rfl, _, rfl, ll, _, -1, .ref b2, rfl, rfl, (stk4.last (K := K)).1, (stk4.last (K := K)).2, b2, _, 0, _, rfl, rfl, SqL.of hb2, rfl, rfl, _, rfl, ?_⟩
          rw [strEq, decide_eq_true rfl]
          have hw4 := stk4.same _ _ hwl1
          refine iteT ⟨_, rfl, _, rfl, wl, _, rfl, .inl (SqL.of hw4), _, _, rfl, rfl, _, rfl, ?_⟩
          rw [List.length_map]
          by_cases c0 : ws.length ≤ sp
          · rw [decide_eq_true (show (sp : Int) ≥ (ws.length : Int) by omega)]
            have e0 : ws[sp]? = none := List.getElem?_eq_none c0
            refine iteT (iteT ⟨_, rfl, giveBad sp _ stk4.same (fin (.bad sp) (fun _ z => nomatch z) ?_)⟩)
            rw [stp_pap0, e0, if_neg (fun z => nomatch z)]
          · rw [decide_eq_false (show ¬ (sp : Int) ≥ (ws.length : Int) by omega)]
            obtain ⟨x, e0⟩ : ∃ x, ws[sp]? = some x := ⟨_, List.getElem?_eq_getElem (by omega)⟩
            refine iteF ⟨_, rfl, _, rfl, wl, _, _, .str x, rfl, rfl, SqL.of hw4, atI_nat (by rw [List.getElem?_map, e0]; rfl), rfl, _, rfl, ?_⟩
            rw [strEq]
            by_cases c1 : x = "]"
            · rw [decide_eq_true c1]
              have sv : stp ws ⟨kk, .pap 0 :: r, sp⟩ = .go ⟨(less kk r).1, (less kk r).2, sp + 1⟩ := by
                rw [stp_pap0, e0, c1, if_pos rfl]
              refine iteF ⟨_, rfl, .inl ⟨rfl, _, SqL.of stk4.at_⟩, ll, _, .ref b2, rfl, rfl, stk4.at_, stk4.lastN, ?_⟩
              have stk5 := stk4.pop
              obtain ⟨as3, b, rfl, hb⟩ := (show Stk H1 _ ll as2 (under1 kk r ++ [topRw kk r]) by rw [← rows_top]; exact stk5).top
              refine ⟨_, rfl, _, _, rfl, rfl, ?_⟩
              refine ⟨_, rfl, _, rfl, ll, _, -1, .ref b, rfl, rfl, (stk5.last (K := K)).1, (stk5.last (K := K)).2, b, _, 1, _, rfl, rfl, SqL.of hb, rfl, _, rfl, _, rfl, ll, _, -1, .ref b, rfl, rfl, (stk5.last (K := K)).1, (stk5.last (K := K)).2, b, _, 0, _, rfl, rfl, SqL.of hb, rfl, rfl, .inr ⟨_, rfl, _, _, rfl, rfl, _, rfl, _, rfl, ll, _, -1, .ref b, rfl, rfl, (stk5.last (K := K)).1, (stk5.last (K := K)).2, b, _, 1, 1, rfl, rfl, hb, rfl, ?_⟩⟩
              exact ⟨(less kk r).1, (less kk r).2, sp + 1, as3 ++ [b], _, _, _, _, _, rfl, next _ sv, stk_less stk5 hok.1, ok_less hok.2, by
                have h1 : (less kk r).2.length ≤ r.length := by
                  unfold less
                  split <;> simp
                rw [List.length_cons] at hfl
                omega⟩
            · rw [decide_eq_false c1]
              refine iteT ⟨_, rfl, giveBad sp _ stk4.same (fin (.bad sp) (fun _ z => nomatch z) ?_)⟩
              rw [stp_pap0, e0, if_neg (fun z => c1 (Option.some.inj z))]
    · obtain ⟨kk, fs, sp, as, x6, x7, x8, x9, x10, rfl, hrun, stk, hok, hfl⟩ := hP
      refine ⟨_, rfl, h2len, fun t ht => k t _ (same_new (s1.trans stk.same) (same_none (s1.trans stk.same) ht)) ?_⟩
      rw [lookEq, hrun, upd_same]
      rfl
end
end Nr
end
set_option maxHeartbeats 8000000
section
/-! NrWrong: _law_tx_wrong_paper; the law's words of values and papers. -/
namespace Nr
open PySem PySem.Spec PyProof.Rows L2 LamX NdefX
def wrongV (ws : List Str) : V := match wrongW ws with
  | some e => .int (e : Int)
  | none => .non
structure LWs (ws : List Str) : Prop where
  ne : ws ≠ []
  len : ws.length ≤ 1000
  wl : ∀ x ∈ ws, x.length ≤ 640 ∧ PyData.strOk x = true
def spWrong : Sp := fun vs H Q _ => ∃ (wl : Addr) (ws : List Str), vs = [.ref wl] ∧ H wl = some (.lst (ws.map V.str)) ∧ LWs ws ∧ ∀ H', Same H H' → Q (wrongV ws) H'
section
variable {P : Program} {w : World} {K : PySem.W.Frag} {mg : Str → Option Value} {base : Heap}
theorem scWrong : FnScope ["words", "many", "at", "part", "wrong"] ["words"] (defScope sWrong) := ⟨rfl, rfl, rfl, by decide +kernel, rfl, by decide +kernel, by decide +kernel⟩
theorem ok_wrong {f fM fR : Addr} {fd fdM fdR : FuncData} (F : Fun K "_law_tx_wrong_paper" "_law_tx_wrong_paper" sWrong f fd) (G : GF mg)
    (FM : Fun K "_law_tx_many" "_law_tx_many" sMany fM fdM) (bM : Binds K fdM [] []) (mM : mg "_law_tx_many" = some (.ref fM)) (OM : FnOk P w K mg base CX0 1 fM fdM [] spMany)
    (FR : Fun K "_law_tx_read" "_law_tx_read" sLRead fR fdR) (bR : Binds K fdR ["words", "at", "deep"] []) (mR : mg "_law_tx_read" = some (.ref fR)) (OR : FnOk P w K mg base CX0 3 fR fdR ["words", "at", "deep"] spLRead) :
    FnOk P w K mg base CX0 4 f fd ["words"] spWrong := by
  have nd := scWrong.nd
  refine F.ok scWrong (fun vs H Q E h => ?_) (fun cdv A outer s H vs Q E hr h => ?_)
  · obtain ⟨_, _, rfl, _⟩ := h
    rfl
  · obtain ⟨wl, ws, rfl, hw, ho, k⟩ := h
    have hu := hu_of hr
    refine ⟨_, pss_cons (ps_set (i := 1) nd rfl (.inl rfl) (pe_call0 OM (hr.mono (by decide)) rfl mM FM.kp bM .nil pass0))
      (pss_cons (ps_if (pt_cmp (pc_dnotin hu (pe_ix ix_list (pv 0) pe_int (fun _ _ => rfl)) (pv 1))) (pss_one (ps_ret pe_int)) pss_nil)
      (pss_cons (ps_set (i := 2) nd rfl (.inl rfl) pe_int)
      (pss_cons (ps_for PassesOwn.never rfl (pi_range1 (by rfl) (G.f "range" (by decide +kernel)) (pa_cons (pe_dget hu (pv 1) (pe_ix ix_list (pv 0) pe_int (fun _ _ => rfl)) (fun _ _ => rfl)) pa_nil)) (pg_name (i := 3) nd rfl (Or.inl rfl))
        (pss_cons (ps_asg (pe_call OR hr rfl mR FR.kp bR .nil pass0 (pa_cons (pv 0) (pa_cons (pv 2) (pa_cons pe_int pa_nil)))) (pg_tup (by rfl) (pgs_cons (pg_name (i := 2) nd rfl (.inl rfl)) (pgs_cons (pg_name (i := 4) nd rfl (.inl rfl)) pgs_nil))))
        (pss_one (ps_if (pt_cmpR op_notN (pv 4) pe_non (nomark _)) (pss_one (ps_ret (pv 4))) pss_nil))))
      (pss_one (ps_ret (pe_ifExp (pt_cmpR op_lt (pv 2) (pe_callB call_len_seq (by rfl) (G.f "len" (by decide +kernel)) PySem.boot_len (pa_cons (pv 0) pa_nil)) (nomark _)) (pv 2) pe_non)))))), ?_⟩
    obtain ⟨x, hx⟩ : ∃ x, ws[0]? = some x := by
      cases h0 : ws with
      | nil => exact absurd h0 ho.ne
      | cons y ys => exact ⟨y, rfl⟩
    have ew : wrongW ws = match many x with
      | none => some 0
      | some j => match wrongN ws j 1 with
        | .inr e => some e
        | .inl a => if a < ws.length then some a else none := by
      unfold wrongW
      rw [hx]
      all_goals
        dsimp only
        cases many x with
        | none => rfl
        | some j =>
          dsimp only
          cases wrongN ws j 1 <;> rfl
    refine ⟨rfl, fun md H1 s1 nmd hmd => ?_⟩
    have hw1 := s1 _ _ hw
    have at0 : atI (ws.map V.str) (0 : Int) = some (.str x) := atI_nat (j := 0) (by rw [List.getElem?_map, hx]; rfl)
    refine ⟨_, rfl, wl, _, _, .str x, rfl, rfl, SqL.of hw1, at0, _, rfl, md, _, rfl, DGet.k (k := Sum.inr x) hmd, _, rfl, ?_⟩
    rw [manyD_val]
    cases em : many x with
    | none =>
      rw [em] at ew
      have q := k H1 s1
      unfold wrongV at q
      rw [ew] at q
      exact iteT q
    | some j =>
      rw [em] at ew
      dsimp only at ew
      have hj := many_le em
      have dg : DGet H1 md (.str x) (some (.int (j : Int))) := by
        have := DGet.k (k := Sum.inr x) hmd
        rw [manyD_val, em] at this
        exact this
      generalize hR : wrongN ws j 1 = R at ew
      refine iteF ⟨_, rfl, _, rfl, wl, _, _, .str x, rfl, rfl, SqL.of hw1, at0, md, _, rfl, dg, (j : Int), rfl, by omega, by omega, for_range (n := j) (fun i σ Hx => ∃ (a : Nat) (x3 x4 : Option V), σ = [some (.ref wl), some (.ref md), some (.int (a : Int)), x3, x4] ∧ Same H1 Hx ∧ wrongN ws (j - i) a = R) ⟨1, _, _, rfl, Same.refl H1, hR⟩ (fun i σ Hx hi hP => ?_) (fun σ Hx hP => ?_)⟩
      · obtain ⟨a, x3, x4, rfl, sx, hRx⟩ := hP
        obtain ⟨m, hm⟩ : ∃ m, j - i = m + 1 := ⟨j - i - 1, by omega⟩
        rw [hm, wrongN] at hRx
        refine ⟨_, rfl, _, rfl, wl, ws, a, rfl, sx _ _ hw1, ho.len, ho.wl, fun t H2 s2 ht => ?_⟩
        unfold lookV at ht
        cases ev : readV ws 30 a with
        | bad e =>
          rw [ev] at ht hRx
          dsimp only at hRx
          refine ⟨t, _, rfl, SqT.of ht, rfl, _, _, rfl, _, _, rfl, rfl, ?_⟩
          refine ⟨_, rfl, rfl, true, rfl, iteT ⟨_, rfl, ?_⟩⟩
          have q := k H2 (s1.trans (sx.trans s2))
          unfold wrongV at q
          rw [ew, ← hRx] at q
          exact q
        | ok d a' =>
          rw [ev] at ht hRx
          dsimp only at hRx
          refine ⟨t, _, rfl, SqT.of ht, rfl, _, _, rfl, _, _, rfl, rfl, ?_⟩
          exact ⟨_, rfl, rfl, false, rfl, iteF ⟨a', _, _, rfl, sx.trans s2, by rw [show j - (i + 1) = m by omega]; exact hRx⟩⟩
      · obtain ⟨a, x3, x4, rfl, sx, hRx⟩ := hP
        rw [Nat.sub_self, wrongN] at hRx
        rw [← hRx] at ew
        dsimp only at ew
        refine ⟨_, rfl, _, rfl, wl, _, rfl, .inl (SqL.of (sx _ _ hw1)), _, _, rfl, rfl, _, rfl, ?_⟩
        rw [List.length_map]
        have q := k Hx (s1.trans sx)
        unfold wrongV at q
        rw [ew] at q
        by_cases c : a < ws.length
        · rw [decide_eq_true (show (a : Int) < (ws.length : Int) by omega)]
          rw [if_pos c] at q
          exact iteT ⟨_, rfl, q⟩
        · rw [decide_eq_false (show ¬ (a : Int) < (ws.length : Int) by omega)]
          rw [if_neg c] at q
          exact iteF q
end
end Nr
end
set_option maxHeartbeats 2000000
section
/-! NrSum: sum(lists, []). -/
namespace PySem
theorem nr_args_sum2 (a b : Value) : argsOk "sum" ⟨[a, b], []⟩ := by unfold argsOk; kernel_rfl
theorem nr_sub_list1 : isSubtype (.type "list") (.type "str") = pure false := by rw [isSubtype_type]; kernel_rfl
theorem nr_sub_list2 : isSubtype (.type "list") (.type "bytes") = pure false := by rw [isSubtype_type]; kernel_rfl
theorem nr_sub_list3 : isSubtype (.type "list") (.type "bytearray") = pure false := by rw [isSubtype_type]; kernel_rfl
/-- the items of k lists from the i-th on, behind some -/
def catF (its : Nat → Array Value) : Nat → Nat → Array Value → Array Value
  | _, 0, acc => acc
  | i, k + 1, acc => catF its (i + 1) k (acc ++ its i)
theorem catF_size (its : Nat → Array Value) : ∀ (k i : Nat) (acc : Array Value), acc.size ≤ (catF its i k acc).size
  | 0, _, acc => Nat.le_refl _
  | k + 1, i, acc => Nat.le_trans (by rw [Array.size_append]; omega) (catF_size its k (i + 1) (acc ++ its i))
abbrev listAt (its : Array Value) (c : Nat) : Obj := { cls := .type "list", data := .seq its c }
section
variable {prog : Program} {w : World} {A : Around} {R : Result → Shared → Prop} {I : Addr} {fp wr : List Addr} {n : Nat} {P : Nat → Value → Prop} {St : Nat → Heap → Prop}
theorem nr_sum_loop (W : Walks prog w A.in1 I fp wr n P St) (bs : Nat → Addr) (its : Nat → Array Value) (hval : ∀ (i : Nat) (v : Value), i < n → P i v → v = Value.ref (bs i)) (S : Addr) (hSf : S ∉ fp) (hwr : ∀ i h, St i h → ∀ b ∈ wr, ∃ o, h.get? b = some o) :
    ∀ (k i : Nat) (s : Shared) (tot : Addr) (acc : Array Value) (ct c : Nat), n - i = k → i ≤ n → St i s.heap → s.heap.get? S = some { cls := .type "list", dict := none, data := .seq #[.ref tot] c, slots := #[] } →
    s.heap.get? tot = some (listAt acc ct) → (∀ j, i ≤ j → j < n → bs j ≠ S ∧ bs j ∉ wr ∧ ∃ cj, s.heap.get? (bs j) = some (listAt (its j) cj)) → tot ≠ S → tot ∉ wr → (catF its i k acc).size ≤ sizeLine →
    (∀ h' tk r cr, (∀ b o, b ∉ wr → b ≠ S → s.heap.get? b = some o → h'.get? b = some o) → h'.get? r = some (listAt (catF its i k acc) cr) → (i = n ∧ r = tot ∨ i ≠ n ∧ s.heap.get? r = none) → R (.ok (.ret (.ref r))) { s with heap := h', toks := tk }) →
    codeAny (model prog w) A (.builtin "sum.loop" ⟨[.ref I, .ref S, rawInt 2, rawInt 0], []⟩) R s := by
  have hSw : S ∉ wr := fun h => hSf (W.sub _ h)
  intro k
  induction k with
  | zero =>
    intro i s tot acc ct c hk hi hst hS hT hB hTS hTw hz hR
    have hin : i = n := by omega
    subst hin
    refine codeAny_builtin F.entry_sum_loop ?_
    rw [Around.under_plainId F.plain_sum_loop _]
    show wpAny _ A.in1 (seqItems? (.ref S) >>= _) _ _ s
    refine wpAny_bind (wpAny_seqItems hS rfl ?_)
    show wpAny _ A.in1 (tryCatch (pyNext (.ref I)) _ >>= _) _ _ s
    refine wpAny_bind (wpAny_tryCatch (W.done s _ _ hst fun h' tk hk' => ?_))
    exact wpAny_pure (hR h' tk tot ct (fun b o hbw _ e => hk' b o hbw e) (hk' tot _ hTw hT) (.inl ⟨rfl, rfl⟩))
  | succ k ih =>
    intro i s tot acc ct c hk hi hst hS hT hB hTS hTw hz hR
    have hlt : i < n := by omega
    obtain ⟨hbS, hbw, ci, hb⟩ := hB i (Nat.le_refl _) hlt
    refine codeAny_builtin F.entry_sum_loop ?_
    rw [Around.under_plainId F.plain_sum_loop _]
    show wpAny _ A.in1 (seqItems? (.ref S) >>= _) _ _ s
    refine wpAny_bind (wpAny_seqItems hS rfl ?_)
    show wpAny _ A.in1 (tryCatch (pyNext (.ref I)) _ >>= _) _ _ s
    refine wpAny_bind (wpAny_tryCatch (W.item i s _ _ hlt hst fun v h' tk hP hst' hk' => ?_))
    obtain rfl := hval i v hlt hP
    have hS' := hk' S _ hSw hS
    have hT' := hk' tot _ hTw hT
    have hb' := hk' (bs i) _ hbw hb
    have hsz : acc.size + (its i).size ≤ sizeLine := by
      have z := catF_size its k (i + 1) (acc ++ its i)
      rw [Array.size_append] at z
      exact Nat.le_trans z hz
    show wpAny _ A.in1 ((holding [Value.ref (bs i)] (binaryOp .Add (.ref tot) (.ref (bs i)))).attempt >>= _) _ _ _
    refine wpAny_bind (wpAny_attempt (wpAny_holding (PySem.P.add_list hT' hb' ?_ hsz)))
    generalize hh2 : h'.push { cls := .type "list", data := .seq (acc ++ its i) } = h2
    have up2 : ∀ b o, h'.get? b = some o → h2.get? b = some o := fun b o e => by rw [← hh2]; exact Heap.get?_push_of_some _ e
    have new2 : h2.get? h'.objs.size = some (listAt (acc ++ its i) 0) := by rw [← hh2]; exact Heap.get?_push_size _ rfl
    have hS2 := up2 _ _ hS'
    show wpAny _ A.in1 (updateSeq S (fun _ => #[.ref h'.objs.size]) >>= _) _ _ _
    refine wpAny_bind ?_
    refine wpAny_updateSeq hS2 rfl ?_
    have hS3 := Heap.get?_update_self (Obj.mapSeq fun _ => #[Value.ref h'.objs.size]) hS2 rfl
    refine wpAny_bind (wpAny_letGo ?_)
    refine wpAny_bind ?_
    have nS : h'.objs.size ≠ S := Nat.ne_of_gt (Heap.lt_size hS')
    have up4 : ∀ b o, b ≠ S → h'.get? b = some o → ((h2.update S (Obj.mapSeq fun _ => #[Value.ref h'.objs.size])).update S (Obj.mapSeq fun _ => #[Value.ref h'.objs.size])).get? b = some o := fun b o hb e =>
      (Heap.get?_update_other _ _ (Ne.symm hb)).trans ((Heap.get?_update_other _ _ (Ne.symm hb)).trans (up2 b o e))
    have nwr : h'.objs.size ∉ wr := fun hm => by
      obtain ⟨o, e⟩ := hwr _ _ hst' _ hm
      exact Nat.lt_irrefl _ (Heap.lt_size e)
    have back : ∀ b o, s.heap.get? b = some o → ∃ o', h'.get? b = some o' := fun b o e => by
      by_cases hb : b ∈ wr
      · exact hwr _ _ hst' _ hb
      · exact ⟨o, hk' b o hb e⟩
    refine wpAny_updateSeq hS3 rfl (wpAny_pure ⟨plainId_quiet F.plain_sum_loop _, ih (i + 1) _ h'.objs.size (acc ++ its i) 0 _ (by omega) hlt (W.frame _ _ _ hst' fun b hb o e => up4 b o (fun z => hSf (z ▸ hb)) e) (Heap.get?_update_self _ hS3 rfl)
      ((Heap.get?_update_other _ _ (Ne.symm nS)).trans ((Heap.get?_update_other _ _ (Ne.symm nS)).trans new2)) (fun j h1 h2' => ?_) nS nwr hz fun h'' tk'' r cr hk'' hr hnew => ?_⟩)
    · obtain ⟨q1, q2, cj, q3⟩ := hB j (by omega) h2'
      exact ⟨q1, q2, cj, up4 _ _ q1 (hk' _ _ q2 q3)⟩
    · refine hR h'' tk'' r cr (fun b o hbw hbS e => hk'' b o hbw hbS (up4 b o hbS (hk' b o hbw e))) hr (.inr ⟨by omega, ?_⟩)
      cases q : s.heap.get? r with
      | none => rfl
      | some o =>
        obtain ⟨o', q'⟩ := back r o q
        rcases hnew with ⟨_, rfl⟩ | ⟨_, hnew⟩
        · exact absurd (Heap.lt_size q') (Nat.lt_irrefl _)
        · by_cases hrS : r = S
          · have z := Heap.get?_update_self (Obj.mapSeq fun _ => #[Value.ref h'.objs.size]) hS3 rfl
            rw [hrS] at hnew
            have hnew : ((h2.update S (Obj.mapSeq fun _ => #[Value.ref h'.objs.size])).update S (Obj.mapSeq fun _ => #[Value.ref h'.objs.size])).get? S = none := hnew
            rw [z] at hnew
            cases hnew
          · have z := up4 r o' hrS q'
            have hnew : ((h2.update S (Obj.mapSeq fun _ => #[Value.ref h'.objs.size])).update S (Obj.mapSeq fun _ => #[Value.ref h'.objs.size])).get? r = none := hnew
            rw [z] at hnew
            cases hnew
end
section
variable {prog : Program} {w : World} {A : Around} {E : Value → Shared → Prop} {s : Shared}
theorem nr_sum_lists {l st : Addr} {items : Array Value} {cs : Nat} {Q : Value → Shared → Prop} (hh : A.handled = none) (hl : s.heap.IsList l items) (bs : Nat → Addr) (its : Nat → Array Value) (hval : ∀ (i : Nat) (v : Value), items[i]? = some v → v = Value.ref (bs i))
    (hB : ∀ j, j < items.size → ∃ cj, s.heap.get? (bs j) = some (listAt (its j) cj)) (hst : s.heap.get? st = some (listAt #[] cs)) (hz : (catF its 0 items.size #[]).size ≤ sizeLine)
    (hQ : ∀ h' tk r cr, (∀ b o, s.heap.get? b = some o → h'.get? b = some o) → h'.get? r = some (listAt (catF its 0 items.size #[]) cr) → (items.size = 0 ∧ r = st ∨ items.size ≠ 0 ∧ s.heap.get? r = none) → Q (.ref r) { s with heap := h', toks := tk }) :
    wpAny (model prog w) A (call (.builtin "sum") [.ref l, .ref st]) Q E s := by
  refine call_function_tree F.kind_sum F.plain_sum F.entry_sum (nr_args_sum2 _ _) ?_
  unfold Builtin.«sum»
  simp only [List.length_cons, List.length_nil]
  rw [if_neg (by decide)]
  refine wpAny_bind (wpAny_of_eq (show Builtin.Builtins.bindParams "sum" ["start"] 0 ⟨[.ref st], []⟩ = pure [some (.ref st)] from rfl) ?_)
  have hlt : l < s.heap.objs.size := by obtain ⟨_, e, _⟩ := hl; exact Heap.lt_size e
  refine wpAny_bind (wpAny_pyIter_list hl ?_)
  generalize hh1 : s.heap.push { cls := .type "list_iterator", data := .fields #[.ref l, .int 0 0] } = h1
  have up1 : ∀ b o, s.heap.get? b = some o → h1.get? b = some o := fun b o e => by rw [← hh1]; exact Heap.get?_push_of_some _ e
  have it1 : h1.IsListIter s.heap.objs.size l 0 := by rw [← hh1]; exact ⟨_, Heap.get?_push_size _ rfl, rfl, rfl⟩
  have li1 : h1.IsList l items := by rw [← hh1]; exact hl.push _
  have hst1 := up1 _ _ hst
  refine wpAny_bind (wpAny_pure ?_)
  simp only [List.forIn_cons, List.forIn_nil]
  have tyl : ∀ tk, (⟨h1, s.gens, s.drawn, tk, s.os⟩ : Shared).TypeIs (.ref st) "list" := fun _ => ⟨_, hst1, rfl⟩
  refine wpAny_bind (wpAny_bind (wpAny_bind (wpAny_isInstance (T := "list") (b := false) (tyl _) nr_sub_list1 ?_)))
  simp only [Bool.false_eq_true, if_false]
  refine wpAny_pure (wpAny_bind (wpAny_bind (wpAny_isInstance (T := "list") (b := false) (tyl _) nr_sub_list2 ?_)))
  simp only [Bool.false_eq_true, if_false]
  refine wpAny_pure (wpAny_bind (wpAny_bind (wpAny_isInstance (T := "list") (b := false) (tyl _) nr_sub_list3 ?_)))
  simp only [Bool.false_eq_true, if_false]
  refine wpAny_pure (wpAny_pure ?_)
  refine wpAny_bind (wpAny_newObj_type ?_)
  have sz1 : h1.objs.size = s.heap.objs.size + 1 := by rw [← hh1]; exact Heap.size_push _ _
  generalize hh2 : h1.push { cls := .type "list", dict := none, data := .seq ([Value.ref st] : List Value).toArray } = h2
  have up2 : ∀ b o, h1.get? b = some o → h2.get? b = some o := fun b o e => by rw [← hh2]; exact Heap.get?_push_of_some _ e
  have S2 : h2.get? h1.objs.size = some { cls := .type "list", dict := none, data := .seq #[Value.ref st] 0, slots := #[] } := by rw [← hh2]; exact Heap.get?_push_size _ rfl
  have ne1 : l ≠ s.heap.objs.size := Nat.ne_of_lt hlt
  have hSf : h1.objs.size ∉ [s.heap.objs.size, l] := fun hm => by
    rcases List.mem_cons.mp hm with e | hm
    · rw [sz1] at e; omega
    · rcases List.mem_cons.mp hm with e | hm
      · rw [sz1] at e
        rw [← e] at hlt
        exact Nat.not_succ_lt_self hlt
      · cases hm
  have nI : ∀ b o, s.heap.get? b = some o → b ∉ [s.heap.objs.size] := fun b o e hm => by
    rw [List.mem_singleton] at hm
    exact Nat.lt_irrefl _ (hm ▸ Heap.lt_size e)
  have nSn : ∀ b o, s.heap.get? b = some o → b ≠ h1.objs.size := fun b o e z => by
    have := Heap.lt_size e
    rw [z, sz1] at this
    exact Nat.not_succ_lt_self this
  refine wpAny_pure ⟨plainId_quiet F.plain_sum_loop _, nr_sum_loop (Walks.list (A := A.in1) hh s.heap.objs.size l ne1 items) bs its (fun i v _ e => hval i v e) h1.objs.size hSf
    (fun i h st b hb => by
      rw [List.mem_singleton] at hb
      subst hb
      obtain ⟨⟨o, e, _⟩, _⟩ := st
      exact ⟨o, e⟩) items.size 0 _ st #[] cs 0 rfl (Nat.zero_le _) ⟨?_, ?_⟩ S2 (up2 _ _ hst1)
    (fun j _ hj => ?_) (nSn _ _ hst) (nI _ _ hst) hz fun h' tk r cr hk hr hnew => ?_⟩
  · rw [← hh2]
    obtain ⟨o, e, z⟩ := it1
    exact ⟨o, Heap.get?_push_of_some _ e, z⟩
  · rw [← hh2]
    exact li1.push _
  · obtain ⟨cj, e⟩ := hB j hj
    exact ⟨nSn _ _ e, nI _ _ e, cj, up2 _ _ (up1 _ _ e)⟩
  · refine hQ h' tk r cr (fun b o e => hk b o (nI b o e) (nSn b o e) (up2 _ _ (up1 _ _ e))) hr ?_
    rcases hnew with ⟨z, e⟩ | ⟨zz, z⟩
    · exact .inl ⟨z.symm, e⟩
    · refine .inr ⟨fun q => zz q.symm, ?_⟩
      cases q : s.heap.get? r with
      | none => rfl
      | some o =>
        have q2 := up2 _ _ (up1 _ _ q)
        have z : h2.get? r = none := z
        rw [q2] at z
        cases z
end
end PySem
namespace Nr
open PySem PySem.Spec PyProof.Rows L2
/-- sum(lists, start), start an empty list -/
def rSumL : List V → Hp → VK → Prop := fun vs H Q => ∃ (a st : Addr) (bs : List Addr) (xss : List (List V)), vs = [.ref a, .ref st] ∧ H a = some (.lst (bs.map V.ref)) ∧ H st = some (.lst []) ∧ bs.length = xss.length ∧ (∀ (j : Nat) (b : Addr) (xs : List V), bs[j]? = some b → xss[j]? = some xs → H b = some (.lst xs)) ∧
  xss.flatten.length ≤ sizeLine ∧ (bs = [] → Q (.ref st) H) ∧ (bs ≠ [] → ∀ p, H p = none → Q (.ref p) (upd H p (.lst xss.flatten)))
theorem catF_vals (its : Nat → Array Value) : ∀ (xss : List (List V)) (i : Nat) (ys : List V) (acc : Array Value), Vals ys acc.toList → (∀ j xs, xss[j]? = some xs → Vals xs (its (i + j)).toList) →
    Vals (ys ++ xss.flatten) (catF its i xss.length acc).toList
  | [], i, ys, acc, r, _ => by
    show Vals (ys ++ []) acc.toList
    rw [List.append_nil]
    exact r
  | xs :: xss, i, ys, acc, r, h => by
    have h0 := h 0 xs rfl
    show Vals (ys ++ (xs ++ xss.flatten)) (catF its (i + 1) xss.length (acc ++ its i)).toList
    rw [← List.append_assoc]
    refine catF_vals its xss (i + 1) (ys ++ xs) (acc ++ its i) ?_ (fun j zs e => ?_)
    · rw [Array.toList_append]
      exact r.append h0
    · have := h (j + 1) zs (by simpa using e)
      have e2 : i + (j + 1) = i + 1 + j := by omega
      rw [e2] at this
      exact this
theorem call_sumL {X : Cx} (hc : X.calm = true) : CallR X (.builtin "sum") rSumL := by
  intro pins s σ H vs us Q I r h
  obtain ⟨a, st, bs, xss, rfl, ha, hs, hlen, hb, hz, q0, q1⟩ := h
  obtain ⟨u1, u2, rfl, r1, r2⟩ := vals2 r
  cases (show u1 = Value.ref a from r1)
  cases (show u2 = Value.ref st from r2)
  obtain ⟨_, its, n, rv, hl, e⟩ := I.lstM ha
  obtain ⟨_, its0, n0, rv0, hl0, e0⟩ := I.lstM hs
  have ei : its0 = [] := by
    cases its0 with
    | nil => rfl
    | cons _ _ => simp at hl0
  subst ei
  have hits : its.length = bs.length := by rw [← hl, List.length_map]
  have hat : ∀ (j : Nat) (b : Addr), bs[j]? = some b → its[j]? = some (Value.ref b) := fun j b ej => by
    obtain ⟨u, hu, ru⟩ := rv.get (i := j) (x := V.ref b) (by rw [List.getElem?_map, ej]; rfl)
    cases (show u = Value.ref b from ru)
    exact hu
  have key : ∃ f : Nat → Array Value, ∀ (j : Nat) (b : Addr) (xs : List V), bs[j]? = some b → xss[j]? = some xs → Vals xs (f j).toList ∧ ∃ c, s.heap.get? b = some (listAt (f j) c) := by
    have one : ∀ j : Nat, ∃ arr : Array Value, ∀ (b : Addr) (xs : List V), bs[j]? = some b → xss[j]? = some xs → Vals xs arr.toList ∧ ∃ c, s.heap.get? b = some (listAt arr c) := fun j => by
      cases eb : bs[j]? with
      | none => exact ⟨#[], fun b xs z => nomatch z⟩
      | some b =>
        cases ex : xss[j]? with
        | none => exact ⟨#[], fun b xs _ z => nomatch z⟩
        | some xs =>
          obtain ⟨_, ts, c, rt, _, et⟩ := I.lstM (hb j b xs eb ex)
          exact ⟨ts.toArray, fun b' xs' z1 z2 => by cases z1; cases z2; exact ⟨by simpa using rt, c, et⟩⟩
    exact ⟨fun j => (one j).choose, fun j => (one j).choose_spec⟩
  obtain ⟨f, hf⟩ := key
  have hv : Vals ([] ++ xss.flatten) (catF f 0 xss.length #[]).toList := catF_vals f xss 0 [] #[] .nil fun j xs e => by
    have hj : j < xss.length := (List.getElem?_eq_some_iff.mp e).1
    have := hf j _ xs (List.getElem?_eq_getElem (by omega)) e
    rw [Nat.zero_add]
    exact this.1
  have hsz : its.toArray.size = xss.length := by rw [List.size_toArray, hits, hlen]
  refine nr_sum_lists (items := its.toArray) (I.ok.hd hc) ⟨_, e, rfl, n, rfl⟩ (fun j => (bs[j]?).getD 0) f (fun i v ev => ?_) (fun j hj => ?_) e0 ?_ fun h' tk rr cr hk hr hnew => ?_
  · have ev' : its[i]? = some v := by simpa using ev
    have hi : i < bs.length := by
      rw [← hits]
      exact (List.getElem?_eq_some_iff.mp ev').1
    have := hat i _ (List.getElem?_eq_getElem hi)
    rw [this] at ev'
    cases ev'
    simp [List.getElem?_eq_getElem hi]
  · have hj1 : j < bs.length := by rw [hsz] at hj; omega
    have hj2 : j < xss.length := by rw [hsz] at hj; exact hj
    have := (hf j _ _ (List.getElem?_eq_getElem hj1) (List.getElem?_eq_getElem hj2)).2
    simpa [List.getElem?_eq_getElem hj1] using this
  · rw [hsz]
    have := hv.length
    rw [List.nil_append] at this
    have h2 : (catF f 0 xss.length #[]).size = xss.flatten.length := by rw [this]; simp
    omega
  · rw [hsz] at hr hnew
    by_cases hbs : bs = []
    · have hx0 : xss.length = 0 := by rw [← hlen, hbs]; rfl
      have xe : xss = [] := List.length_eq_zero_iff.mp hx0
      subst xe
      rcases hnew with ⟨_, rfl⟩ | ⟨zz, _⟩
      · exact ⟨.ref rr, H, I.kept (t' := tk) hk, rfl, q0 hbs⟩
      · exact absurd rfl zz
    · rcases hnew with ⟨z, _⟩ | ⟨_, hn⟩
      · exact absurd (List.length_eq_zero_iff.mp (hlen.trans z)) hbs
      · have nH : H rr = none := I.hok.gone hn
        refine ⟨.ref rr, _, I.laidN (t' := tk) (o := .lst xss.flatten) hk hn nH ⟨hz, (catF f 0 xss.length #[]).toList, cr, by rw [List.nil_append] at hv; exact hv, by simpa using hr⟩, rfl, q1 hbs rr nH⟩
end Nr
end
set_option maxHeartbeats 8000000
section
/-! NrLWords: _law_tx_value, _law_tx_paper (printed by genlw.py). -/
namespace Nr
open PySem PySem.Spec PyProof.Rows L2 LamX NdefX
section
variable {P : Program} {w : World} {K : PySem.W.Frag} {mg : Str → Option Value} {base : Heap} {Pp aM aT : Addr} {cl : Str → Addr}
theorem scLVal : FnScope ["value", "one"] ["value"] (defScope sLVal) := ⟨rfl, rfl, rfl, by decide +kernel, rfl, by decide +kernel, by decide +kernel⟩
theorem scLPap : FnScope ["paper", "part"] ["paper"] (defScope sLPap) := ⟨rfl, rfl, rfl, by decide +kernel, rfl, by decide +kernel, by decide +kernel⟩
theorem ok_lpap {f fV : Addr} {fd fdV : FuncData} (pm : PapM mg K Pp cl) (G : GF mg) (F : Fun K "_law_tx_paper" "_law_tx_paper" sLPap f fd) (FV : Fun K "_law_tx_value" "_law_tx_value" sLVal fV fdV) (bV : Binds K fdV ["value"] []) (mV : mg "_law_tx_value" = some (.ref fV)) (b : Nat)
    (OV : FnOk P w K mg base CX0 (2 * b + 3) fV fdV ["value"] (spWords cl b)) : FnOk P w K mg base CX0 (2 * b + 4) f fd ["paper"] (spWordsP cl b) := by
  have nd := scLPap.nd
  refine F.ok scLPap (fun vs H Q E h => ?_) (fun cdv A outer s H vs Q E hr h => ?_)
  · obtain ⟨_, _, _, rfl, _⟩ := h
    rfl
  · obtain ⟨wd, xs, v, rfl, hv, hsm, ht, hw, hl, hn, k⟩ := h
    obtain ⟨a, dx, fs, t, us, rfl, ha, l1, l2, hut, hus0⟩ := hv
    refine ⟨_, pss_one (ps_ret (pe_op op_cat (pe_lst (pa_cons (pe_fld (pv 0) (by rfl)) pa_nil)) (pe_callB (call_sumL rfl) (by rfl) (G.f "sum" (by decide +kernel)) (by decide +kernel) (pa_cons
      (pe_lc (own := [("part", 1)]) (g := gName 1) (tt := tYes) rfl nd (pi_tup (pe_fld (pv 0) (by rfl))) (blkOk_by (N := ["paper", "part"]) (sc := defScope sLPap) (by decide +kernel)) (fun _ _ _ _ _ => pg_name (i := 1) nd rfl (Or.inl rfl)) (fun _ _ _ _ _ => pts_nil)
        (fun _ _ _ _ _ => pe_call OV hr rfl mV FV.kp bV .nil pass0 (pa_cons (pv 1) pa_nil))) (pa_cons (pe_lst pa_nil) pa_nil))))), ?_⟩
    have hlen := hasL_len hus0
    refine ⟨_, rfl, a, _, dx, fs, _, rfl, ha, pm.cls wd hsm, pm.n1 wd hsm, l1, (show 1 ≤ sizeLine by decide), fun u hu => ?_⟩
    have s1 : Same H (upd H u (.lst [.str wd])) := same_new (Same.refl H) hu
    have hu1 : upd H u (.lst [.str wd]) u = some (.lst [.str wd]) := upd_same
    have ha0 := s1 _ _ ha
    have ha1 := s1 _ _ hut
    have hus := hasL_kept (cl := cl) (Kept.of s1) _ hus0
    generalize upd H u (.lst [.str wd]) = H1 at s1 hu1 ha0 ha1 hus ⊢
    refine ⟨_, rfl, a, _, dx, fs, _, rfl, ha0, pm.cls wd hsm, pm.n2 wd hsm, l2, t, rfl, ⟨us, SqT.of ha1⟩, fun D hD => lc_it (walk_tup (xs := us)) (fun i Hx => ∃ bs : List Addr, Hx D = some (.lst (bs.map V.ref)) ∧ bs.length = i ∧ (∀ (j : Nat) (b : Addr) (y : Nr.D), bs[j]? = some b → xs[j]? = some y → Hx b = some (.lst (y.words.map V.str))) ∧ Same H1 Hx ∧ D ∉ bs)
      ⟨[], upd_same, rfl, fun j b y h => (by simp at h), same_new (Same.refl H1) hD, by simp⟩ (fun i Hx hi hP => SqT.of (hP.choose_spec.2.2.2.1 _ _ ha1)) (fun i x Hx H2 hi hP hy => ?_) (fun Hx hP => ?_)⟩
    · obtain ⟨rfl, hx⟩ := hy
      obtain ⟨bs, hD1, hn1, hbs, hs, hDb⟩ := hP
      obtain ⟨y, hy, hyv⟩ := hasL_at hus hx
      have hyl := words_at_le hy
      refine ⟨rfl, _, rfl, y, x, rfl, Nr.D.has_kept (Kept.of hs) y hyv, toldL_at ht hy, wideL_at hw hy, by omega, fun p H3 s3 np hp => ?_⟩
      have hD3 := s3 _ _ hD1
      have hpD : p ≠ D := fun e => by rw [e, hD1] at np; cases np
      refine ⟨_, hD3, ?_, bs ++ [p], by rw [upd_same, List.map_append]; rfl, by rw [List.length_append, hn1]; rfl, fun j c z hj hz => ?_, same_new (hs.trans s3) hD, ?_⟩
      · rw [List.length_map, hn1]
        have : us.length ≤ 1000 := by omega
        exact small1000 (by omega)
      · by_cases hjl : j < bs.length
        · rw [List.getElem?_append_left hjl] at hj
          have hc := List.mem_of_getElem? hj
          rw [upd_ne (fun e : c = D => hDb (by rw [← e]; exact hc))]
          exact s3 _ _ (hbs j c z hj hz)
        · rw [List.getElem?_append_right (by omega)] at hj
          have e1 : j = bs.length := by
            have := (List.getElem?_eq_some_iff.mp hj).1
            simp at this
            omega
          rw [e1, Nat.sub_self] at hj
          cases hj
          rw [e1, hn1, hy] at hz
          cases hz
          rw [upd_ne hpD]
          exact hp
      · rw [List.mem_append]
        exact fun z => z.elim hDb fun z => hpD (List.mem_singleton.mp z).symm
    · obtain ⟨bs, hD1, hn1, hbs, hs, hDb⟩ := hP
      refine ⟨(show 0 ≤ sizeLine by decide), fun st hst => ?_⟩
      have ss : Same Hx (upd Hx st (.lst [])) := same_new (Same.refl Hx) hst
      have ef : (xs.map fun y => y.words.map V.str).flatten = (wordsL xs).map V.str := by
        rw [wordsL_flat, List.map_flatten, List.map_map]
        rfl
      refine ⟨D, st, bs, xs.map fun y => y.words.map V.str, rfl, ss _ _ hD1, upd_same, by rw [List.length_map]; omega, fun j c zs hj hz => ?_, ?_, fun e => ?_, fun e r hp => ?_⟩
      · rw [List.getElem?_map] at hz
        cases q1 : xs[j]? with
        | none => rw [q1] at hz; cases hz
        | some y => rw [q1] at hz; cases hz; exact ss _ _ (hbs j c y hj q1)
      · rw [ef, List.length_map]
        exact Nat.le_trans (show _ ≤ 1000 by omega) (by decide)
      · have s5 := hs.trans ss
        have hr5 : upd Hx st (.lst []) st = some (.lst ((wordsL xs).map V.str)) := by
          have : xs = [] := List.eq_nil_of_length_eq_zero (by rw [e] at hn1; simp at hn1; omega)
          rw [upd_same, this]
          rfl
        refine ⟨u, st, _, _, rfl, rfl, s5 _ _ hu1, hr5, ?_, fun p hp => ?_⟩
        · rw [List.length_map]
          exact Nat.le_trans (show _ ≤ 1000 by simp; omega) (by decide)
        · refine k p _ (same_new (s1.trans s5) (same_none (s1.trans s5) hp)) (same_none (s1.trans s5) hp) ?_
          rw [upd_same]
          rfl
      · have s5 := same_new (o := .lst (xs.map fun y => y.words.map V.str).flatten) (hs.trans ss) (same_none (hs.trans ss) hp)
        have hr5 : upd (upd Hx st (.lst [])) r (.lst (xs.map fun y => y.words.map V.str).flatten) r = some (.lst ((wordsL xs).map V.str)) := by
          rw [upd_same, ef]
        refine ⟨u, r, _, _, rfl, rfl, s5 _ _ hu1, hr5, ?_, fun p hp => ?_⟩
        · rw [List.length_map]
          exact Nat.le_trans (show _ ≤ 1000 by simp; omega) (by decide)
        · refine k p _ (same_new (s1.trans s5) (same_none (s1.trans s5) hp)) (same_none (s1.trans s5) hp) ?_
          rw [upd_same]
          rfl
theorem lval_step {f fP : Addr} {fd fdP : FuncData} (p : Pap K Pp cl) (pm : PapM mg K Pp cl) (G : GF mg) (F : Fun K "_law_tx_value" "_law_tx_value" sLVal f fd) (bF : Binds K fd ["value"] []) (mF : mg "_law_tx_value" = some (.ref f))
    (FP : Fun K "_law_tx_paper" "_law_tx_paper" sLPap fP fdP) (bP : Binds K fdP ["paper"] []) (mP : mg "_law_tx_paper" = some (.ref fP)) (b : Nat)
    (OV : FnOk P w K mg base CX0 (2 * b + 1) f fd ["value"] (under (spWords cl) b)) (OP : FnOk P w K mg base CX0 (2 * b + 2) fP fdP ["paper"] (under (spWordsP cl) b)) : FnOk P w K mg base CX0 (2 * b + 3) f fd ["value"] (spWords cl b) := by
  have nd := scLVal.nd
  refine F.ok scLVal (fun vs H Q E h => ?_) (fun cdv A outer s H vs Q E hr h => ?_)
  · obtain ⟨_, _, rfl, _⟩ := h
    rfl
  · obtain ⟨d, v, rfl, hv, htold, hw, hn, k⟩ := h
    have hr1 := hr.mono (show 2 * b + 1 ≤ 2 * b + 2 by omega)
    have hg := told_good htold
    refine ⟨_, pss_cons (ps_if (pt_val (pe_callB call_isi (by rfl) (G.f "isinstance" (by decide +kernel)) PyProof.Rows.boot_isinstance (pa_cons (pv 0) (pa_cons (pe_glob (v := .ref Pp) rfl pm.g rfl) pa_nil))))
        (pss_one (ps_ret (pe_op op_cat (pe_op op_cat (pe_lst (pa_cons pe_str pa_nil)) (pe_call OP hr rfl mP FP.kp bP .nil pass0 (pa_cons (pv 0) pa_nil))) (pe_lst (pa_cons pe_str pa_nil))))) pss_nil)
      (pss_cons (ps_if (pt_val (pe_callB call_isi (by rfl) (G.f "isinstance" (by decide +kernel)) PyProof.Rows.boot_isinstance (pa_cons (pv 0) (pa_cons (pe_bltn (v := .ty "tuple") (u := .type "tuple") (by rfl) (G.f "tuple" (by decide +kernel)) (by decide +kernel) rfl) pa_nil))))
        (pss_one (ps_ret (pe_op op_cat (pe_op op_cat (pe_lst (pa_cons pe_str pa_nil)) (pe_callB (call_sumL rfl) (by rfl) (G.f "sum" (by decide +kernel)) (by decide +kernel) (pa_cons
          (pe_lc (own := [("one", 1)]) (g := gName 1) (tt := tYes) rfl nd (pi_tup (pv 0)) (blkOk_by (N := ["value", "one"]) (sc := defScope sLVal) (by decide +kernel)) (fun _ _ _ _ _ => pg_name (i := 1) nd rfl (Or.inl rfl)) (fun _ _ _ _ _ => pts_nil)
            (fun _ _ _ _ _ => pe_call OV hr1 rfl mF F.kp bF .nil pass0 (pa_cons (pv 1) pa_nil))) (pa_cons (pe_lst pa_nil) pa_nil)))) (pe_lst (pa_cons pe_str pa_nil))))) pss_nil)
      (pss_cons (ps_if (PW.pt (pw_or (pt_cmpR op_isN (pv 0) pe_non (nomark _)) (pw_or1 (pt_val (pe_callB call_isi (by rfl) (G.f "isinstance" (by decide +kernel)) PyProof.Rows.boot_isinstance (pa_cons (pv 0) (pa_cons (pe_bltn (v := .ty "bool") (u := .type "bool") (by rfl) (G.f "bool" (by decide +kernel)) (by decide +kernel) rfl) pa_nil)))))))
        (pss_one (ps_ret (pe_lst (pa_cons (pe_ifExp (pt_cmpR op_isN (pv 0) pe_non (nomark _)) pe_str (pe_ifExp (pt_val (pv 0)) pe_str pe_str)) pa_nil)))) pss_nil)
      (pss_one (ps_ret (pe_lst (pa_cons (pe_callTy call_str_int (by rfl) (G.f "str" (by decide +kernel)) (by decide +kernel) (pa_cons (pv 0) pa_nil)) pa_nil)))))), ?_⟩
    have fin : ∀ {H1 : Hp} {xs : List V}, Same H H1 → xs = d.words.map V.str → xs.length ≤ sizeLine ∧ ∀ l, H1 l = none → Q (.ref l) (upd H1 l (.lst xs)) := fun {H1 xs} s1 e => by
      subst e
      refine ⟨?_, fun l hl => k l _ (same_new s1 (same_none s1 hl)) (same_none s1 hl) upd_same⟩
      rw [List.length_map]
      exact Nat.le_trans hn (by decide)
    refine ⟨_, rfl, _, _, _, _, _, rfl, pm.cv, .base (p.tyOf hv hg), p.kitP hg, _, rfl, ?_⟩
    cases d with
    | non =>
      refine iteF ⟨_, rfl, _, _, _, _, _, rfl, .ty _, .base (p.tyOf hv hg), p.kitT hg, _, rfl, iteF ?_⟩
      obtain rfl : v = .non := hv
      exact ⟨_, rfl, rfl, true, rfl, iteT (iteT ⟨_, rfl, rfl, true, rfl, iteT (fin (Same.refl H) rfl)⟩)⟩
    | bl c =>
      refine iteF ⟨_, rfl, _, _, _, _, _, rfl, .ty _, .base (p.tyOf hv hg), p.kitT hg, _, rfl, iteF ?_⟩
      have hv' := hv
      obtain rfl : v = .bl c := hv
      refine ⟨_, rfl, rfl, false, rfl, iteF ⟨_, rfl, _, _, _, _, _, rfl, .ty _, .base (p.tyOf (d := .bl c) hv' hg), p.kitB (d := .bl c) hg, _, rfl, iteT ⟨_, rfl, rfl, false, rfl, iteF ⟨_, rfl, c, rfl, ?_⟩⟩⟩⟩
      cases c with
      | true => exact iteT (fin (Same.refl H) rfl)
      | false => exact iteF (fin (Same.refl H) rfl)
    | int i =>
      refine iteF ⟨_, rfl, _, _, _, _, _, rfl, .ty _, .base (p.tyOf hv hg), p.kitT hg, _, rfl, iteF ?_⟩
      have hv' := hv
      obtain rfl : v = .int i := hv
      have hi : i.natAbs < 10 ^ 40 := by cases b <;> exact htold
      exact ⟨_, rfl, rfl, false, rfl, iteF ⟨_, rfl, _, _, _, _, _, rfl, .ty _, .base (p.tyOf (d := .int i) hv' hg), p.kitB (d := .int i) hg, _, rfl, iteF ⟨_, rfl, i, rfl, log40 hi, fin (Same.refl H) rfl⟩⟩⟩
    | tup xs =>
      obtain ⟨b'', rfl⟩ : ∃ c, b = c + 1 := by
        cases b with
        | zero => exact htold.elim
        | succ c => exact ⟨c, rfl⟩
      have ht' : toldL b'' xs := htold
      have hww : xs.length ≤ 1000 ∧ wideL xs := hw
      have hw' := hww.2
      have hn' : (wordsL xs).length + 2 ≤ 900 := by
        rw [D.words, List.length_cons, List.length_append] at hn
        simp at hn
        omega
      refine iteF ⟨_, rfl, _, _, _, _, _, rfl, .ty _, .base (p.tyOf hv hg), p.kitT hg, _, rfl, iteT ⟨(show 1 ≤ sizeLine by decide), fun u hu => ?_⟩⟩
      obtain ⟨a, us, rfl, ha, hus0⟩ := hv
      have s1 : Same H (upd H u (.lst [.str "("])) := same_new (Same.refl H) hu
      have hu1 : upd H u (.lst [.str "("]) u = some (.lst [.str "("]) := upd_same
      have ha1 := s1 _ _ ha
      have hus := hasL_kept (cl := cl) (Kept.of s1) _ hus0
      have hlen := hasL_len hus0
      generalize upd H u (.lst [.str "("]) = H1 at s1 hu1 ha1 hus ⊢
      refine ⟨_, rfl, a, rfl, ⟨us, SqT.of ha1⟩, fun D hD => lc_it (walk_tup (xs := us)) (fun i Hx => ∃ bs : List Addr, Hx D = some (.lst (bs.map V.ref)) ∧ bs.length = i ∧ (∀ (j : Nat) (b : Addr) (y : Nr.D), bs[j]? = some b → xs[j]? = some y → Hx b = some (.lst (y.words.map V.str))) ∧ Same H1 Hx ∧ D ∉ bs)
        ⟨[], upd_same, rfl, fun j b y h => (by simp at h), same_new (Same.refl H1) hD, by simp⟩ (fun i Hx hi hP => SqT.of (hP.choose_spec.2.2.2.1 _ _ ha1)) (fun i x Hx H2 hi hP hy => ?_) (fun Hx hP => ?_)⟩
      · obtain ⟨rfl, hx⟩ := hy
        obtain ⟨bs, hD1, hn1, hbs, hs, hDb⟩ := hP
        obtain ⟨y, hy, hyv⟩ := hasL_at hus hx
        have hyl := words_at_le hy
        refine ⟨rfl, _, rfl, b'', rfl, y, x, rfl, Nr.D.has_kept (Kept.of hs) y hyv, toldL_at ht' hy, wideL_at hw' hy, by omega, fun p H3 s3 np hp => ?_⟩
        have hD3 := s3 _ _ hD1
        have hpD : p ≠ D := fun e => by rw [e, hD1] at np; cases np
        refine ⟨_, hD3, ?_, bs ++ [p], by rw [upd_same, List.map_append]; rfl, by rw [List.length_append, hn1]; rfl, fun j c z hj hz => ?_, same_new (hs.trans s3) hD, ?_⟩
        · rw [List.length_map, hn1]
          have : us.length ≤ 1000 := by omega
          exact small1000 (by omega)
        · by_cases hjl : j < bs.length
          · rw [List.getElem?_append_left hjl] at hj
            have hc := List.mem_of_getElem? hj
            rw [upd_ne (fun e : c = D => hDb (by rw [← e]; exact hc))]
            exact s3 _ _ (hbs j c z hj hz)
          · rw [List.getElem?_append_right (by omega)] at hj
            have e1 : j = bs.length := by
              have := (List.getElem?_eq_some_iff.mp hj).1
              simp at this
              omega
            rw [e1, Nat.sub_self] at hj
            cases hj
            rw [e1, hn1, hy] at hz
            cases hz
            rw [upd_ne hpD]
            exact hp
        · rw [List.mem_append]
          exact fun z => z.elim hDb fun z => hpD (List.mem_singleton.mp z).symm
      · obtain ⟨bs, hD1, hn1, hbs, hs, hDb⟩ := hP
        refine ⟨(show 0 ≤ sizeLine by decide), fun st hst => ?_⟩
        have ss : Same Hx (upd Hx st (.lst [])) := same_new (Same.refl Hx) hst
        have ef : (xs.map fun y => y.words.map V.str).flatten = (wordsL xs).map V.str := by
          rw [wordsL_flat, List.map_flatten, List.map_map]
          rfl
        refine ⟨D, st, bs, xs.map fun y => y.words.map V.str, rfl, ss _ _ hD1, upd_same, by rw [List.length_map]; omega, fun j c zs hj hz => ?_, ?_, fun e => ?_, fun e r hp => ?_⟩
        · rw [List.getElem?_map] at hz
          cases q1 : xs[j]? with
          | none => rw [q1] at hz; cases hz
          | some y => rw [q1] at hz; cases hz; exact ss _ _ (hbs j c y hj q1)
        · rw [ef, List.length_map]
          exact Nat.le_trans (show _ ≤ 1000 by omega) (by decide)
        · have s5 := hs.trans ss
          have hr5 : upd Hx st (.lst []) st = some (.lst ((wordsL xs).map V.str)) := by
            have : xs = [] := List.eq_nil_of_length_eq_zero (by rw [e] at hn1; simp at hn1; omega)
            rw [upd_same, this]
            rfl
          refine ⟨u, st, _, _, rfl, rfl, s5 _ _ hu1, hr5, ?_, fun q hq => ⟨(show 1 ≤ sizeLine by decide), fun q2 hq2 => ?_⟩⟩
          · rw [List.length_map]
            exact Nat.le_trans (show _ ≤ 1000 by simp; omega) (by decide)
          · have s6 := same_new (o := .lst ([.str "("] ++ (wordsL xs).map V.str)) (Same.refl _) hq
            have s7 := same_new (o := .lst [.str ")"]) (Same.refl _) hq2
            refine ⟨q, q2, _, _, rfl, rfl, s7 _ _ upd_same, upd_same, ?_⟩
            refine fin (s1.trans (s5.trans (s6.trans s7))) ?_ |>.imp (fun h => by rw [List.length_append] at h; exact h) id
            rw [D.words]
            simp
        · have s5 := same_new (o := .lst (xs.map fun y => y.words.map V.str).flatten) (hs.trans ss) (same_none (hs.trans ss) hp)
          have hr5 : upd (upd Hx st (.lst [])) r (.lst (xs.map fun y => y.words.map V.str).flatten) r = some (.lst ((wordsL xs).map V.str)) := by
            rw [upd_same, ef]
          refine ⟨u, r, _, _, rfl, rfl, s5 _ _ hu1, hr5, ?_, fun q hq => ⟨(show 1 ≤ sizeLine by decide), fun q2 hq2 => ?_⟩⟩
          · rw [List.length_map]
            exact Nat.le_trans (show _ ≤ 1000 by simp; omega) (by decide)
          · have s6 := same_new (o := .lst ([.str "("] ++ (wordsL xs).map V.str)) (Same.refl _) hq
            have s7 := same_new (o := .lst [.str ")"]) (Same.refl _) hq2
            refine ⟨q, q2, _, _, rfl, rfl, s7 _ _ upd_same, upd_same, ?_⟩
            refine fin (s1.trans (s5.trans (s6.trans s7))) ?_ |>.imp (fun h => by rw [List.length_append] at h; exact h) id
            rw [D.words]
            simp
    | pap wd xs =>
      obtain ⟨b'', rfl⟩ : ∃ c, b = c + 1 := by
        cases b with
        | zero => exact htold.elim
        | succ c => exact ⟨c, rfl⟩
      have ht0 : many wd = some xs.length ∧ toldL b'' xs := htold
      have hw' : wideL xs := hw
      have hlx := many_le ht0.1
      have hn' : (wordsL xs).length + 3 ≤ 900 := by
        rw [D.words] at hn
        simp at hn
        omega
      refine iteT ⟨(show 1 ≤ sizeLine by decide), fun u hu => ?_⟩
      have s1 : Same H (upd H u (.lst [.str "["])) := same_new (Same.refl H) hu
      refine ⟨_, rfl, b'', rfl, wd, xs, v, rfl, D.has_kept (Kept.of s1) _ hv, hg, ht0.2, hw', by omega, by omega, fun r H5 s5 nr hr5 => ?_⟩
      refine ⟨u, r, _, _, rfl, rfl, s5 _ _ upd_same, hr5, ?_, fun q hq => ⟨(show 1 ≤ sizeLine by decide), fun q2 hq2 => ?_⟩⟩
      · rw [List.length_map]
        exact Nat.le_trans (show _ ≤ 1000 by simp; omega) (by decide)
      · have s6 := same_new (o := .lst ([.str "["] ++ (wd :: wordsL xs).map V.str)) (Same.refl H5) hq
        have s7 := same_new (o := .lst [.str "]"]) (Same.refl _) hq2
        refine ⟨q, q2, _, _, rfl, rfl, s7 _ _ upd_same, upd_same, ?_⟩
        refine fin (s1.trans (s5.trans (s6.trans s7))) ?_ |>.imp (fun h => by rw [List.length_append] at h; exact h) id
        rw [D.words]
        simp
theorem ok_lwords {f fP : Addr} {fd fdP : FuncData} (p : Pap K Pp cl) (pm : PapM mg K Pp cl) (G : GF mg) (F : Fun K "_law_tx_value" "_law_tx_value" sLVal f fd) (bF : Binds K fd ["value"] []) (mF : mg "_law_tx_value" = some (.ref f))
    (FP : Fun K "_law_tx_paper" "_law_tx_paper" sLPap fP fdP) (bP : Binds K fdP ["paper"] []) (mP : mg "_law_tx_paper" = some (.ref fP)) :
    ∀ b, FnOk P w K mg base CX0 (2 * b + 1) f fd ["value"] (under (spWords cl) b) ∧ FnOk P w K mg base CX0 (2 * b + 2) fP fdP ["paper"] (under (spWordsP cl) b) := by
  intro b
  induction b with
  | zero => exact ⟨⟨fun _ _ _ _ ⟨_, e, _⟩ => (nomatch e), fun _ _ _ _ _ _ _ _ _ _ _ _ _ ⟨_, e, _⟩ => (nomatch e)⟩, ⟨fun _ _ _ _ ⟨_, e, _⟩ => (nomatch e), fun _ _ _ _ _ _ _ _ _ _ _ _ _ ⟨_, e, _⟩ => (nomatch e)⟩⟩
  | succ b ih =>
    obtain ⟨i1, i2⟩ := ih
    have r1 := lval_step p pm G F bF mF FP bP mP b i1 i2
    have r2 := ok_lpap pm G FP F bF mF b r1
    refine ⟨r1.imp fun vs H Q E h => ?_, r2.imp fun vs H Q E h => ?_⟩
    · obtain ⟨b', e, h⟩ := h
      obtain rfl : b = b' := by omega
      exact h
    · obtain ⟨b', e, h⟩ := h
      obtain rfl : b = b' := by omega
      exact h
end
end Nr
end
set_option maxHeartbeats 8000000
section
/-! NrBent: _law_tx_bent. -/
namespace Nr
open PySem PySem.Spec PyProof.Rows L2 LamX NdefX
theorem op_mul_str {X : Cx} : OpR X (binaryOp .Mult) (fun x y H Q => ∃ z n, x = .str z ∧ y = .int n ∧ MulOk z n ∧ Q (.str (Txt.mul z n)) H) := by
  intro pins s σ H x y v u Q I rx ry h
  obtain ⟨z, n, rfl, rfl, hz, q⟩ := h
  obtain ⟨t, rfl⟩ := rx
  obtain ⟨t', rfl⟩ := ry
  exact SB.mul hz fun t' k => ⟨.str (Txt.mul z n), H, I.tok _, ⟨_, rfl⟩, q⟩
def fixW : List Str := ["", "0", "-0", "01", "1/2", "2/4", "1/1", "0/3", "-3/7", "5", "-2", "+1", "x", ":", Txt.mul "9" 40, Txt.mul "9" 41, "1/"]
theorem cut_take (ws : List Str) (i : Nat) : cutV (ws.map V.str) none (some (i : Int)) = (ws.take i).map V.str := by
  unfold cutV
  rw [HT.sIx_none, HT.sIx_nat, List.drop_zero, Nat.sub_zero, List.map_take, List.length_map]
  by_cases h : i ≤ ws.length
  · rw [Nat.min_eq_left h]
  · rw [Nat.min_eq_right (by omega), List.take_of_length_le (by simp), List.take_of_length_le (by simp; omega)]
theorem cut_drop (ws : List Str) (i : Nat) : cutV (ws.map V.str) (some (i : Int)) none = (ws.drop i).map V.str := by
  unfold cutV
  rw [HT.sIx_none, HT.sIx_nat, List.map_drop, List.length_map]
  by_cases h : i ≤ ws.length
  · rw [Nat.min_eq_left h, List.take_of_length_le (by simp)]
  · rw [Nat.min_eq_right (by omega), List.drop_of_length_le (by simp), List.drop_of_length_le (by simp; omega), List.take_nil]
theorem cut_mid (ws : List Str) (i j : Nat) (h : i ≤ ws.length) : ∃ k, cutV (ws.map V.str) (some (i : Int)) (some (j : Int)) = ((ws.drop i).take k).map V.str ∧ k ≤ j - i := by
  unfold cutV
  rw [HT.sIx_nat, HT.sIx_nat, List.length_map, Nat.min_eq_left h]
  exact ⟨min j ws.length - i, by rw [List.map_take, List.map_drop], by omega⟩
theorem mul40 : MulOk "9" 40 := mulOk_of 1 40 (by decide +kernel) (by decide) (by decide) (by decide) (by decide)
theorem mul41 : MulOk "9" 41 := mulOk_of 1 41 (by decide +kernel) (by decide) (by decide) (by decide) (by decide)
def spBent : Sp := fun vs H Q _ => ∃ (p c : Addr) (cs : List Int) (n : Nat) (wl ol : Addr) (ws os : List Str), vs = [.ref p, .ref wl, .ref ol] ∧ PenAt H p c cs n ∧ n ≤ 90000 ∧ H wl = some (.lst (ws.map V.str)) ∧ H ol = some (.lst (os.map V.str)) ∧ ws ≠ [] ∧ ws.length ≤ 900 ∧ os.length ≤ 100 ∧ wl ≠ p ∧ ol ≠ p ∧
  ∀ l ws' H', Off p H H' → PenAt H' p c cs (n + 3) → H l = none → H' l = some (.lst (ws'.map V.str)) → ws' ≠ [] → ws'.length ≤ ws.length + 1 → (∀ x ∈ ws', x ∈ ws ∨ x ∈ os ∨ x ∈ fixW) → Q (.ref l) H'
section
variable {P : Program} {w : World} {K : PySem.W.Frag} {mg : Str → Option Value} {base : Heap}
theorem scBent : FnScope ["pen", "words", "odd", "at", "way", "one"] ["pen", "words", "odd"] (defScope sBent) := ⟨rfl, rfl, rfl, by decide +kernel, rfl, by decide +kernel, by decide +kernel⟩
theorem ok_bent {f fD fP : Addr} {fd fdD fdP : FuncData} (F : Fun K "_law_tx_bent" "_law_tx_bent" sBent f fd) (G : GF mg)
    (FD : Fun K "_law_draw" "_law_draw" sDraw fD fdD) (bD : Binds K fdD ["pen", "many"] []) (mD : mg "_law_draw" = some (.ref fD)) (OD : FnOk P w K mg base CX0 1 fD fdD ["pen", "many"] spDraw)
    (FP : Fun K "_law_pick" "_law_pick" sPick fP fdP) (bP : Binds K fdP ["pen", "some"] []) (mP : mg "_law_pick" = some (.ref fP)) (OP : FnOk P w K mg base CX0 2 fP fdP ["pen", "some"] (spPick K)) :
    FnOk P w K mg base CX0 3 f fd ["pen", "words", "odd"] spBent := by
  have nd := scBent.nd
  refine F.ok scBent (fun vs H Q E h => ?_) (fun cdv A outer s H vs Q E hr h => ?_)
  · obtain ⟨_, _, _, _, _, _, _, _, rfl, _⟩ := h
    rfl
  · obtain ⟨p, c, cs, n, wl, ol, ws, os, rfl, hp, hn, hw, ho, hne, hlen, hol, hwp, hop, k⟩ := h
    have hr1 := hr.mono (show 1 ≤ 2 by decide)
    refine ⟨_, pss_cons (ps_par (i := 3) (j := 4) (by rfl) nd rfl rfl (by decide) rfl rfl (pa_cons (pe_call OD hr1 rfl mD FD.kp bD .nil pass0 (pa_cons (pv 0) (pa_cons (pe_callB call_len_seq (by rfl) (G.f "len" (by decide +kernel)) PySem.boot_len (pa_cons (pv 1) pa_nil)) pa_nil))) (pa_cons (pe_call OD hr1 rfl mD FD.kp bD .nil pass0 (pa_cons (pv 0) (pa_cons pe_int pa_nil))) pa_nil)) (by rfl))
      (pss_cons (ps_set (i := 5) nd rfl (.inl rfl) (pe_call OP hr rfl mP FP.kp bP .nil pass0 (pa_cons (pv 0) (pa_cons (pe_op op_cat (pv 2) (pe_lst (pa_cons pe_str (pa_cons pe_str (pa_cons pe_str (pa_cons pe_str (pa_cons pe_str (pa_cons pe_str (pa_cons pe_str (pa_cons pe_str (pa_cons pe_str (pa_cons pe_str (pa_cons pe_str (pa_cons pe_str (pa_cons pe_str (pa_cons pe_str (pa_cons (pe_op op_mul_str pe_str pe_int) (pa_cons (pe_op op_mul_str pe_str pe_int) (pa_cons pe_str pa_nil))))))))))))))))))) pa_nil))))
      (pss_cons (ps_if (pt_cmpR op_eq (pv 4) pe_int (nomark _)) (pss_one (ps_ret (pe_ifExp (pt_cmpR op_gt (pe_callB call_len_seq (by rfl) (G.f "len" (by decide +kernel)) PySem.boot_len (pa_cons (pv 1) pa_nil)) pe_int (nomark _))
          (pe_op op_cat (pe_slice sl_list (pv 1) po_none (po_some (pv 3))) (pe_slice sl_list (pv 1) (po_some (pe_op op_add (pv 3) pe_int)) po_none)) (pe_lst (pa_cons pe_str pa_nil))))) pss_nil)
      (pss_cons (ps_if (pt_cmpR op_lt (pv 4) pe_int (nomark _)) (pss_one (ps_ret (pe_op op_cat (pe_op op_cat (pe_slice sl_list (pv 1) po_none (po_some (pv 3))) (pe_lst (pa_cons (pv 5) pa_nil))) (pe_slice sl_list (pv 1) (po_some (pe_op op_sub (pe_op op_add (pv 3) (pv 4)) pe_int)) po_none)))) pss_nil)
      (pss_cons (ps_if (pt_cmpR op_eq (pv 4) pe_int (nomark _)) (pss_one (ps_ret (pe_op op_cat (pe_slice sl_list (pv 1) po_none (po_some (pe_op op_add (pv 3) pe_int))) (pe_slice sl_list (pv 1) (po_some (pv 3)) po_none)))) pss_nil)
      (pss_cons (ps_if (pt_cmpR op_eq (pv 4) pe_int (nomark _)) (pss_one (ps_ret (pe_op op_cat (pe_op op_cat (pe_slice sl_list (pv 1) po_none (po_some (pv 3))) (pe_revL (pe_slice sl_list (pv 1) (po_some (pv 3)) (po_some (pe_op op_add (pv 3) pe_int))))) (pe_slice sl_list (pv 1) (po_some (pe_op op_add (pv 3) pe_int)) po_none)))) pss_nil)
      (pss_one (ps_ret (pe_ifExp (PW.pt (pw_and (pt_cmpR op_eq (pv 4) pe_int (nomark _)) (pw_and1 (pt_cmpR op_gt (pv 3) pe_int (nomark _))))) (pe_slice sl_list (pv 1) po_none (po_some (pv 3))) (pe_op op_cat (pv 1) (pe_lst (pa_cons (pv 5) pa_nil))))))))))), ?_⟩
    have hpos : 0 < ws.length := List.length_pos_iff.mpr hne
    refine ⟨_, rfl, _, rfl, wl, _, rfl, .inl (SqL.of hw), p, c, cs, n, _, rfl, hp, by omega, by rw [List.length_map]; omega, by rw [List.length_map]; omega, fun r1 H1 r10 r11 o1 p1 => ?_⟩
    rw [List.length_map] at r11
    refine ⟨_, rfl, p, c, cs, n + 1, 7, rfl, p1, by omega, by decide, by decide, fun r2 H2 r20 r21 o2 p2 => ?_⟩
    obtain ⟨a, rfl⟩ : ∃ a : Nat, r1 = (a : Int) := ⟨r1.toNat, by omega⟩
    obtain ⟨y, rfl⟩ : ∃ y : Nat, r2 = (y : Int) := ⟨r2.toNat, by omega⟩
    have hal : a < ws.length := by omega
    have hw2 := o2 _ _ hwp (o1 _ _ hwp hw)
    have ho2 := o2 _ _ hop (o1 _ _ hop ho)
    refine ⟨_, _, rfl, _, rfl, _, rfl, _, _, rfl, rfl, mul40, _, _, rfl, rfl, mul41, (show 17 ≤ sizeLine by decide), fun q hq => ?_⟩
    have s3 := same_new (o := .lst (fixW.map V.str)) (Same.refl H2) hq
    have hq2 : upd H2 q (.lst (fixW.map V.str)) q = some (.lst (fixW.map V.str)) := upd_same
    have hfix : fixW.length = 17 := rfl
    refine ⟨ol, q, _, _, rfl, rfl, s3 _ _ ho2, hq2, ?_, fun t ht => ?_⟩
    · rw [List.length_map, List.length_map, hfix]
      exact Nat.le_trans (show _ ≤ 1000 by omega) (by decide)
    have s4 := same_new (o := .lst (os.map V.str ++ fixW.map V.str)) (Same.refl _) ht
    have ht2 : upd (upd H2 q (.lst (fixW.map V.str))) t (.lst (os.map V.str ++ fixW.map V.str)) t = some (.lst (os.map V.str ++ fixW.map V.str)) := upd_same
    have o3 : Off p H2 (upd (upd H2 q (.lst (fixW.map V.str))) t (.lst (os.map V.str ++ fixW.map V.str))) := fun b o hb e => s4 _ _ (s3 _ _ e)
    have p3 : PenAt (upd (upd H2 q (.lst (fixW.map V.str))) t (.lst (os.map V.str ++ fixW.map V.str))) p c cs (n + 2) := p2.ext (ExtN.of (fun b o e => s4 _ _ (s3 _ _ e)))
    have hw3 : upd (upd H2 q (.lst (fixW.map V.str))) t (.lst (os.map V.str ++ fixW.map V.str)) wl = some (.lst (ws.map V.str)) := s4 _ _ (s3 _ _ hw2)
    have htp : t ≠ p := by
      obtain ⟨_, _, _, e2, _, _⟩ := p2
      exact Ne.symm (ne_of_none (s3 _ _ e2) ht)
    refine ⟨p, c, cs, n + 2, t, _, rfl, p3, by omega, ht2, by rw [List.length_append, List.length_map, List.length_map, hfix]; omega, by rw [List.length_append, List.length_map, List.length_map, hfix]; omega, htp, fun i v H4 hv o4 p4 => ?_⟩
    obtain ⟨one, rfl, hone⟩ : ∃ one, v = .str one ∧ (one ∈ os ∨ one ∈ fixW) := by
      rw [← List.map_append] at hv
      have := List.mem_of_getElem? hv
      rw [List.mem_map] at this
      obtain ⟨z, hz, e⟩ := this
      exact ⟨z, e.symm, List.mem_append.mp hz⟩
    have hw4 := o4 _ _ hwp hw3
    have oall : Off p H H4 := fun b o hb e => o4 _ _ hb (o3 _ _ hb (o2 _ _ hb (o1 _ _ hb e)))
    have fin : ∀ (Hc : Hp) (l : Addr) (ws' : List Str), Same H4 Hc → Hc l = none → ws' ≠ [] → ws'.length ≤ ws.length + 1 → (∀ x ∈ ws', x ∈ ws ∨ x ∈ os ∨ x ∈ fixW) → Q (.ref l) (upd Hc l (.lst (ws'.map V.str))) := fun Hc l ws' sc hl e1 e2 e3 => by
      have sc2 := same_new (o := .lst (ws'.map V.str)) sc (same_none sc hl)
      refine k l ws' _ (fun b o hb e => sc2 _ _ (oall b o hb e)) (p4.ext (ExtN.of sc2)) ?_ upd_same e1 e2 e3
      cases q1 : H l with
      | none => rfl
      | some o =>
        exfalso
        by_cases hlp : l = p
        · obtain ⟨_, _, _, e2, _, _⟩ := p4
          rw [hlp, sc _ _ e2] at hl
          cases hl
        · rw [sc _ _ (oall l o hlp q1)] at hl
          cases hl
    have hsz : ∀ xs zs : List Str, xs.length + zs.length ≤ 2000 → (xs.map V.str).length + (zs.map V.str).length ≤ sizeLine := fun xs zs e => by
      rw [List.length_map, List.length_map]
      exact Nat.le_trans e (by decide)
    have ht_ : (ws.take a).length = a := by rw [List.length_take]; omega
    have memt : ∀ j, ∀ x ∈ ws.take j, x ∈ ws := fun j x hx => List.mem_of_mem_take hx
    have memd : ∀ j, ∀ x ∈ ws.drop j, x ∈ ws := fun j x hx => List.mem_of_mem_drop hx
    refine ⟨_, rfl, rfl, _, rfl, ?_⟩
    by_cases y0 : y = 0
    · subst y0
      rw [show decide (V.int ((0 : Nat) : Int) = V.int 0) = true from decide_eq_true rfl]
      refine iteT ⟨_, rfl, wl, _, rfl, .inl (SqL.of hw4), _, _, rfl, rfl, _, rfl, ?_⟩
      rw [List.length_map]
      by_cases c1 : (ws.length : Int) > 1
      · rw [decide_eq_true c1]
        refine iteT ⟨_, rfl, _, rfl, _, rfl, wl, _, rfl, SqL.of hw4, fun q1 hq1 => ?_⟩
        rw [cut_take]
        have z1 := same_new (o := .lst ((ws.take a).map V.str)) (Same.refl H4) hq1
        refine ⟨_, rfl, _, rfl, _, _, rfl, rfl, _, rfl, wl, _, rfl, SqL.of (z1 _ _ hw4), fun q2 hq2 => ?_⟩
        rw [show (a : Int) + 1 = ((a + 1 : Nat) : Int) by omega, cut_drop]
        have z2 := same_new (o := .lst ((ws.drop (a + 1)).map V.str)) (Same.refl _) hq2
        refine ⟨q1, q2, _, _, rfl, rfl, z2 _ _ upd_same, upd_same, hsz _ _ (by rw [List.length_take, List.length_drop]; omega), fun l hl => ?_⟩
        rw [← List.map_append]
        refine fin _ l _ (z1.trans z2) hl ?_ (by rw [List.length_append, List.length_take, List.length_drop]; omega) fun x hx => .inl ((List.mem_append.mp hx).elim (memt _ x) (memd _ x))
        intro e
        have := congrArg List.length e
        rw [List.length_append, List.length_take, List.length_drop, List.length_nil] at this
        omega
      · rw [decide_eq_false c1]
        refine iteF ⟨(show 1 ≤ sizeLine by decide), fun l hl => fin H4 l [""] (Same.refl H4) hl (by simp) (by simp) fun x hx => .inr (.inr ?_)⟩
        rw [List.mem_singleton.mp hx]
        exact List.mem_cons_self ..
    rw [show decide (V.int (y : Int) = V.int 0) = false from decide_eq_false fun z => y0 (by have := V.int.inj z; omega)]
    refine iteF ⟨_, rfl, _, _, rfl, rfl, _, rfl, ?_⟩
    by_cases y3 : (y : Int) < 3
    · rw [decide_eq_true y3]
      refine iteT ⟨_, rfl, _, rfl, _, rfl, wl, _, rfl, SqL.of hw4, fun q1 hq1 => ?_⟩
      rw [cut_take]
      have z1 := same_new (o := .lst ((ws.take a).map V.str)) (Same.refl H4) hq1
      refine ⟨_, rfl, (show 1 ≤ sizeLine by decide), fun q2 hq2 => ?_⟩
      have z2 := same_new (o := .lst [.str one]) (Same.refl _) hq2
      refine ⟨q1, q2, (ws.take a).map V.str, [one].map V.str, rfl, rfl, z2 _ _ upd_same, upd_same, hsz _ _ (by rw [List.length_take]; simp; omega), fun q3 hq3 => ?_⟩
      rw [← List.map_append]
      have z3 := same_new (o := .lst ((ws.take a ++ [one]).map V.str)) (Same.refl _) hq3
      refine ⟨_, rfl, _, rfl, _, rfl, _, _, rfl, rfl, _, _, rfl, rfl, _, rfl, wl, _, rfl, SqL.of (z3 _ _ (z2 _ _ (z1 _ _ hw4))), fun q4 hq4 => ?_⟩
      rw [show (a : Int) + (y : Int) - 1 = ((a + y - 1 : Nat) : Int) by omega, cut_drop]
      have z4 := same_new (o := .lst ((ws.drop (a + y - 1)).map V.str)) (Same.refl _) hq4
      refine ⟨q3, q4, _, _, rfl, rfl, z4 _ _ upd_same, upd_same, hsz _ _ (by rw [List.length_append, List.length_take, List.length_drop]; simp; omega), fun l hl => ?_⟩
      rw [← List.map_append]
      refine fin _ l _ (z1.trans (z2.trans (z3.trans z4))) hl (by simp) (by rw [List.length_append, List.length_append, List.length_take, List.length_drop]; simp; omega) fun x hx => ?_
      rcases List.mem_append.mp hx with hx | hx
      · rcases List.mem_append.mp hx with hx | hx
        · exact .inl (memt _ x hx)
        · rw [List.mem_singleton.mp hx]
          exact .inr hone
      · exact .inl (memd _ x hx)
    rw [decide_eq_false y3]
    refine iteF ⟨_, rfl, rfl, _, rfl, ?_⟩
    by_cases y33 : y = 3
    · subst y33
      rw [show decide (V.int ((3 : Nat) : Int) = V.int 3) = true from decide_eq_true rfl]
      refine iteT ⟨_, rfl, _, rfl, _, _, rfl, rfl, _, rfl, wl, _, rfl, SqL.of hw4, fun q1 hq1 => ?_⟩
      rw [show (a : Int) + 1 = ((a + 1 : Nat) : Int) by omega, cut_take]
      have z1 := same_new (o := .lst ((ws.take (a + 1)).map V.str)) (Same.refl H4) hq1
      refine ⟨_, rfl, _, rfl, _, rfl, wl, _, rfl, SqL.of (z1 _ _ hw4), fun q2 hq2 => ?_⟩
      rw [cut_drop]
      have z2 := same_new (o := .lst ((ws.drop a).map V.str)) (Same.refl _) hq2
      refine ⟨q1, q2, _, _, rfl, rfl, z2 _ _ upd_same, upd_same, hsz _ _ (by rw [List.length_take, List.length_drop]; omega), fun l hl => ?_⟩
      rw [← List.map_append]
      refine fin _ l _ (z1.trans z2) hl ?_ (by rw [List.length_append, List.length_take, List.length_drop]; omega) fun x hx => .inl ((List.mem_append.mp hx).elim (memt _ x) (memd _ x))
      intro e
      have := congrArg List.length e
      rw [List.length_append, List.length_take, List.length_drop, List.length_nil] at this
      omega
    rw [show decide (V.int (y : Int) = V.int 3) = false from decide_eq_false fun z => y33 (by have := V.int.inj z; omega)]
    refine iteF ⟨_, rfl, rfl, _, rfl, ?_⟩
    by_cases y4 : y = 4
    · subst y4
      rw [show decide (V.int ((4 : Nat) : Int) = V.int 4) = true from decide_eq_true rfl]
      refine iteT ⟨_, rfl, _, rfl, _, rfl, wl, _, rfl, SqL.of hw4, fun q1 hq1 => ?_⟩
      rw [cut_take]
      have z1 := same_new (o := .lst ((ws.take a).map V.str)) (Same.refl H4) hq1
      obtain ⟨kk, hkk, hkk2⟩ := cut_mid ws a (a + 2) (by omega)
      refine ⟨_, rfl, _, rfl, _, rfl, _, rfl, _, _, rfl, rfl, _, rfl, wl, _, rfl, SqL.of (z1 _ _ hw4), fun q2 hq2 => ?_⟩
      rw [show (a : Int) + 2 = ((a + 2 : Nat) : Int) by omega, hkk]
      have z2 := same_new (o := .lst (((ws.drop a).take kk).map V.str)) (Same.refl _) hq2
      refine ⟨q2, _, rfl, SqL.of upd_same, fun q3 hq3 => ?_⟩
      rw [← List.map_reverse]
      have z3 := same_new (o := .lst (((ws.drop a).take kk).reverse.map V.str)) (Same.refl _) hq3
      refine ⟨q1, q3, _, _, rfl, rfl, z3 _ _ (z2 _ _ upd_same), upd_same, hsz _ _ (by rw [List.length_reverse, List.length_take, List.length_take, List.length_drop]; omega), fun q4 hq4 => ?_⟩
      rw [← List.map_append]
      have z4 := same_new (o := .lst ((ws.take a ++ ((ws.drop a).take kk).reverse).map V.str)) (Same.refl _) hq4
      refine ⟨_, rfl, _, rfl, _, _, rfl, rfl, _, rfl, wl, _, rfl, SqL.of (z4 _ _ (z3 _ _ (z2 _ _ (z1 _ _ hw4)))), fun q5 hq5 => ?_⟩
      rw [show (a : Int) + 2 = ((a + 2 : Nat) : Int) by omega, cut_drop]
      have z5 := same_new (o := .lst ((ws.drop (a + 2)).map V.str)) (Same.refl _) hq5
      refine ⟨q4, q5, _, _, rfl, rfl, z5 _ _ upd_same, upd_same, hsz _ _ (by rw [List.length_append, List.length_reverse, List.length_take, List.length_take, List.length_drop, List.length_drop]; omega), fun l hl => ?_⟩
      rw [← List.map_append]
      have hkpos : a + kk + (ws.length - (a + 2)) > 0 := by
        have h1 : (((ws.drop a).take kk).map V.str).length = (cutV (ws.map V.str) (some (a : Int)) (some ((a + 2 : Nat) : Int))).length := by rw [hkk]
        unfold cutV at h1
        rw [HT.sIx_nat, HT.sIx_nat] at h1
        simp at h1
        omega
      refine fin _ l _ (z1.trans (z2.trans (z3.trans (z4.trans z5)))) hl ?_ (by rw [List.length_append, List.length_append, List.length_reverse, List.length_take, List.length_take, List.length_drop, List.length_drop]; omega) fun x hx => ?_
      · intro e
        have := congrArg List.length e
        rw [List.length_append, List.length_append, List.length_reverse, List.length_take, List.length_take, List.length_drop, List.length_drop, List.length_nil] at this
        omega
      · rcases List.mem_append.mp hx with hx | hx
        · rcases List.mem_append.mp hx with hx | hx
          · exact .inl (memt _ x hx)
          · exact .inl (memd _ x (List.mem_of_mem_take (List.mem_reverse.mp hx)))
        · exact .inl (memd _ x hx)
    rw [show decide (V.int (y : Int) = V.int 4) = false from decide_eq_false fun z => y4 (by have := V.int.inj z; omega)]
    have last : ∀ l : Addr, True := fun _ => trivial
    refine iteF ⟨_, rfl, rfl, _, rfl, ?_⟩
    have app : [V.str one].length ≤ sizeLine ∧ ∀ q1, H4 q1 = none → ∃ l b xs zs, V.ref wl = .ref l ∧ V.ref q1 = .ref b ∧ upd H4 q1 (.lst [.str one]) l = some (.lst xs) ∧ upd H4 q1 (.lst [.str one]) b = some (.lst zs) ∧ xs.length + zs.length ≤ sizeLine ∧ ∀ l2, upd H4 q1 (.lst [.str one]) l2 = none → Q (.ref l2) (upd (upd H4 q1 (.lst [.str one])) l2 (.lst (xs ++ zs))) := by
      refine ⟨(show 1 ≤ sizeLine by decide), fun q1 hq1 => ?_⟩
      have z1 := same_new (o := .lst [.str one]) (Same.refl H4) hq1
      refine ⟨wl, q1, ws.map V.str, [one].map V.str, rfl, rfl, z1 _ _ hw4, upd_same, hsz _ _ (by simp; omega), fun l hl => ?_⟩
      rw [← List.map_append]
      refine fin _ l _ z1 hl (by simp) (by simp) fun x hx => ?_
      rcases List.mem_append.mp hx with hx | hx
      · exact .inl hx
      · rw [List.mem_singleton.mp hx]
        exact .inr hone
    by_cases y5 : y = 5 ∧ (a : Int) > 0
    · obtain ⟨rfl, ha0⟩ := y5
      rw [show decide (V.int ((5 : Nat) : Int) = V.int 5) = true from decide_eq_true rfl]
      refine iteT ⟨_, rfl, _, _, rfl, rfl, _, rfl, ?_⟩
      rw [decide_eq_true ha0]
      refine iteT ⟨_, rfl, _, rfl, _, rfl, wl, _, rfl, SqL.of hw4, fun q1 hq1 => ?_⟩
      rw [cut_take]
      refine fin H4 q1 _ (Same.refl H4) hq1 ?_ (by rw [List.length_take]; omega) fun x hx => .inl (memt _ x hx)
      intro e
      have := congrArg List.length e
      rw [List.length_take, List.length_nil] at this
      omega
    · refine (fun r => ite2 (fun h1 => ⟨_, rfl, _, _, rfl, rfl, _, rfl, by
        have h1 := V.int.inj (of_decide_eq_true h1)
        rw [decide_eq_false fun z => y5 ⟨by omega, z⟩]
        exact r⟩) (fun _ => r)) ?_
      exact iteF ⟨_, rfl, _, rfl, app⟩
end
end Nr
end
set_option maxHeartbeats 8000000
section
/-! NrSome: _law_tx_some. -/
namespace Nr
open PySem PySem.Spec PyProof.Rows L2 LamX NdefX
def baseW : List Str := manyKs ++ [("(" : Str), ")", "[", "]", "none", "yes", "no", numText 0, numText 5, numText (-3), numText (10 ^ 39)]
def wN : Nat → Nat
  | 0 => 1
  | d + 1 => 2 * wN d + 3
def cN : Nat → Nat
  | 0 => 2
  | d + 1 => 2 * cN d + 2
structure SomeOk (dp : Nat) (d : D) : Prop where
  told : d.told dp
  fit : d.fit dp
  wide : d.wide
  len : d.words.length ≤ wN dp
  ws : ∀ x ∈ d.words, x ∈ baseW
theorem wN_pos : ∀ n, 1 ≤ wN n
  | 0 => Nat.le_refl _
  | n + 1 => by rw [wN]; omega
theorem cN_pos : ∀ n, 2 ≤ cN n
  | 0 => Nat.le_refl _
  | n + 1 => by rw [cN]; omega
theorem off_keptP {cl : Str → Addr} {p : Addr} {H H' : Hp} {vs : List V} (o : Off p H H') (hp : H p = some (.lst vs)) : Kept cl H H' := fun b u hb hv => by
  refine o b u (fun e => ?_) hb
  rw [e, hp] at hb
  cases hb
  rcases hv with ⟨_, q⟩ | ⟨_, _, _, q, _⟩ <;> cases q
theorem Off.trans {p : Addr} {H H1 H2 : Hp} (a : Off p H H1) (b : Off p H1 H2) : Off p H H2 := fun c u hc e => b c u hc (a c u hc e)
theorem Off.of {p : Addr} {H H1 : Hp} (a : Same H H1) : Off p H H1 := fun c u _ e => a c u e
theorem Off.refl {p : Addr} (H : Hp) : Off p H H := fun _ _ _ e => e
theorem PenAt.lst {H : Hp} {p c : Addr} {cs : List Int} {n : Nat} (h : PenAt H p c cs n) : ∃ vs, H p = some (.lst vs) := by
  obtain ⟨_, _, _, e, _, _⟩ := h
  exact ⟨_, e⟩
def leaves : List D := [.int 0, .int 5, .int (-3), .non, .bl true, .bl false, .int (10 ^ 39)]
def leafV : D → V
  | .int i => .int i
  | .bl b => .bl b
  | _ => .non
theorem flat_int {i : Int} (h1 : numText i ≠ "none") (h2 : numText i ≠ "no") (h3 : numText i ≠ "yes") (h4 : isIntW (numText i) = true) (h5 : intText? (numText i) = some i) : flat (numText i) = some (.int i) := by
  unfold flat
  rw [if_neg h1, if_neg h2, if_neg h3, if_pos h4, h5]
  rfl
theorem leaf_ok (dp : Nat) : ∀ d ∈ leaves, SomeOk dp d ∧ ∀ (cl : Str → Addr) (H : Hp), d.has cl H (leafV d) := by
  intro d hd
  have h1 := wN_pos dp
  simp only [leaves, List.mem_cons, List.not_mem_nil, or_false] at hd
  rcases hd with rfl | rfl | rfl | rfl | rfl | rfl | rfl
  · have ht : ∀ b, (D.int 0).told b := fun b => by cases b <;> (show (0 : Int).natAbs < 10 ^ 40; decide +kernel)
    have hf : ∀ b, (D.int 0).fit b := fun b => by
      have e : flat (numText 0) = some (.int 0) := flat_int (by decide +kernel) (by decide +kernel) (by decide +kernel) (by decide +kernel) (by decide +kernel)
      cases b <;> exact e
    exact ⟨⟨ht dp, hf dp, by rw [D.wide] <;> simp, by rw [D.words]; exact h1, by rw [D.words]; decide +kernel⟩, fun _ _ => rfl⟩
  · have ht : ∀ b, (D.int 5).told b := fun b => by cases b <;> (show (5 : Int).natAbs < 10 ^ 40; decide +kernel)
    have hf : ∀ b, (D.int 5).fit b := fun b => by
      have e : flat (numText 5) = some (.int 5) := flat_int (by decide +kernel) (by decide +kernel) (by decide +kernel) (by decide +kernel) (by decide +kernel)
      cases b <;> exact e
    exact ⟨⟨ht dp, hf dp, by rw [D.wide] <;> simp, by rw [D.words]; exact h1, by rw [D.words]; decide +kernel⟩, fun _ _ => rfl⟩
  · have ht : ∀ b, (D.int (-3)).told b := fun b => by cases b <;> (show ((-3) : Int).natAbs < 10 ^ 40; decide +kernel)
    have hf : ∀ b, (D.int (-3)).fit b := fun b => by
      have e : flat (numText (-3)) = some (.int (-3)) := flat_int (by decide +kernel) (by decide +kernel) (by decide +kernel) (by decide +kernel) (by decide +kernel)
      cases b <;> exact e
    exact ⟨⟨ht dp, hf dp, by rw [D.wide] <;> simp, by rw [D.words]; exact h1, by rw [D.words]; decide +kernel⟩, fun _ _ => rfl⟩
  · exact ⟨⟨by cases dp <;> trivial, by cases dp <;> trivial, by rw [D.wide] <;> simp, by rw [D.words]; exact h1, by rw [D.words]; decide +kernel⟩, fun _ _ => rfl⟩
  · exact ⟨⟨by cases dp <;> trivial, by cases dp <;> trivial, by rw [D.wide] <;> simp, by rw [D.words]; exact h1, by rw [D.words]; decide +kernel⟩, fun _ _ => rfl⟩
  · exact ⟨⟨by cases dp <;> trivial, by cases dp <;> trivial, by rw [D.wide] <;> simp, by rw [D.words]; exact h1, by rw [D.words]; decide +kernel⟩, fun _ _ => rfl⟩
  · have ht : ∀ b, (D.int (10 ^ 39)).told b := fun b => by cases b <;> (show ((10 ^ 39) : Int).natAbs < 10 ^ 40; decide +kernel)
    have hf : ∀ b, (D.int (10 ^ 39)).fit b := fun b => by
      have e : flat (numText (10 ^ 39)) = some (.int (10 ^ 39)) := flat_int (by decide +kernel) (by decide +kernel) (by decide +kernel) (by decide +kernel) (by decide +kernel)
      cases b <;> exact e
    exact ⟨⟨ht dp, hf dp, by rw [D.wide] <;> simp, by rw [D.words]; exact h1, by rw [D.words]; decide +kernel⟩, fun _ _ => rfl⟩
end Nr
end
set_option maxHeartbeats 8000000
section
/-! NrSome2: _law_tx_some, the walk. -/
namespace Nr
open PySem PySem.Spec PyProof.Rows L2 LamX NdefX
def spSome (cl : Str → Addr) (dp : Nat) : Sp := fun vs H Q _ => ∃ (p c : Addr) (cs : List Int) (n : Nat), vs = [.ref p, .int (dp : Int)] ∧ PenAt H p c cs n ∧ n + cN dp ≤ 90000 ∧ dp ≤ 3 ∧
  ∀ v d H', SomeOk dp d → d.has cl H' v → Off p H H' → PenAt H' p c cs (n + cN dp) → Q v H'
theorem some_pap {dp : Nat} {w : Str} {xs : List D} (hm : many w = some xs.length) (hw : w ∈ baseW) (hx : ∀ x ∈ xs, SomeOk dp x) (hl : xs.length ≤ 2) : SomeOk (dp + 1) (.pap w xs) := by
  have ht : ∀ l : List D, (∀ x ∈ l, SomeOk dp x) → toldL dp l ∧ fitL dp l ∧ wideL l ∧ (wordsL l).length ≤ l.length * wN dp ∧ ∀ x ∈ wordsL l, x ∈ baseW := by
    intro l
    induction l with
    | nil => intro _; exact ⟨by rw [toldL] <;> trivial, by rw [fitL] <;> trivial, by rw [wideL] <;> trivial, by simp [wordsL], by simp [wordsL]⟩
    | cons y ys ih =>
      intro h
      obtain ⟨a, b, c, d, e⟩ := ih fun x hx => h x (List.mem_cons_of_mem _ hx)
      have hy := h y (List.mem_cons_self ..)
      refine ⟨by rw [toldL]; exact ⟨hy.told, a⟩, by rw [fitL]; exact ⟨hy.fit, b⟩, by rw [wideL]; exact ⟨hy.wide, c⟩, ?_, ?_⟩
      · rw [wordsL, List.length_append, List.length_cons, Nat.succ_mul]
        have := hy.len
        omega
      · rw [wordsL]
        intro x hx
        exact (List.mem_append.mp hx).elim (hy.ws x) (e x)
  obtain ⟨a, b, c, d, e⟩ := ht xs hx
  have hle : xs.length * wN dp ≤ 2 * wN dp := Nat.mul_le_mul_right _ hl
  refine ⟨⟨hm, a⟩, ⟨hm, b⟩, by rw [D.wide]; exact c, ?_, ?_⟩
  · rw [D.words, wN]
    simp
    omega
  · rw [D.words]
    intro x hx
    simp at hx
    rcases hx with rfl | rfl | hx | rfl
    · decide +kernel
    · exact hw
    · exact e x hx
    · decide +kernel
theorem some_tup {dp : Nat} {xs : List D} (hx : ∀ x ∈ xs, SomeOk dp x) (hl : xs.length ≤ 2) : SomeOk (dp + 1) (.tup xs) := by
  have ht : ∀ l : List D, (∀ x ∈ l, SomeOk dp x) → toldL dp l ∧ fitL dp l ∧ wideL l ∧ (wordsL l).length ≤ l.length * wN dp ∧ ∀ x ∈ wordsL l, x ∈ baseW := by
    intro l
    induction l with
    | nil => intro _; exact ⟨by rw [toldL] <;> trivial, by rw [fitL] <;> trivial, by rw [wideL] <;> trivial, by simp [wordsL], by simp [wordsL]⟩
    | cons y ys ih =>
      intro h
      obtain ⟨a, b, c, d, e⟩ := ih fun x hx => h x (List.mem_cons_of_mem _ hx)
      have hy := h y (List.mem_cons_self ..)
      refine ⟨by rw [toldL]; exact ⟨hy.told, a⟩, by rw [fitL]; exact ⟨hy.fit, b⟩, by rw [wideL]; exact ⟨hy.wide, c⟩, ?_, ?_⟩
      · rw [wordsL, List.length_append, List.length_cons, Nat.succ_mul]
        have := hy.len
        omega
      · rw [wordsL]
        intro x hx
        exact (List.mem_append.mp hx).elim (hy.ws x) (e x)
  obtain ⟨a, b, c, d, e⟩ := ht xs hx
  have hle : xs.length * wN dp ≤ 2 * wN dp := Nat.mul_le_mul_right _ hl
  refine ⟨a, b, by rw [D.wide]; exact ⟨by omega, c⟩, ?_, ?_⟩
  · rw [D.words, wN]
    simp
    omega
  · rw [D.words]
    intro x hx
    simp at hx
    rcases hx with rfl | hx | rfl
    · decide +kernel
    · exact e x hx
    · decide +kernel
theorem init_at {cl : Str → Addr} {w : Str} {n b : Nat} {H : Hp} {xs : List D} {us : List V} {R : Hp → Prop} {E : XK} {x dx : Addr} (nx : H x = none) (nd : H dx = none) (hne : dx ≠ x) (hl : hasL cl H xs us) (hn : us.length = n) (ht : toldL b xs) (hw : wideL xs)
    (k : ∀ H', Same H H' → (D.pap w xs).has cl H' (.ref x) → R H') : spInit cl w n b (.ref x :: us) (upd (upd H dx (.own x)) x (.ins (cl w) dx [])) (fun v H2 => v = .non ∧ R H2) E := by
  have s1 : Same H (upd (upd H dx (.own x)) x (.ins (cl w) dx [])) := same_new (same_new (Same.refl H) nd) nx
  refine ⟨x, dx, xs, us, rfl, hn, upd_same, hasL_kept (Kept.of s1) xs hl, ht, hw, fun fs t us' H' ho hx h1 h2 ht' hk => ⟨rfl, ?_⟩⟩
  exact k _ (Same.made nx nd fun b o e hb => ho b o hb e) ⟨x, dx, fs, t, us', rfl, hx, h1, h2, ht', hk H' fun _ _ _ e => e⟩
theorem cut_takeV (xs : List V) (i : Nat) : cutV xs none (some (i : Int)) = xs.take i := by
  unfold cutV
  rw [HT.sIx_none, HT.sIx_nat, List.drop_zero, Nat.sub_zero]
  by_cases h : i ≤ xs.length
  · rw [Nat.min_eq_left h]
  · rw [Nat.min_eq_right (by omega), List.take_of_length_le (Nat.le_refl _), List.take_of_length_le (by omega)]
theorem hasL_take {cl : Str → Addr} {H : Hp} : ∀ {xs : List D} {vs : List V} (j : Nat), hasL cl H xs vs → hasL cl H (xs.take j) (vs.take j)
  | [], vs, j, h => by rw [show vs = [] from h]; simp [hasL]
  | x :: xs, vs, 0, h => by rw [List.take_zero, List.take_zero]; rfl
  | x :: xs, vs, j + 1, ⟨v, r, e, h1, h2⟩ => by
    subst e
    exact ⟨v, r.take j, rfl, h1, hasL_take j h2⟩
section
variable {P : Program} {w : World} {K : PySem.W.Frag} {mg : Str → Option Value} {base : Heap} {cl : Str → Addr}
theorem scSome : FnScope ["pen", "deep", "way", "some", "turn"] ["pen", "deep"] (defScope sSome) := ⟨rfl, rfl, rfl, by decide +kernel, rfl, by decide +kernel, by decide +kernel⟩
theorem ok_some {f fD fP : Addr} {fd fdD fdP : FuncData} (F : Fun K "_law_tx_some" "_law_tx_some" sSome f fd) (bF : Binds K fd ["pen", "deep"] []) (mF : mg "_law_tx_some" = some (.ref f)) (G : GF mg)
    (FD : Fun K "_law_draw" "_law_draw" sDraw fD fdD) (bD : Binds K fdD ["pen", "many"] []) (mD : mg "_law_draw" = some (.ref fD)) (OD : FnOk P w K mg base CX0 1 fD fdD ["pen", "many"] spDraw)
    (FP : Fun K "_law_pick" "_law_pick" sPick fP fdP) (bP : Binds K fdP ["pen", "some"] []) (mP : mg "_law_pick" = some (.ref fP)) (OP : FnOk P w K mg base CX0 2 fP fdP ["pen", "some"] (spPick K))
    (m1 : ∀ b, MkC P w K mg base cl b "Moment" "moment" ["tick", "turns"]) (m2 : ∀ b, MkC P w K mg base cl b "Relations" "relations" ["rows"]) (m3 : ∀ b, MkC P w K mg base cl b "Hinders" "hinders" ["least", "greatest"]) :
    ∀ dp, dp ≤ 4 → FnOk P w K mg base CX0 (dp + 9) f fd ["pen", "deep"] (under (spSome cl) dp) := by
  have nd := scSome.nd
  intro dp
  induction dp with
  | zero => exact fun _ => ⟨fun _ _ _ _ ⟨_, e, _⟩ => (nomatch e), fun _ _ _ _ _ _ _ _ _ _ _ _ _ ⟨_, e, _⟩ => (nomatch e)⟩
  | succ dp ih =>
    intro hb
    have ih := ih (by omega)
    obtain ⟨f1, d1, k1, o1, b1, g1⟩ := m1 (dp - 1)
    obtain ⟨f2, d2, k2, o2, b2, g2⟩ := m2 (dp - 1)
    obtain ⟨f3, d3, k3, o3, b3, g3⟩ := m3 (dp - 1)
    refine F.ok scSome (fun vs H Q E h => ?_) (fun cdv A outer s H vs Q E hr h => ?_)
    · obtain ⟨_, _, _, _, _, _, rfl, _⟩ := h
      rfl
    · obtain ⟨dp', eb, p, c, cs, n, rfl, hp, hn, hd, k⟩ := h
      obtain rfl : dp = dp' := by omega
      have hr1 := hr.mono (show 1 ≤ dp + 9 by omega)
      have hr2 := hr.mono (show 2 ≤ dp + 9 by omega)
      have hrM := hr.mono (show dp - 1 + 4 + 1 ≤ dp + 9 by omega)
      refine ⟨_, pss_cons (ps_set (i := 2) nd rfl (.inl rfl) (pe_call OD hr1 rfl mD FD.kp bD .nil pass0 (pa_cons (pv 0) (pa_cons pe_int pa_nil))))
        (pss_cons (ps_if (PW.pt (pw_or (pt_cmpR op_lt (pv 2) pe_int (nomark _)) (pw_or1 (pt_cmpR op_eq (pv 1) pe_int (nomark _)))))
          (pss_one (ps_ret (pe_call OP hr2 rfl mP FP.kp bP .nil pass0 (pa_cons (pv 0) (pa_cons (pe_lst (pa_cons pe_int (pa_cons pe_int (pa_cons (pe_un un_neg pe_int) (pa_cons pe_non (pa_cons pe_bl (pa_cons pe_bl (pa_cons (pe_op op_pow pe_int pe_int) pa_nil)))))))) pa_nil))))) pss_nil)
        (pss_cons (ps_setLc (i := 3) (own := [("turn", 4)]) (g := gName 4) (tt := tYes) (by rfl) nd rfl rfl (sw_true rfl rfl rfl (by decide +kernel)) (pi_range1 (by rfl) (G.f "range" (by decide +kernel)) (pa_cons pe_int pa_nil)) (blkOk_by (N := ["pen", "deep", "way", "some", "turn"]) (sc := defScope sSome) (by decide +kernel)) (fun _ _ _ _ _ => pg_name (i := 4) nd rfl (Or.inl rfl)) (fun _ _ _ _ _ => pts_nil)
          (fun _ _ _ _ _ => pe_call ih hr rfl mF F.kp bF .nil pass0 (pa_cons (pv 0) (pa_cons (pe_op op_sub (pv 1) pe_int) pa_nil))))
        (pss_one (ps_ret (pe_ifExp (pt_cmpR op_eq (pv 2) pe_int (nomark _))
          (pe_call OP hr2 rfl mP FP.kp bP .nil pass0 (pa_cons (pv 0) (pa_cons (pe_lst (pa_cons (pe_make k1 o1 hrM rfl g1 b1 .nil pass0 (pa_cons (pe_ix ix_list (pv 3) pe_int (fun _ _ => rfl)) (pa_cons (pe_ix ix_list (pv 3) pe_int (fun _ _ => rfl)) pa_nil))) (pa_cons (pe_make k2 o2 hrM rfl g2 b2 .nil pass0 (pa_cons (pe_ix ix_list (pv 3) pe_int (fun _ _ => rfl)) pa_nil)) (pa_cons (pe_make k3 o3 hrM rfl g3 b3 .nil pass0 (pa_cons (pe_ix ix_list (pv 3) pe_int (fun _ _ => rfl)) (pa_cons (pe_ix ix_list (pv 3) pe_int (fun _ _ => rfl)) pa_nil))) pa_nil)))) pa_nil)))
          (pe_tupleOf (by rfl) (G.f "tuple" (by decide +kernel)) (pe_slice sl_list (pv 3) po_none (po_some (pe_call OD hr1 rfl mD FD.kp bD .nil pass0 (pa_cons (pv 0) (pa_cons pe_int pa_nil))))))))))), ?_⟩
      refine ⟨_, rfl, p, c, cs, n, 7, rfl, hp, by omega, by decide, by decide, fun r H1 r0 r7 o1' p1 => ?_⟩
      have c2 := cN_pos dp
      have leafEnd : ∀ q, H1 q = none → spPick K [.ref p, .ref q] (upd H1 q (.lst (leaves.map leafV))) Q E0 := fun q hq => by
        have s2 := same_new (o := .lst (leaves.map leafV)) (Same.refl H1) hq
        have hqp : q ≠ p := by
          obtain ⟨_, e⟩ := p1.lst
          exact Ne.symm (ne_of_none e hq)
        refine ⟨p, c, cs, n + 1, q, leaves.map leafV, rfl, p1.ext (ExtN.of s2), by omega, upd_same, by decide, by decide, hqp, fun i v H2 hv o2 p2 => ?_⟩
        rw [List.getElem?_map] at hv
        cases q1 : leaves[i]? with
        | none => rw [q1] at hv; cases hv
        | some d =>
          rw [q1] at hv
          cases hv
          have := leaf_ok dp d (List.mem_of_getElem? q1)
          exact k _ d H2 this.1 (this.2 cl H2) (o1'.trans ((Off.of s2).trans o2)) (p2.mono (by omega))
      refine ⟨_, rfl, _, _, rfl, rfl, _, rfl, ?_⟩
      by_cases c3 : r < 3
      · rw [decide_eq_true c3]
        exact iteT (iteT ⟨_, rfl, _, rfl, _, _, rfl, rfl, ⟨by decide, by decide, by decide +kernel⟩, (show 7 ≤ sizeLine by decide), fun q hq => leafEnd q hq⟩)
      rw [decide_eq_false c3]
      refine iteF ⟨_, rfl, rfl, _, rfl, ?_⟩
      by_cases c0 : dp = 0
      · subst c0
        rw [show decide (V.int ((0 : Nat) : Int) = V.int 0) = true from decide_eq_true rfl]
        exact iteT ⟨_, rfl, _, rfl, _, _, rfl, rfl, ⟨by decide, by decide, by decide +kernel⟩, (show 7 ≤ sizeLine by decide), fun q hq => leafEnd q hq⟩
      rw [show decide (V.int (dp : Int) = V.int 0) = false from decide_eq_false fun z => c0 (by have := V.int.inj z; omega)]
      obtain ⟨e, rfl⟩ : ∃ e, dp = e + 1 := ⟨dp - 1, by omega⟩
      have ce : cN (e + 1) = 2 * cN e + 2 := rfl
      have hcN : cN e ≤ 14 := by
        have : e ≤ 2 := by omega
        match e, this with
        | 0, _ => decide
        | 1, _ => decide
        | 2, _ => decide
      refine iteF ⟨2, rfl, by decide, by decide, fun D hD => lc_range (lo := 0) (n := 2) (fun i Hx => ∃ ds vs, Hx D = some (.lst vs) ∧ vs.length = i ∧ hasL cl Hx ds vs ∧ (∀ d ∈ ds, SomeOk e d) ∧ Off p H1 Hx ∧ PenAt Hx p c cs (n + 1 + i * cN e)) ⟨[], [], upd_same, rfl, rfl, by simp, Off.of (same_new (Same.refl H1) hD), (p1.ext (ExtN.of (same_new (Same.refl H1) hD))).mono (by omega)⟩ (fun i Hx hi hP => ?_) (fun Hx hP => ?_)⟩
      · obtain ⟨ds, vs, hD1, hn1, hds, hok, ox, px⟩ := hP
        have hDp : D ≠ p := by
          obtain ⟨_, e⟩ := p1.lst
          exact Ne.symm (ne_of_none e hD)
        have hi1 : i * cN e ≤ 1 * cN e := Nat.mul_le_mul_right _ (by omega)
        refine ⟨rfl, _, rfl, _, rfl, _, _, rfl, rfl, e, rfl, p, c, cs, n + 1 + i * cN e, congrArg (fun i => [V.ref p, V.int i]) (show ((e + 1 : Nat) : Int) - 1 = (e : Int) by omega), px, by omega, by omega, fun v d H4 sd hd4 o4 p4 => ?_⟩
        have hD4 := o4 _ _ hDp hD1
        obtain ⟨_, epl⟩ := px.lst
        refine ⟨vs, hD4, small1000 (by omega), ds ++ [d], vs ++ [v], upd_same, by rw [List.length_append, hn1]; rfl, ?_, ?_, ?_, ?_⟩
        · exact hasL_kept (kept_lst hD4) _ (hasL_append (hasL_kept (off_keptP o4 epl) _ hds) (hasL_one hd4))
        · intro x hx
          rcases List.mem_append.mp hx with hx | hx
          · exact hok x hx
          · rw [List.mem_singleton.mp hx]; exact sd
        · exact fun b o hb eb => by
            rw [upd_ne (fun z => by rw [z, hD] at eb; cases eb)]
            exact o4 _ _ hb (ox _ _ hb eb)
        · obtain ⟨kk, rr, a1, a2, a3, a4⟩ := p4
          refine ⟨kk, rr, by rw [Nat.succ_mul]; omega, by rw [upd_ne (Ne.symm hDp)]; exact a2, ?_, a4⟩
          rw [upd_ne]
          · exact a3
          · intro z
            obtain ⟨_, _, _, _, b3, _⟩ := p1
            rw [z, hD] at b3
            cases b3
      · obtain ⟨ds, vs, hD1, hn1, hds, hok, ox, px⟩ := hP
        have hDp : D ≠ p := by
          obtain ⟨_, e⟩ := p1.lst
          exact Ne.symm (ne_of_none e hD)
        refine ⟨_, rfl, rfl, _, rfl, ?_⟩
        have hdl := hasL_len hds
        by_cases c33 : r = 3
        · subst c33
          rw [show decide (V.int 3 = V.int 3) = true from decide_eq_true rfl]
          obtain ⟨x, y, rfl⟩ : ∃ x y, ds = [x, y] := by
            match ds, (hdl.symm.trans hn1) with
            | [x, y], _ => exact ⟨x, y, rfl⟩
          obtain ⟨u, v, rfl⟩ : ∃ u v, vs = [u, v] := by
            match vs, hn1 with
            | [u, v], _ => exact ⟨u, v, rfl⟩
          have sx := hok x (by simp)
          have sy := hok y (by simp)
          have t2 : toldL e [x, y] := by rw [toldL, toldL, toldL]; exact ⟨sx.told, sy.told, trivial⟩
          have w2 : wideL [x, y] := by rw [wideL, wideL, wideL]; exact ⟨sx.wide, sy.wide, trivial⟩
          have t1 : toldL e [x] := by rw [toldL, toldL]; exact ⟨sx.told, trivial⟩
          have w1 : wideL [x] := by rw [wideL, wideL]; exact ⟨sx.wide, trivial⟩
          have t3 : toldL e [y, x] := by rw [toldL, toldL, toldL]; exact ⟨sy.told, sx.told, trivial⟩
          have w3 : wideL [y, x] := by rw [wideL, wideL, wideL]; exact ⟨sy.wide, sx.wide, trivial⟩
          have h1 : hasL cl Hx [x] [u] := by
            obtain ⟨a, b, e1, h1, _⟩ := hds
            cases e1
            exact hasL_one h1
          have h3 : hasL cl Hx [y, x] [v, u] := by
            obtain ⟨a, b, e1, g1, a2, b2, e2, g2, _⟩ := hds
            cases e1
            cases e2
            exact ⟨v, [u], rfl, g2, hasL_one g1⟩
          refine iteT ⟨_, rfl, _, rfl, D, _, 0, u, rfl, rfl, SqL.of hD1, rfl, _, rfl, D, _, 1, v, rfl, rfl, SqL.of hD1, rfl, fun v1 dv1 nv1 nd1 ne1 => init_at nv1 nd1 ne1 hds rfl t2 w2 fun H5 s5 hv1 => ⟨_, rfl, D, _, 0, u, rfl, rfl, SqL.of (s5 _ _ hD1), rfl, fun v2 dv2 nv2 nd2 ne2 => init_at nv2 nd2 ne2 (hasL_kept (Kept.of s5) _ h1) rfl t1 w1 fun H6 s6 hv2 => ⟨_, rfl, D, _, 1, v, rfl, rfl, SqL.of (s6 _ _ (s5 _ _ hD1)), rfl, _, rfl, D, _, 0, u, rfl, rfl, SqL.of (s6 _ _ (s5 _ _ hD1)), rfl, fun v3 dv3 nv3 nd3 ne3 => init_at nv3 nd3 ne3 (hasL_kept (Kept.of s6) _ (hasL_kept (Kept.of s5) _ h3)) rfl t3 w3 fun H7 s7 hv3 => ⟨(show 3 ≤ sizeLine by decide), fun q hq => ?_⟩⟩⟩⟩
          have s8 := same_new (o := .lst [V.ref v1, .ref v2, .ref v3]) (Same.refl H7) hq
          have sall : Same Hx (upd H7 q (.lst [V.ref v1, .ref v2, .ref v3])) := s5.trans (s6.trans (s7.trans s8))
          have hqp : q ≠ p := by
            obtain ⟨_, e⟩ := px.lst
            exact Ne.symm (ne_of_none (s7 _ _ (s6 _ _ (s5 _ _ e))) hq)
          refine ⟨p, c, cs, n + 1 + 2 * cN e, q, [V.ref v1, .ref v2, .ref v3], rfl, px.ext (ExtN.of sall), by omega, upd_same, (show 0 < 3 by decide), (show 3 < 1000000 by decide), hqp, fun i v' H8 hv' o8 p8 => ?_⟩
          obtain ⟨_, epl⟩ := (px.ext (ExtN.of sall)).lst
          have k8 := off_keptP (cl := cl) o8 epl
          have oall : Off p H H8 := o1'.trans (ox.trans ((Off.of sall).trans o8))
          have pall := p8.mono (show n + 1 + 2 * cN e + 1 ≤ n + cN (e + 1) by omega)
          match i, hv' with
          | 0, hv' =>
            cases hv'
            exact k _ _ H8 (some_pap (w := ("moment" : Str)) (xs := [x, y]) (show many "moment" = some 2 by decide +kernel) (by decide +kernel) (fun z hz => hok z hz) (show 2 ≤ 2 by decide)) (Nr.D.has_kept k8 _ (Nr.D.has_kept (Kept.of (s6.trans (s7.trans s8))) _ hv1)) oall pall
          | 1, hv' =>
            cases hv'
            exact k _ _ H8 (some_pap (w := ("relations" : Str)) (xs := [x]) (show many "relations" = some 1 by decide +kernel) (by decide +kernel) (fun z hz => by rw [List.mem_singleton.mp hz]; exact sx) (show 1 ≤ 2 by decide)) (Nr.D.has_kept k8 _ (Nr.D.has_kept (Kept.of (s7.trans s8)) _ hv2)) oall pall
          | 2, hv' =>
            cases hv'
            exact k _ _ H8 (some_pap (w := ("hinders" : Str)) (xs := [y, x]) (show many "hinders" = some 2 by decide +kernel) (by decide +kernel) (fun z hz => hok z (by simp at hz ⊢; exact hz.symm)) (show 2 ≤ 2 by decide)) (Nr.D.has_kept k8 _ (Nr.D.has_kept (Kept.of s8) _ hv3)) oall pall
        · rw [show decide (V.int r = V.int 3) = false from decide_eq_false fun z => c33 (V.int.inj z)]
          refine iteF ⟨_, rfl, _, rfl, p, c, cs, n + 1 + 2 * cN e, 3, rfl, px, by omega, by decide, by decide, fun r2 H4 r20 r23 o4 p4 => ⟨_, rfl, D, vs, rfl, SqL.of (o4 _ _ hDp hD1), fun q hq => ?_⟩⟩
          obtain ⟨j, rfl⟩ : ∃ j : Nat, r2 = (j : Int) := ⟨r2.toNat, by omega⟩
          rw [cut_takeV]
          have s5 := same_new (o := .lst (vs.take j)) (Same.refl H4) hq
          refine .inl ⟨q, vs.take j, rfl, SqL.of upd_same, fun t ht => ?_⟩
          have s6 := same_new (o := .tup (vs.take j)) (Same.refl _) ht
          obtain ⟨_, epl⟩ := px.lst
          refine k _ (.tup (ds.take j)) _ (some_tup (fun x hx => hok x (List.mem_of_mem_take hx)) (by rw [List.length_take]; omega)) ⟨t, _, rfl, upd_same, ?_⟩ (o1'.trans (ox.trans (o4.trans (Off.of (s5.trans s6))))) ((p4.ext (ExtN.of (s5.trans s6))).mono (by omega))
          exact hasL_take j (hasL_kept (Kept.of (s5.trans s6)) _ (hasL_kept (off_keptP o4 epl) _ hds))
end
end Nr
end
set_option maxHeartbeats 8000000
section
/-! NrTexts: the texts that the law reads. -/
namespace Nr
open PySem PySem.Spec PyProof.Rows L2 LamX NdefX
def odd1 : List Str := ["(", ")", "[", "]", "none", "yes", "moment", "records", "True", "None", "=a", "rounds"]
def odd2 : List Str := ["(", ")", "[", "]", "no"]
def allW : List Str := baseW ++ (odd1 ++ (odd2 ++ fixW))
def goodB (x : Str) : Bool := !isIntW x || match intText? x with
  | some n => decide (numText n = x) && decide (n.natAbs < 10 ^ 40)
  | none => false
theorem goodB_ok {x : Str} (h : goodB x = true) : GoodW x := by
  intro hi
  unfold goodB at h
  rw [hi, Bool.not_true, Bool.false_or] at h
  cases e : intText? x with
  | none => rw [e] at h; cases h
  | some n =>
    rw [e] at h
    obtain ⟨h1, h2⟩ := Bool.and_eq_true_iff.mp h
    exact ⟨n, rfl, of_decide_eq_true h1, of_decide_eq_true h2⟩
def wB (x : Str) : Bool := decide (x.length ≤ 41) && (PyData.strOk x && (goodB x && (!x.cps.toList.contains 32 && !x.cps.toList.contains 10)))
theorem allW_B : allW.all wB = true := by decide +kernel
structure WGood (x : Str) : Prop where
  len : x.length ≤ 41
  ok : PyData.strOk x = true
  good : GoodW x
  c32 : 32 ∉ x.cps.toList
  c10 : 10 ∉ x.cps.toList
theorem wB_ok {x : Str} (h : wB x = true) : WGood x := by
  unfold wB at h
  obtain ⟨h1, h⟩ := Bool.and_eq_true_iff.mp h
  obtain ⟨h2, h⟩ := Bool.and_eq_true_iff.mp h
  obtain ⟨h3, h⟩ := Bool.and_eq_true_iff.mp h
  obtain ⟨h4, h5⟩ := Bool.and_eq_true_iff.mp h
  refine ⟨of_decide_eq_true h1, h2, goodB_ok h3, fun z => ?_, fun z => ?_⟩
  · rw [List.contains_iff_mem.mpr z] at h4; cases h4
  · rw [List.contains_iff_mem.mpr z] at h5; cases h5
theorem allW_good {x : Str} (h : x ∈ allW) : WGood x := wB_ok (List.all_eq_true.mp allW_B x h)
/-- a text that the law gives to the reading -/
structure ZOk (z : Str) : Prop where
  len : z.length ≤ 10000
  lines : ∀ x ∈ Txt.split z "\n", x.length ≤ 10000
  line : ∃ l r, Txt.split z "\n" = l :: r ∧ WsOk (Txt.split l " ")
theorem wsok_all {ws : List Str} (h : ∀ x ∈ ws, x ∈ allW) (hl : ws.length ≤ 1000) : WsOk ws := ⟨hl, fun x hx => Nat.le_trans (allW_good (h x hx)).len (by decide), fun x hx => (allW_good (h x hx)).good⟩
theorem blank_is : (" " : Str) = ⟨#[32]⟩ := by decide +kernel
theorem feed_is : ("\n" : Str) = ⟨#[10]⟩ := by decide +kernel
theorem join_len (c : Nat) : ∀ ws : List Str, (∀ x ∈ ws, x.length ≤ 41) → (Str.join ⟨#[c]⟩ ws).length ≤ ws.length * 42
  | [], _ => by show (Str.empty).length ≤ _; simp [Str.empty]; rfl
  | [x], h => by
    have := h x List.mem_cons_self
    show x.length ≤ _
    simp
    omega
  | x :: y :: r, h => by
    have ih := join_len c (y :: r) fun z hz => h z (List.mem_cons_of_mem _ hz)
    have hx := h x List.mem_cons_self
    have e : (Str.join ⟨#[c]⟩ (x :: y :: r)).length = x.length + ((Str.join ⟨#[c]⟩ (y :: r)).length + 1) := by
      have h1 : ∀ s : Str, s.length = s.cps.toList.length := fun s => Array.length_toList.symm
      rw [h1, join_cons, List.length_append, List.length_cons, h1, h1]
    rw [e, List.length_cons]
    rw [Nat.succ_mul]
    omega
/-- words joined, read: as their reading goes -/
theorem joined_lines {ws : List Str} (hn : ws ≠ []) (h : ∀ x ∈ ws, x ∈ allW) : Txt.split (Txt.join " " ws) "\n" = [Txt.join " " ws] ∧ Txt.split (Txt.join " " ws) " " = ws := by
  have ej : Txt.join " " ws = Str.join ⟨#[32]⟩ ws := by rw [TL.join_eq, blank_is]
  rw [ej, blank_is, feed_is]
  refine ⟨?_, split_join 32 hn fun x hx => (allW_good (h x hx)).c32⟩
  have := split_join 10 (ws := [Str.join ⟨#[32]⟩ ws]) (by simp) fun x hx => by
    rw [List.mem_singleton.mp hx]
    exact join_free (by decide) fun y hy => (allW_good (h y hy)).c10
  exact this
theorem joined_ok {ws : List Str} (hn : ws ≠ []) (h : ∀ x ∈ ws, x ∈ allW) (hl : ws.length ≤ 200) : ZOk (Txt.join " " ws) := by
  obtain ⟨h1, h2⟩ := joined_lines hn h
  have hlen : (Txt.join " " ws).length ≤ 10000 := by
    rw [TL.join_eq, blank_is]
    exact Nat.le_trans (join_len 32 ws fun x hx => (allW_good (h x hx)).len) (by omega)
  refine ⟨hlen, fun x hx => ?_, _, _, h1, by rw [h2]; exact wsok_all h (by omega)⟩
  rw [h1] at hx
  rw [List.mem_singleton.mp hx]
  exact hlen
theorem joined_read {ws : List Str} (hn : ws ≠ []) (h : ∀ x ∈ ws, x ∈ allW) : readAll (Txt.join " " ws) = match readL ws with
    | .bad e => .inl (0, e)
    | .ok p _ => .inr p := by
  obtain ⟨h1, h2⟩ := joined_lines hn h
  unfold readAll
  rw [h1]
  dsimp only
  rw [h2]
  cases readL ws with
  | bad e => rfl
  | ok p a => exact if_pos rfl
def zB (z : Str) : Bool := decide (z.length ≤ 10000) && ((Txt.split z "\n").all (fun x => decide (x.length ≤ 10000)) && match Txt.split z "\n" with
  | [] => false
  | l :: _ => decide ((Txt.split l " ").length ≤ 1000) && (Txt.split l " ").all wB)
theorem zB_ok {z : Str} (h : zB z = true) : ZOk z := by
  unfold zB at h
  obtain ⟨h1, h⟩ := Bool.and_eq_true_iff.mp h
  obtain ⟨h2, h⟩ := Bool.and_eq_true_iff.mp h
  refine ⟨of_decide_eq_true h1, fun x hx => of_decide_eq_true (List.all_eq_true.mp h2 x hx), ?_⟩
  cases e : Txt.split z "\n" with
  | nil => rw [e] at h; cases h
  | cons l r =>
    rw [e] at h
    obtain ⟨h3, h4⟩ := Bool.and_eq_true_iff.mp h
    exact ⟨l, r, rfl, of_decide_eq_true h3, fun x hx => Nat.le_trans (wB_ok (List.all_eq_true.mp h4 x hx)).len (by decide), fun x hx => (wB_ok (List.all_eq_true.mp h4 x hx)).good⟩
/-- how a text's reading ends: refused there, or read -/
def endB (z : Str) : Option (Nat × Nat) := match readAll z with
  | .inl p => some p
  | .inr _ => none
def deepA (n : Nat) : List Str := (([("relations" : Str)] ++ (List.replicate n [("(" : Str)]).flatten ++ ([] : List Str)) ++ (List.replicate n [(")" : Str)]).flatten)
def deepB (n : Nat) : List Str := (([("relations" : Str)] ++ (List.replicate n [("[ relations" : Str)]).flatten ++ [("0" : Str)]) ++ (List.replicate n [("]" : Str)]).flatten)
def wordsB (n : Nat) : List Str := ("relations" : Str) :: ((List.replicate n [("[" : Str), "relations"]).flatten ++ (("0" : Str) :: List.replicate n ("]" : Str)))
def endL (ws : List Str) : Option (Nat × Nat) := match readL ws with
  | .bad e => some (0, e)
  | .ok _ _ => none
theorem joined_end {ws : List Str} (hn : ws ≠ []) (h : ∀ x ∈ ws, x ∈ allW) : endB (Txt.join " " ws) = endL ws := by
  unfold endB endL
  rw [joined_read hn h]
  cases readL ws <;> rfl
def smallW : List Str := ["relations", "(", ")", "[", "]", "0"]
theorem small_all : ∀ x ∈ smallW, x ∈ allW := by decide +kernel
theorem small_of {ws : List Str} (h : ws.all (fun x => decide (x ∈ smallW)) = true) : ∀ x ∈ ws, x ∈ allW := fun x hx => small_all x (of_decide_eq_true (List.all_eq_true.mp h x hx))
theorem zz_of {ws : List Str} (hn : ws ≠ []) (h : ws.all (fun x => decide (x ∈ smallW)) = true) (hl : ws.length ≤ 200) {r : Option (Nat × Nat)} (he : endL ws = r) : ZOk (Txt.join " " ws) ∧ endB (Txt.join " " ws) = r :=
  ⟨joined_ok hn (small_of h) hl, by rw [joined_end hn (small_of h), he]⟩
theorem zA30 : ZOk (Txt.join " " (deepA 30)) ∧ endB (Txt.join " " (deepA 30)) = none := zz_of (by decide +kernel) (by decide +kernel) (by decide +kernel) (by decide +kernel)
theorem zA31 : ZOk (Txt.join " " (deepA 31)) ∧ endB (Txt.join " " (deepA 31)) = some (0, 31) := zz_of (by decide +kernel) (by decide +kernel) (by decide +kernel) (by decide +kernel)
theorem join_of {xs ys : List Str} (h : TL.joinL (TL.tl " ") (xs.map TL.tl) = TL.joinL (TL.tl " ") (ys.map TL.tl)) : Txt.join " " xs = Txt.join " " ys := by
  rw [TL.join_eq, TL.join_eq]
  refine str_of ?_
  have h1 := TL.tl_join " " xs
  have h2 := TL.tl_join " " ys
  exact (h1.trans h).trans h2.symm
theorem eB30 : Txt.join " " (deepB 30) = Txt.join " " (wordsB 30) := join_of (by decide +kernel)
theorem eB31 : Txt.join " " (deepB 31) = Txt.join " " (wordsB 31) := join_of (by decide +kernel)
theorem zB30 : ZOk (Txt.join " " (deepB 30)) ∧ endB (Txt.join " " (deepB 30)) = none := by
  rw [eB30]
  exact zz_of (by decide +kernel) (by decide +kernel) (by decide +kernel) (by decide +kernel)
theorem zB31 : ZOk (Txt.join " " (deepB 31)) ∧ endB (Txt.join " " (deepB 31)) = some (0, 61) := by
  rw [eB31]
  exact zz_of (by decide +kernel) (by decide +kernel) (by decide +kernel) (by decide +kernel)
theorem z0 : zB "" = true ∧ endB "" = some (0, 0) := by decide +kernel
theorem z1 : zB "relations 0\nrelations 0" = true ∧ endB "relations 0\nrelations 0" = some (1, 0) := by decide +kernel
theorem z2 : zB "relations 0\n" = true ∧ endB "relations 0\n" = some (1, 0) := by decide +kernel
theorem z3 : zB "relations" = true ∧ endB "relations" = some (0, 1) := by decide +kernel
theorem z4 : zB "relations 0 1\n0" = true ∧ endB "relations 0 1\n0" = some (0, 2) := by decide +kernel
theorem end_bad {z : Str} {p : Nat × Nat} (h : endB z = some p) : readAll z = .inl p := by
  unfold endB at h
  cases e : readAll z with
  | inl q => rw [e] at h; rw [Option.some.inj h]
  | inr q => rw [e] at h; cases h
theorem end_ok {z : Str} (h : endB z = none) : ∃ p, readAll z = .inr p := by
  unfold endB at h
  cases e : readAll z with
  | inl q => rw [e] at h; cases h
  | inr q => exact ⟨q, rfl⟩
end Nr
end
set_option maxHeartbeats 8000000
section
/-! NrLap: one lap of the law: words bent, read, held against the own reading. -/
namespace Nr
open PySem PySem.Spec PyProof.Rows L2 LamX NdefX
def forBody : Stmt → List Stmt
  | .For _ _ b _ _ => b
  | _ => []
abbrev lawN : List Str := ["script", "pen", "turn", "one", "other", "paper", "words", "lap", "bent", "wrong", "heard", "many", "open_word", "close_word", "middle", "line", "due", "none"]
abbrev turnB : List Stmt := forBody ((defBody sLaw).getD 1 (.Pass ⟨0, 0, 0, 0⟩))
abbrev lapB : List Stmt := forBody (turnB.getD 4 (.Pass ⟨0, 0, 0, 0⟩))
/-- a def of the module with its promise -/
def Df (P : Program) (w : World) (K : PySem.W.Frag) (mg : Str → Option Value) (base : Heap) (CX : CXT) (x : Str) (st : Stmt) (k : Nat) (ps : List Str) (sp : Sp) : Prop :=
  ∃ (f : Addr) (fd : FuncData), Fun K x x st f fd ∧ FnOk P w K mg base CX k f fd ps sp ∧ Binds K fd ps [] ∧ mg x = some (.ref f)
/-- what the law leans on -/
structure LawF (P : Program) (w : World) (K : PySem.W.Frag) (mg : Str → Option Value) (base : Heap) (cl : Str → Addr) (CB : Addr) (T : List (Addr × Str)) (Pl cL : Addr) : Prop where
  G : GF mg
  pen : Df P w K mg base CX0 "_law_pen" sPen 1 ["script"] (spPen K)
  draw : Df P w K mg base CX0 "_law_draw" sDraw 1 ["pen", "many"] spDraw
  pick : Df P w K mg base CX0 "_law_pick" sPick 2 ["pen", "some"] (spPick K)
  bent : Df P w K mg base CX0 "_law_tx_bent" sBent 3 ["pen", "words", "odd"] spBent
  lpap : Df P w K mg base CX0 "_law_tx_paper" sLPap 64 ["paper"] (under (spWordsP cl) 31)
  wrong : Df P w K mg base CX0 "_law_tx_wrong_paper" sWrong 4 ["words"] spWrong
  some_ : Df P w K mg base CX0 "_law_tx_some" sSome 13 ["pen", "deep"] (under (spSome cl) 4)
  some2 : Df P w K mg base CX0 "_law_tx_some" sSome 12 ["pen", "deep"] (under (spSome cl) 3)
  read : Df P w K mg base (L2.CX P w) "read_paper" sRead 112 ["text"] (spRead CB cl T K)
  ptext : Df P w K mg base CX0 "paper_text" sPText 65 ["paper"] (spPText cl)
  heard : ∃ (f : Addr) (fd : FuncData), Fun K "_law_heard" "_law_heard" sHeard f fd ∧ Binds K fd ["ask"] [] ∧ mg "_law_heard" = some (.ref f)
  hc : HeardC K mg CB
  err : ∃ fI fdI, ErrI P K mg CB fI fdI
  m1 : MkC P w K mg base cl 3 "Moment" "moment" ["tick", "turns"]
  m2 : MkC P w K mg base cl 3 "Rounds" "rounds" ["period", "ticks"]
  m3 : MkC P w K mg base cl 3 "Records" "records" ["rows"]
  m4 : MkC P w K mg base cl 3 "Nearness" "nearness" ["factor", "point", "rows", "tree"]
  m5 : MkC P w K mg base cl 3 "Never" "never" ["rows", "tree"]
  m6 : MkC P w K mg base cl 3 "Classes" "classes" ["number", "rows", "entries"]
  tb : TabB base mg cL Pl
  inT : (Pl, ("law.<locals>.<lambda>" : Str)) ∈ T
  only : ∀ p ∈ T, p.1 = Pl → p.2 = ("law.<locals>.<lambda>" : Str)
theorem spRead_of {CB : Addr} {cl : Str → Addr} {T : List (Addr × Str)} {K : PySem.W.Frag} {z : Str} {H0 : Hp} {Q2 : VK} {E2 : XK} (hz : ZOk z) (ht : Tabs T H0)
    (hb : ∀ n k d H', readAll z = .inl (n, k) → ExtN H0 H' → Tabs T H' → H' d = some (.xd (btF n k)) → E2 (.ref CB) (some d) H') (hr : ∀ p v H', readAll z = .inr p → ExtN H0 H' → Tabs T H' → p.has cl H' v → Q2 v H') : spRead CB cl T K [.str z] H0 Q2 E2 :=
  ⟨.str z, rfl, ht, .inl ⟨z, rfl, hz.len, hz.lines, hz.line, fun n k e d H' x t hd => hb n k d H' e x t hd, fun p e v H' x t hv => hr p v H' e x t hv⟩⟩
theorem heard_of {CB : Addr} {cl : Str → Addr} {T : List (Addr × Str)} {K : PySem.W.Frag} {z : Str} {tl : XK → Hp → VK → Prop} {H1 : Hp} {Q : VK} (hz : ZOk z) (ht : Tabs T H1)
    (htl : ∀ E2 Q2 H0, Same H1 H0 → spRead CB cl T K [.str z] H0 Q2 E2 → tl E2 H0 Q2)
    (kb : ∀ n k : Nat, readAll z = .inl (n, k) → ∀ r H'', ExtN H1 H'' → Tabs T H'' → H'' r = some (.tup [.str "text", .int n, .int k]) → Q (.ref r) H'')
    (kr : ∀ p, readAll z = .inr p → ∀ l v H'', ExtN H1 H'' → Tabs T H'' → H'' l = some (.lst [v]) → p.has cl H'' v → Q (.ref l) H'') : THeard CB tl H1 Q := by
  refine ⟨fun n k H' => readAll z = .inl (n, k) ∧ ExtN H1 H' ∧ Tabs T H', fun v H' => ∃ p, readAll z = .inr p ∧ ExtN H1 H' ∧ Tabs T H' ∧ p.has cl H' v, fun E2 Q2 H0 s0 hb hr => htl E2 Q2 H0 s0 ?_, fun n k H' H'' r hB s2 hr => ?_, fun v H' H'' l hR s2 hl => ?_⟩
  · refine spRead_of hz (ht.ext s0) (fun n k d H' e x t hd => hb n k d H' ⟨e, (ExtN.of s0).trans x, t⟩ hd) (fun p v H' e x t hv => hr v H' ⟨p, e, (ExtN.of s0).trans x, t, hv⟩)
  · obtain ⟨e, x, t⟩ := hB
    exact kb n k e r H'' (x.trans (ExtN.of s2)) (t.ext s2) hr
  · obtain ⟨p, e, x, t, hv⟩ := hR
    exact kr p e l v H'' (x.trans (ExtN.of s2)) (t.ext s2) hl (D.has_kept (Kept.of s2) p hv)
/-- nothing that is a text -/
theorem heard_none {CB : Addr} {cl : Str → Addr} {T : List (Addr × Str)} {K : PySem.W.Frag} {v : V} {ty : Value} {tl : XK → Hp → VK → Prop} {H1 : Hp} {Q : VK} (hty : ∀ H0, Same H1 H0 → TyOf K H0 v ty) (kt : PySem.W.kitOne K ty (.type "str") = some false) (ht : Tabs T H1)
    (htl : ∀ E2 Q2 H0, Same H1 H0 → spRead CB cl T K [v] H0 Q2 E2 → tl E2 H0 Q2)
    (kb : ∀ r H'', ExtN H1 H'' → Tabs T H'' → H'' r = some (.tup [.str "text", .int 0, .int 0]) → Q (.ref r) H'') : THeard CB tl H1 Q := by
  refine ⟨fun n k H' => n = 0 ∧ k = 0 ∧ ExtN H1 H' ∧ Tabs T H', fun v H' => False, fun E2 Q2 H0 s0 hb hr => htl E2 Q2 H0 s0 ?_, fun n k H' H'' r hB s2 hr => ?_, fun v H' H'' l hR s2 hl => hR.elim⟩
  · exact ⟨v, rfl, ht.ext s0, .inr ⟨ty, hty H0 s0, kt, fun d H' x t hd => hb 0 0 d H' ⟨rfl, rfl, (ExtN.of s0).trans x, t⟩ hd⟩⟩
  · obtain ⟨rfl, rfl, x, t⟩ := hB
    exact kb r H'' (x.trans (ExtN.of s2)) (t.ext s2) hr
theorem scLaw : FnScope lawN ["script"] (defScope sLaw) := ⟨rfl, rfl, rfl, by decide +kernel, rfl, by decide +kernel, by decide +kernel⟩
abbrev lawX (P : Program) (w : World) (K : PySem.W.Frag) (mg : Str → Option Value) (base : Heap) (f cL : Addr) (A : Around) (outer : List Env) (s : Shared) (H : Hp) (E : XK) : Cx := (cxOf CX0 P w K mg base lawN "law" (defScope sLaw) f (.ref cL) A outer s H E).nox
/-- read_paper(' '.join(bent)) -/
def tJoinB (CB : Addr) (cl : Str → Addr) (T : List (Addr × Str)) (K : PySem.W.Frag) : XK → TE := fun E => tCall (spRead CB cl T K) [] E (tCons (tM1 (fun x xs H Q => ∃ a p, ∃ ys : List Str, x = .str a ∧ xs = [.ref p] ∧ (SqL K H p (ys.map V.str) ∨ SqT K H p (ys.map V.str)) ∧ (ys.map (·.length)).sum + ys.length * a.length ≤ 16777216 ∧ Q (.str (Txt.join a ys)) H) (tC (.str " ")) (tVar 8)) tNil)
theorem tabs_offP {T : List (Addr × Str)} {H H' : Hp} {p : Addr} {vs : List V} (t : Tabs T H) (hp : H p = some (.lst vs)) (o : Off p H H') : Tabs T H' := fun q hq => by
  obtain ⟨ps, h1, h2, h3⟩ := t q hq
  refine ⟨ps, o _ _ (fun z => by rw [z, hp] at h1; cases h1) h1, h2, fun pos cv hc => ?_⟩
  obtain ⟨c, e, hcc⟩ := h3 pos cv hc
  refine ⟨c, e, o _ _ (fun z => ?_) hcc⟩
  rw [z, hp] at hcc
  have := Option.some.inj hcc
  have z' : HO.lst _ = HO.ext _ := this
  cases z'
theorem OffN.ofP {p : Addr} {H H' : Hp} (o : Off p H H') : OffN p H H' := fun b u hb e _ => o b u hb e
theorem PenAt.offN {H H' : Hp} {p c : Addr} {cs : List Int} {n : Nat} (h : PenAt H p c cs n) (s : ExtN H H') : PenAt H' p c cs n := h.ext s
theorem dp3 {K : PySem.W.Frag} {H : Hp} {a : Addr} {n k : Int} (h : H a = some (.tup [.str "text", .int n, .int k])) : Dp K H (.ref a) (.tuple [.str "text", .int n, .int k]) :=
  .tup (SqT.of h) (.cons (.str _) (.cons (.int _) (.cons (.int _) .nil)))
theorem shaped3 (n k : Int) : SeqAt.shaped (.tuple [.str "text", .int n, .int k]) = true := by
  unfold SeqAt.shaped
  have h : PyData.strOk ("text" : Str) = true := by decide +kernel
  simp only [PyData.canLay0, PyData.canLayAll0, PyData.depth, PyData.depthAll, h]
  rfl
theorem eqv3 (n k : Int) : PyData.eqv (.tuple [.str "text", .int n, .int k]) (.tuple [.str "text", .int n, .int k]) = true := by
  simp [PyData.eqv, PyData.eqvAll]
theorem size_join {ws : List Str} (h : ∀ x ∈ ws, x ∈ allW) (hl : ws.length ≤ 200) : (ws.map (·.length)).sum + ws.length * (" " : Str).length ≤ 16777216 := by
  have h1 := sum_le 41 ws fun x hx => (allW_good (h x hx)).len
  have h2 : (" " : Str).length = 1 := by decide +kernel
  rw [h2]
  have h3 : ws.length * 41 ≤ 200 * 41 := Nat.mul_le_mul_right _ hl
  omega
section
variable {P : Program} {w : World} {K : PySem.W.Frag} {mg : Str → Option Value} {base : Heap} {cl : Str → Addr} {CB Pl cL : Addr} {T : List (Addr × Str)}
theorem lap_ok (F : LawF P w K mg base cl CB T Pl cL) (f : Addr) (A : Around) (outer : List Env) (s : Shared) (H0 : Hp) (E : XK) (hr : Room 115 (A.deeper (envOfC "law" (defScope sLaw) s.heap.objs.size f (.ref cL)))) :
    ∃ t, PSs (lawX P w K mg base f cL A outer s H0 E) lapB t ∧ ∀ (D : Ends) (H : Hp) (p c wl : Addr) (cs : List Int) (n : Nat) (ws : List Str) (x0 x2 x3 x4 x5 x7 x8 x9 x10 x11 x12 x13 x14 x15 x16 x17 : Option V),
      PenAt H p c cs n → n ≤ 80000 → H wl = some (.lst (ws.map V.str)) → wl ≠ p → ws ≠ [] → ws.length ≤ 150 → (∀ x ∈ ws, x ∈ allW) → Tabs T H →
      (∀ H' y8 y9 y10, OffN p H H' → PenAt H' p c cs (n + 7) → Tabs T H' → D.nx [x0, some (.ref p), x2, x3, x4, x5, some (.ref wl), x7, y8, y9, y10, x11, x12, x13, x14, x15, x16, x17] H') →
      t D [x0, some (.ref p), x2, x3, x4, x5, some (.ref wl), x7, x8, x9, x10, x11, x12, x13, x14, x15, x16, x17] H := by
  have nd := scLaw.nd
  have G := F.G
  obtain ⟨fB, dB, FB, OB, bB, mB⟩ := F.bent
  obtain ⟨fD, dD, FD, OD, bD, mD⟩ := F.draw
  obtain ⟨fW, dW, FW, OW, bW, mW⟩ := F.wrong
  obtain ⟨fR, dR, FR, OR, bR, mR⟩ := F.read
  obtain ⟨fT, dT, FT, OT, bT, mT⟩ := F.ptext
  obtain ⟨fH, dH, FH, bH, mH⟩ := F.heard
  obtain ⟨fI, dI, I⟩ := F.err
  have hkH := FH.kp
  obtain ⟨oc, od, kV, doc, pm, an, cdv, ct, osl, rfl, lkH, hcH⟩ := FH.ex
  refine ⟨_, pss_cons (ps_set (i := 8) nd rfl (.inr rfl) (pe_call OB (hr.mono (by decide)) rfl mB FB.kp bB .nil pass0 (pa_cons (pv 1) (pa_cons (pv 6) (pa_cons (pe_lst (pa_cons pe_str (pa_cons pe_str (pa_cons pe_str (pa_cons pe_str (pa_cons pe_str (pa_cons pe_str (pa_cons pe_str (pa_cons pe_str (pa_cons pe_str (pa_cons pe_str (pa_cons pe_str (pa_cons pe_str pa_nil))))))))))))) pa_nil)))))
    (pss_cons (ps_set (i := 8) nd rfl (.inr rfl) (pe_ifExp (pt_cmpR op_eq (pe_call OD (hr.mono (by decide)) rfl mD FD.kp bD .nil pass0 (pa_cons (pv 1) (pa_cons pe_int pa_nil))) pe_int (nomark _))
      (pe_call OB (hr.mono (by decide)) rfl mB FB.kp bB .nil pass0 (pa_cons (pv 1) (pa_cons (pv 8) (pa_cons (pe_lst (pa_cons pe_str (pa_cons pe_str (pa_cons pe_str (pa_cons pe_str (pa_cons pe_str pa_nil)))))) pa_nil)))) (pv 8)))
    (pss_cons (ps_par (i := 9) (j := 10) (by rfl) nd rfl rfl (by decide) rfl rfl (pa_cons (pe_call OW (hr.mono (by decide)) rfl mW FW.kp bW .nil pass0 (pa_cons (pv 8) pa_nil)) (pa_cons
      (pe_lamcall (T := T) (TT := THeard CB) (k := 112) (t := tJoinB CB cl T K) (by rfl) mH hkH lkH hcH bH scHeard rfl (.inl rfl) (heard_gives F.hc I G) F.tb rfl F.inT F.only (hr.mono (by decide)) (show LamS (defScope sLaw) _ from lamS_by (by decide +kernel)) rfl (fun _ _ _ _ _ => rfl)
        (fun A outer s H E f c' hr2 => pe_call OR hr2 rfl mR FR.kp bR .nil (passes_call (takes_of rfl rfl rfl rfl) (fun _ _ _ _ h => h)) (pa_cons (pe_join pe_str (pv 8)) pa_nil))) pa_nil)) (by rfl))
    (pss_one (ps_if (PW.pt (pw_or (PW.pt (pw_and (pt_cmpR op_notN (pv 9) pe_non (nomark _)) (pw_and1 (pt_cmpR (op_neD hr.units) (pv 10) (pe_tup (pa_cons pe_str (pa_cons pe_int (pa_cons (pv 9) pa_nil)))) (nomark _)))))
        (pw_or1 (PW.pt (pw_and (pt_cmpR op_isN (pv 9) pe_non (nomark _)) (pw_and1 (PW.pt (pw_or (pt_not (pt_val (pe_callB call_isi (by rfl) (G.f "isinstance" (by decide +kernel)) PyProof.Rows.boot_isinstance (pa_cons (pv 10) (pa_cons (pe_bltn (v := .ty "list") (u := .type "list") (by rfl) (G.f "list" (by decide +kernel)) (by decide +kernel) rfl) pa_nil)))))
          (pw_or1 (pt_cmpR op_ne (pe_call OT (hr.mono (by decide)) rfl mT FT.kp bT .nil pass0 (pa_cons (pe_ix ix_list (pv 10) pe_int (fun _ _ => rfl)) pa_nil)) (pe_join pe_str (pv 8)) (nomark _))))))))))) (pss_one (ps_ret pe_bl)) pss_nil)))), ?_⟩
  intro D H p c wl cs n ws x0 x2 x3 x4 x5 x7 x8 x9 x10 x11 x12 x13 x14 x15 x16 x17 hp hn hw hwp hne hlen hall ht knx
  have pl := hp.lst
  obtain ⟨pvs, hpl⟩ := pl
  refine ⟨_, rfl, _, rfl, (show 12 ≤ sizeLine by decide), fun q hq => ?_⟩
  have sq := same_new (o := .lst (odd1.map V.str)) (Same.refl H) hq
  have hqp : q ≠ p := Ne.symm (ne_of_none hpl hq)
  refine ⟨p, c, cs, n, wl, q, ws, odd1, rfl, hp.ext (ExtN.of sq), by omega, sq _ _ hw, upd_same, hne, by omega, by decide, hwp, hqp, fun l ws1 H1 o1 p1 nl hl ne1 len1 mem1 => ?_⟩
  have hlp : l ≠ p := Ne.symm (ne_of_none (sq _ _ hpl) nl)
  refine ⟨_, rfl, p, c, cs, n + 3, 3, rfl, p1, by omega, by decide, by decide, fun r H2 r0 r3 o2 p2 => ⟨rfl, _, rfl, ?_⟩⟩
  have oall2 : Off p H H2 := (Off.of sq).trans (o1.trans o2)
  have mem1' : ∀ x ∈ ws1, x ∈ allW := fun x hx => by
    rcases mem1 x hx with z | z | z
    · exact hall x z
    · exact List.mem_append_right _ (List.mem_append_left _ z)
    · exact List.mem_append_right _ (List.mem_append_right _ (List.mem_append_right _ z))
  have hl_2 := o2 _ _ hlp hl
  by_cases c0 : r = 0
  · rw [show decide (V.int r = V.int 0) = true from decide_eq_true (by rw [c0])]
    refine iteT ⟨_, rfl, _, rfl, (show 5 ≤ sizeLine by decide), fun q2 hq2 => ?_⟩
    have sq2 := same_new (o := .lst (odd2.map V.str)) (Same.refl H2) hq2
    obtain ⟨_, hpl2⟩ := p2.lst
    have hqp2 : q2 ≠ p := Ne.symm (ne_of_none hpl2 hq2)
    refine ⟨p, c, cs, n + 4, l, q2, ws1, odd2, rfl, p2.ext (ExtN.of sq2), by omega, sq2 _ _ hl_2, upd_same, ne1, by omega, by decide, hlp, hqp2, fun l2 ws2 H3 o3' p3 nl2 hl2 ne2 len2' mem2' => ?_⟩
    have o3P : Off p H H3 := oall2.trans ((Off.of sq2).trans o3')
    have o3 : OffN p H H3 := OffN.ofP o3P
    have t3 : Tabs T H3 := tabs_offP ht hpl o3P
    have len2 : ws2.length ≤ 200 := by omega
    have mem2 : ∀ x ∈ ws2, x ∈ allW := fun x hx => by
      rcases mem2' x hx with z | z | z
      · exact mem1' x z
      · exact List.mem_append_right _ (List.mem_append_right _ (List.mem_append_left _ z))
      · exact List.mem_append_right _ (List.mem_append_right _ (List.mem_append_right _ z))
    have hz := joined_ok ne2 mem2 len2
    have eA := joined_read ne2 mem2
    have eW := wrongW_eq ws2
    refine ⟨_, rfl, l2, ws2, rfl, hl2, ⟨ne2, by omega, fun x hx => ⟨Nat.le_trans (allW_good (mem2 x hx)).len (by decide), (allW_good (mem2 x hx)).ok⟩⟩, fun H4 s4 => ⟨t3.ext s4, fun H5 x5 t5 => ?_⟩⟩
    have x35 : ExtN H3 H5 := (ExtN.of s4).trans x5
    have hl5 : H5 l2 = some (.lst (ws2.map V.str)) := x35 _ _ hl2 (fun _ z => nomatch z)
    refine heard_of (cl := cl) (K := K) hz t5 (fun E2 Q2 H6 s6 hsp => ⟨⟨_, rfl⟩, _, rfl, " ", l2, ws2, rfl, rfl, .inl (SqL.of (s6 _ _ hl5)), size_join mem2 len2, hsp⟩) (fun n' k' er r H7 x7 t7 hr7 => ?_) (fun pD er l3 v H7 x7 t7 hl3 hv => ?_)
    · cases eL : readL ws2 with
      | ok pD a => rw [eL] at eA; rw [eA] at er; cases er
      | bad e =>
        rw [eL] at eA eW
        dsimp only at eA eW
        rw [eA] at er
        cases er
        have hwv : wrongV ws2 = .int (k' : Int) := by unfold wrongV; rw [eW]
        rw [hwv]
        have x37 := x35.trans x7
        refine ⟨_, _, rfl, _, rfl, rfl, true, rfl, iteT ⟨_, rfl, _, rfl, (show 3 ≤ sizeLine by decide), fun q3 hq3 => ?_⟩⟩
        have s8 := same_new (o := .tup [.str "text", .int 0, .int (k' : Int)]) (Same.refl H7) hq3
        refine ⟨_, _, dp3 (n := 0) (k := (k' : Int)) (s8 _ _ hr7), dp3 (n := 0) (k := (k' : Int)) upd_same, shaped3 0 _, shaped3 0 _, false, congrArg V.bl (by rw [eqv3]; rfl), iteF ⟨_, rfl, rfl, false, rfl, iteF (iteF ?_)⟩⟩
        exact knx _ _ _ _ (o3.trans (OffN.ofX (x37.trans (ExtN.of s8)))) (p3.ext (x37.trans (ExtN.of s8))) (t7.ext s8)
    · cases eL : readL ws2 with
      | bad e => rw [eL] at eA; rw [eA] at er; cases er
      | ok pD' a =>
        rw [eL] at eA eW
        dsimp only at eA eW
        rw [eA] at er
        cases er
        have hwv : wrongV ws2 = .non := by unfold wrongV; rw [eW]
        rw [hwv]
        have x37 := x35.trans x7
        obtain ⟨hline, hnamed⟩ := readL_line ws2 (fun x hx => (allW_good (mem2 x hx)).good) eL
        cases pD with
        | pap wd xs =>
          obtain ⟨hm, htold⟩ : many wd = some xs.length ∧ toldL 30 xs := hnamed
          have hline : wd :: wordsL xs = ws2 := hline
          have hwl : (wordsL xs).length ≤ 900 := by
            have := congrArg List.length hline
            rw [List.length_cons] at this
            omega
          refine ⟨_, _, rfl, _, rfl, rfl, false, rfl, iteF ⟨_, rfl, rfl, true, rfl, iteT ⟨_, rfl, _, _, _, _, _, rfl, .ty _, .base (.lst hl3), kit_ty (r := true) (by decide +kernel), true, rfl, iteF ⟨_, rfl, l3, _, 0, v, rfl, rfl, SqL.of hl3, rfl, wd, xs, v, rfl, hv, hm, htold, wideL_of (by omega), hwl, fun x hx => Nat.le_trans (allW_good (mem2 x (hline ▸ hx))).len (by decide), fun H8 s8 => ?_⟩⟩⟩⟩
          have x38 := x37.trans (ExtN.of s8)
          refine ⟨⟨_, rfl⟩, _, rfl, " ", l2, ws2, rfl, rfl, .inl (SqL.of (s8 _ _ (x7 _ _ hl5 (fun _ z => nomatch z)))), size_join mem2 len2, rfl, false, ?_, iteF ?_⟩
          · rw [hline, decide_eq_true rfl]
            rfl
          · exact knx _ _ _ _ (o3.trans (OffN.ofX x38)) (p3.ext x38) (t7.ext s8)
        | non => exact hnamed.elim
        | bl b => exact hnamed.elim
        | int i => exact hnamed.elim
        | tup xs => exact hnamed.elim
  · rw [show decide (V.int r = V.int 0) = false from decide_eq_false fun z => c0 (V.int.inj z)]
    refine iteF ⟨_, rfl, ?_⟩
    obtain ⟨l2, rfl⟩ : ∃ l2, l2 = l := ⟨_, rfl⟩
    obtain ⟨ws2, rfl⟩ : ∃ ws2, ws2 = ws1 := ⟨_, rfl⟩
    obtain ⟨H3, rfl⟩ : ∃ H3, H3 = H2 := ⟨_, rfl⟩
    have hl2 := hl_2
    have ne2 := ne1
    have mem2 := mem1'
    have o3 : OffN p H H3 := OffN.ofP oall2
    have t3 : Tabs T H3 := tabs_offP ht hpl oall2
    have len2 : ws2.length ≤ 200 := by omega
    have p3 : PenAt H3 p c cs (n + 7) := p2.mono (by omega)
    have hz := joined_ok ne2 mem2 len2
    have eA := joined_read ne2 mem2
    have eW := wrongW_eq ws2
    refine ⟨_, rfl, l2, ws2, rfl, hl2, ⟨ne2, by omega, fun x hx => ⟨Nat.le_trans (allW_good (mem2 x hx)).len (by decide), (allW_good (mem2 x hx)).ok⟩⟩, fun H4 s4 => ⟨t3.ext s4, fun H5 x5 t5 => ?_⟩⟩
    have x35 : ExtN H3 H5 := (ExtN.of s4).trans x5
    have hl5 : H5 l2 = some (.lst (ws2.map V.str)) := x35 _ _ hl2 (fun _ z => nomatch z)
    refine heard_of (cl := cl) (K := K) hz t5 (fun E2 Q2 H6 s6 hsp => ⟨⟨_, rfl⟩, _, rfl, " ", l2, ws2, rfl, rfl, .inl (SqL.of (s6 _ _ hl5)), size_join mem2 len2, hsp⟩) (fun n' k' er r H7 x7 t7 hr7 => ?_) (fun pD er l3 v H7 x7 t7 hl3 hv => ?_)
    · cases eL : readL ws2 with
      | ok pD a => rw [eL] at eA; rw [eA] at er; cases er
      | bad e =>
        rw [eL] at eA eW
        dsimp only at eA eW
        rw [eA] at er
        cases er
        have hwv : wrongV ws2 = .int (k' : Int) := by unfold wrongV; rw [eW]
        rw [hwv]
        have x37 := x35.trans x7
        refine ⟨_, _, rfl, _, rfl, rfl, true, rfl, iteT ⟨_, rfl, _, rfl, (show 3 ≤ sizeLine by decide), fun q3 hq3 => ?_⟩⟩
        have s8 := same_new (o := .tup [.str "text", .int 0, .int (k' : Int)]) (Same.refl H7) hq3
        refine ⟨_, _, dp3 (n := 0) (k := (k' : Int)) (s8 _ _ hr7), dp3 (n := 0) (k := (k' : Int)) upd_same, shaped3 0 _, shaped3 0 _, false, congrArg V.bl (by rw [eqv3]; rfl), iteF ⟨_, rfl, rfl, false, rfl, iteF (iteF ?_)⟩⟩
        exact knx _ _ _ _ (o3.trans (OffN.ofX (x37.trans (ExtN.of s8)))) (p3.ext (x37.trans (ExtN.of s8))) (t7.ext s8)
    · cases eL : readL ws2 with
      | bad e => rw [eL] at eA; rw [eA] at er; cases er
      | ok pD' a =>
        rw [eL] at eA eW
        dsimp only at eA eW
        rw [eA] at er
        cases er
        have hwv : wrongV ws2 = .non := by unfold wrongV; rw [eW]
        rw [hwv]
        have x37 := x35.trans x7
        obtain ⟨hline, hnamed⟩ := readL_line ws2 (fun x hx => (allW_good (mem2 x hx)).good) eL
        cases pD with
        | pap wd xs =>
          obtain ⟨hm, htold⟩ : many wd = some xs.length ∧ toldL 30 xs := hnamed
          have hline : wd :: wordsL xs = ws2 := hline
          have hwl : (wordsL xs).length ≤ 900 := by
            have := congrArg List.length hline
            rw [List.length_cons] at this
            omega
          refine ⟨_, _, rfl, _, rfl, rfl, false, rfl, iteF ⟨_, rfl, rfl, true, rfl, iteT ⟨_, rfl, _, _, _, _, _, rfl, .ty _, .base (.lst hl3), kit_ty (r := true) (by decide +kernel), true, rfl, iteF ⟨_, rfl, l3, _, 0, v, rfl, rfl, SqL.of hl3, rfl, wd, xs, v, rfl, hv, hm, htold, wideL_of (by omega), hwl, fun x hx => Nat.le_trans (allW_good (mem2 x (hline ▸ hx))).len (by decide), fun H8 s8 => ?_⟩⟩⟩⟩
          have x38 := x37.trans (ExtN.of s8)
          refine ⟨⟨_, rfl⟩, _, rfl, " ", l2, ws2, rfl, rfl, .inl (SqL.of (s8 _ _ (x7 _ _ hl5 (fun _ z => nomatch z)))), size_join mem2 len2, rfl, false, ?_, iteF ?_⟩
          · rw [hline, decide_eq_true rfl]
            rfl
          · exact knx _ _ _ _ (o3.trans (OffN.ofX x38)) (p3.ext x38) (t7.ext s8)
        | non => exact hnamed.elim
        | bl b => exact hnamed.elim
        | int i => exact hnamed.elim
        | tup xs => exact hnamed.elim
end
end Nr
end
set_option maxHeartbeats 8000000
section
/-! NrTurn: one turn of the law: a paper made, its words, six laps. -/
namespace Nr
open PySem PySem.Spec PyProof.Rows L2 LamX NdefX
mutual
theorem D.told_le {b b' : Nat} (h : b ≤ b') : ∀ d : D, d.told b → d.told b'
  | .non, _ => by cases b' <;> trivial
  | .bl _, _ => by cases b' <;> trivial
  | .int i, z => by
    have z : i.natAbs < 10 ^ 40 := by cases b <;> exact z
    cases b' <;> exact z
  | .tup xs, z => by
    match b, b', h, z with
    | 0, _, _, z => exact z.elim
    | b + 1, b' + 1, h, z => exact toldL_le (Nat.le_of_succ_le_succ h) xs z
  | .pap w xs, z => by
    match b, b', h, z with
    | 0, _, _, z => exact z.elim
    | b + 1, b' + 1, h, z => exact ⟨z.1, toldL_le (Nat.le_of_succ_le_succ h) xs z.2⟩
theorem toldL_le {b b' : Nat} (h : b ≤ b') : ∀ xs : List D, toldL b xs → toldL b' xs
  | [], _ => by rw [toldL] <;> trivial
  | x :: xs, z => by
    rw [toldL] at z ⊢
    exact ⟨D.told_le h x z.1, toldL_le h xs z.2⟩
end
mutual
theorem D.fit_le {b b' : Nat} (h : b ≤ b') : ∀ d : D, d.fit b → d.fit b'
  | .non, _ => by cases b' <;> trivial
  | .bl _, _ => by cases b' <;> trivial
  | .int i, z => by
    have z : flat (numText i) = some (.int i) := by cases b <;> exact z
    cases b' <;> exact z
  | .tup xs, z => by
    match b, b', h, z with
    | 0, _, _, z => exact z.elim
    | b + 1, b' + 1, h, z => exact fitL_le (Nat.le_of_succ_le_succ h) xs z
  | .pap w xs, z => by
    match b, b', h, z with
    | 0, _, _, z => exact z.elim
    | b + 1, b' + 1, h, z => exact ⟨z.1, fitL_le (Nat.le_of_succ_le_succ h) xs z.2⟩
theorem fitL_le {b b' : Nat} (h : b ≤ b') : ∀ xs : List D, fitL b xs → fitL b' xs
  | [], _ => by rw [fitL] <;> trivial
  | x :: xs, z => by
    rw [fitL] at z ⊢
    exact ⟨D.fit_le h x z.1, fitL_le h xs z.2⟩
end
theorem wN_le : ∀ {a b : Nat}, a ≤ b → wN a ≤ wN b
  | a, 0, h => by have : a = 0 := by omega
                  rw [this]; exact Nat.le_refl _
  | a, b + 1, h => by
    by_cases e : a = b + 1
    · rw [e]; exact Nat.le_refl _
    · have := wN_le (a := a) (b := b) (by omega)
      rw [wN]
      omega
theorem SomeOk.le {b b' : Nat} (h : b ≤ b') {d : D} (s : SomeOk b d) : SomeOk b' d := ⟨D.told_le h d s.told, D.fit_le h d s.fit, s.wide, Nat.le_trans s.len (wN_le h), s.ws⟩
theorem parts_ok {dp : Nat} : ∀ l : List D, (∀ x ∈ l, SomeOk dp x) → toldL dp l ∧ fitL dp l ∧ wideL l ∧ (wordsL l).length ≤ l.length * wN dp ∧ ∀ x ∈ wordsL l, x ∈ baseW := by
  intro l
  induction l with
  | nil => intro _; exact ⟨by rw [toldL] <;> trivial, by rw [fitL] <;> trivial, by rw [wideL] <;> trivial, by simp [wordsL], by simp [wordsL]⟩
  | cons y ys ih =>
    intro h
    obtain ⟨a, b, c, d, e⟩ := ih fun x hx => h x (List.mem_cons_of_mem _ hx)
    have hy := h y (List.mem_cons_self ..)
    refine ⟨by rw [toldL]; exact ⟨hy.told, a⟩, by rw [fitL]; exact ⟨hy.fit, b⟩, by rw [wideL]; exact ⟨hy.wide, c⟩, ?_, ?_⟩
    · rw [wordsL, List.length_append, List.length_cons, Nat.succ_mul]
      have := hy.len
      omega
    · rw [wordsL]
      intro x hx
      exact (List.mem_append.mp hx).elim (hy.ws x) (e x)
theorem all1 {α} {R : α → Prop} {a : α} (h : R a) : ∀ x ∈ [a], R x := fun x hx => by rw [List.mem_singleton.mp hx]; exact h
theorem allc {α} {R : α → Prop} {a : α} {l : List α} (h : R a) (h2 : ∀ x ∈ l, R x) : ∀ x ∈ a :: l, R x := fun x hx => by
  rcases List.mem_cons.mp hx with e | e
  · rw [e]; exact h
  · exact h2 x e
theorem all2 {α} {R : α → Prop} {a b : α} (h : R a) (h2 : R b) : ∀ x ∈ [a, b], R x := allc h (all1 h2)
theorem all3 {α} {R : α → Prop} {a b c : α} (h : R a) (h2 : R b) (h3 : R c) : ∀ x ∈ [a, b, c], R x := allc h (all2 h2 h3)
theorem all4 {α} {R : α → Prop} {a b c d : α} (h : R a) (h2 : R b) (h3 : R c) (h4 : R d) : ∀ x ∈ [a, b, c, d], R x := allc h (all3 h2 h3 h4)
section
variable {P : Program} {w : World} {K : PySem.W.Frag} {mg : Str → Option Value} {base : Heap} {cl : Str → Addr} {CB Pl cL : Addr} {T : List (Addr × Str)}
theorem turn_ok (F : LawF P w K mg base cl CB T Pl cL) (f : Addr) (A : Around) (outer : List Env) (s : Shared) (H0 : Hp) (E : XK) (hr : Room 115 (A.deeper (envOfC "law" (defScope sLaw) s.heap.objs.size f (.ref cL)))) :
    ∃ t, PSs (lawX P w K mg base f cL A outer s H0 E) turnB t ∧ ∀ (D : Ends) (H : Hp) (p c : Addr) (cs : List Int) (n : Nat) (x0 x2 x3 x4 x5 x6 x7 x8 x9 x10 x11 x12 x13 x14 x15 x16 x17 : Option V),
      PenAt H p c cs n → n ≤ 70000 → Tabs T H →
      (∀ H' y3 y4 y5 y6 y7 y8 y9 y10, OffN p H H' → PenAt H' p c cs (n + 100) → Tabs T H' → D.nx [x0, some (.ref p), x2, y3, y4, y5, y6, y7, y8, y9, y10, x11, x12, x13, x14, x15, x16, x17] H') →
      t D [x0, some (.ref p), x2, x3, x4, x5, x6, x7, x8, x9, x10, x11, x12, x13, x14, x15, x16, x17] H := by
  have nd := scLaw.nd
  have G := F.G
  obtain ⟨tl, hl, lapR⟩ := lap_ok F f A outer s H0 E hr
  obtain ⟨fS, dS, FS, OS, bS, mS⟩ := F.some_
  obtain ⟨fS2, dS2, FS2, OS2, bS2, mS2⟩ := F.some2
  obtain ⟨fP, dP, FP, OP, bP, mP⟩ := F.pick
  obtain ⟨fL, dL, FL, OL, bL, mL⟩ := F.lpap
  obtain ⟨fW, dW, FW, OW, bW, mW⟩ := F.wrong
  obtain ⟨f1, d1, k1, o1, b1, g1⟩ := F.m1
  obtain ⟨f2, d2, k2, o2, b2, g2⟩ := F.m2
  obtain ⟨f3, d3, k3, o3, b3, g3⟩ := F.m3
  obtain ⟨f4, d4, k4, o4, b4, g4⟩ := F.m4
  obtain ⟨f5, d5, k5, o5, b5, g5⟩ := F.m5
  obtain ⟨f6, d6, k6, o6, b6, g6⟩ := F.m6
  have hr8 := hr.mono (show 3 + 4 + 1 ≤ 115 by decide)
  refine ⟨_, pss_cons (ps_par (i := 3) (j := 4) (by rfl) nd rfl rfl (by decide) rfl rfl (pa_cons (pe_call OS (hr.mono (by decide)) rfl mS FS.kp bS .nil pass0 (pa_cons (pv 1) (pa_cons pe_int pa_nil))) (pa_cons (pe_call OS2 (hr.mono (by decide)) rfl mS2 FS2.kp bS2 .nil pass0 (pa_cons (pv 1) (pa_cons pe_int pa_nil))) pa_nil)) (by rfl))
    (pss_cons (ps_set (i := 5) nd rfl (.inl rfl) (pe_call OP (hr.mono (by decide)) rfl mP FP.kp bP .nil pass0 (pa_cons (pv 1) (pa_cons (pe_lst
      (pa_cons (pe_make k1 o1 hr8 rfl g1 b1 .nil pass0 (pa_cons (pv 3) (pa_cons (pv 4) pa_nil)))
      (pa_cons (pe_make k2 o2 hr8 rfl g2 b2 .nil pass0 (pa_cons (pv 4) (pa_cons (pv 3) pa_nil)))
      (pa_cons (pe_make k3 o3 hr8 rfl g3 b3 .nil pass0 (pa_cons (pv 3) pa_nil))
      (pa_cons (pe_make k4 o4 hr8 rfl g4 b4 .nil pass0 (pa_cons (pv 3) (pa_cons (pv 4) (pa_cons pe_int (pa_cons pe_non pa_nil)))))
      (pa_cons (pe_make k5 o5 hr8 rfl g5 b5 .nil pass0 (pa_cons (pv 3) (pa_cons (pv 4) pa_nil)))
      (pa_cons (pe_make k6 o6 hr8 rfl g6 b6 .nil pass0 (pa_cons pe_int (pa_cons (pv 3) (pa_cons (pv 4) pa_nil)))) pa_nil))))))) pa_nil))))
    (pss_cons (ps_set (i := 6) nd rfl (.inl rfl) (pe_call OL (hr.mono (by decide)) rfl mL FL.kp bL .nil pass0 (pa_cons (pv 5) pa_nil)))
    (pss_cons (ps_if (pt_cmpR op_notN (pe_call OW (hr.mono (by decide)) rfl mW FW.kp bW .nil pass0 (pa_cons (pv 6) pa_nil)) pe_non (nomark _)) (pss_one (ps_ret pe_bl)) pss_nil)
    (pss_one (ps_for PassesOwn.never rfl (pi_range1 (by rfl) (G.f "range" (by decide +kernel)) (pa_cons pe_int pa_nil)) (pg_name (i := 7) nd rfl (Or.inl rfl)) hl))))), ?_⟩
  intro D H p c cs n x0 x2 x3 x4 x5 x6 x7 x8 x9 x10 x11 x12 x13 x14 x15 x16 x17 hp hn ht knx
  obtain ⟨pvs, hpl⟩ := hp.lst
  have c3 : cN 3 = 30 := rfl
  have c2 : cN 2 = 14 := rfl
  refine ⟨_, rfl, 3, rfl, p, c, cs, n, rfl, hp, by omega, by decide, fun u a H1 sa hua o1 p1 => ?_⟩
  obtain ⟨_, hpl1⟩ := p1.lst
  refine ⟨_, rfl, 2, rfl, p, c, cs, n + cN 3, rfl, p1, by omega, by decide, fun v b H2 sb0 hvb o2 p2 => ?_⟩
  have sb := sb0.le (show 2 ≤ 3 by decide)
  have hua2 := Nr.D.has_kept (off_keptP (cl := cl) o2 hpl1) _ hua
  obtain ⟨_, hpl2⟩ := p2.lst
  have l0 := (leaf_ok 3 (.int 0) (List.mem_cons_self ..)).1
  have ln := (leaf_ok 3 .non (by simp [leaves])).1
  have hL : ∀ {H' : Hp}, Same H2 H' → a.has cl H' u ∧ b.has cl H' v := fun s' => ⟨Nr.D.has_kept (Kept.of s') _ hua2, Nr.D.has_kept (Kept.of s') _ hvb⟩
  have hl2 : ∀ {H' : Hp} {x y : Nr.D} {s t : V}, x.has cl H' s → y.has cl H' t → hasL cl H' [x, y] [s, t] := fun h1 h2 => ⟨_, _, rfl, h1, hasL_one h2⟩
  have k1 := parts_ok [a, b] (all2 sa sb)
  have k2 := parts_ok [b, a] (all2 sb sa)
  have k3 := parts_ok [a] (all1 sa)
  have k4 := parts_ok [a, b, .int 0, .non] (all4 sa sb l0 ln)
  have k6 := parts_ok [.int 0, a, b] (all3 l0 sa sb)
  refine ⟨_, _, rfl, _, rfl, _, rfl, _, rfl, fun v1 dv1 nv1 nd1 ne1 => init_at nv1 nd1 ne1 (hl2 hua2 hvb) rfl k1.1 k1.2.2.1 fun H3 s3 h1 => ?_⟩
  have t3 := s3
  refine ⟨_, rfl, _, rfl, fun v2 dv2 nv2 nd2 ne2 => init_at nv2 nd2 ne2 (hl2 (hL t3).2 (hL t3).1) rfl k2.1 k2.2.2.1 fun H4 s4 h2 => ?_⟩
  have t4 := t3.trans s4
  refine ⟨_, rfl, fun v3 dv3 nv3 nd3 ne3 => init_at nv3 nd3 ne3 (hasL_one (hL t4).1) rfl k3.1 k3.2.2.1 fun H5 s5 h3 => ?_⟩
  have t5 := t4.trans s5
  refine ⟨_, rfl, _, rfl, fun v4 dv4 nv4 nd4 ne4 => init_at nv4 nd4 ne4 (xs := [a, b, .int 0, .non]) ⟨_, _, rfl, (hL t5).1, ⟨_, _, rfl, (hL t5).2, ⟨_, _, rfl, rfl, hasL_one rfl⟩⟩⟩ rfl k4.1 k4.2.2.1 fun H6 s6 h4 => ?_⟩
  have t6 := t5.trans s6
  refine ⟨_, rfl, _, rfl, fun v5 dv5 nv5 nd5 ne5 => init_at nv5 nd5 ne5 (hl2 (hL t6).1 (hL t6).2) rfl k1.1 k1.2.2.1 fun H7 s7 h5 => ?_⟩
  have t7 := t6.trans s7
  refine ⟨_, rfl, _, rfl, fun v6 dv6 nv6 nd6 ne6 => init_at nv6 nd6 ne6 (xs := [.int 0, a, b]) ⟨_, _, rfl, rfl, hl2 (hL t7).1 (hL t7).2⟩ rfl k6.1 k6.2.2.1 fun H8 s8 h6 => ⟨(show 6 ≤ sizeLine by decide), fun q hq => ?_⟩⟩
  have t8 := t7.trans s8
  have s9 := same_new (o := .lst [V.ref v1, .ref v2, .ref v3, .ref v4, .ref v5, .ref v6]) (Same.refl H8) hq
  have hqp : q ≠ p := Ne.symm (ne_of_none (t8 _ _ hpl2) hq)
  refine ⟨p, c, cs, n + cN 3 + cN 2, q, [V.ref v1, .ref v2, .ref v3, .ref v4, .ref v5, .ref v6], rfl, p2.ext (ExtN.of (t8.trans s9)), by omega, upd_same, (show 0 < 6 by decide), (show 6 < 1000000 by decide), hqp, fun i v' H10 hv' o10 p10 => ?_⟩
  have hpl9 := (t8.trans s9) _ _ hpl2
  have kk := off_keptP (cl := cl) o10 hpl9
  have o9 : Off p H H10 := o1.trans (o2.trans ((Off.of (t8.trans s9)).trans o10))
  obtain ⟨wd, xs, hm, hwb, hxs, hxl, hh⟩ : ∃ (wd : Str) (xs : List Nr.D), many wd = some xs.length ∧ wd ∈ baseW ∧ (∀ x ∈ xs, SomeOk 3 x) ∧ xs.length ≤ 4 ∧ (Nr.D.pap wd xs).has cl H10 v' := by
    have up : ∀ {H' : Hp} {d : Nr.D} {x : V}, d.has cl H' x → Same H' H8 → d.has cl H10 x := fun h s' => Nr.D.has_kept kk _ (Nr.D.has_kept (Kept.of (s'.trans s9)) _ h)
    match i, hv' with
    | 0, hv' =>
      cases hv'
      exact ⟨_, _, (show many "moment" = some 2 by decide +kernel), by decide +kernel, all2 sa sb, (show 2 ≤ 4 by decide), up h1 (s4.trans (s5.trans (s6.trans (s7.trans s8))))⟩
    | 1, hv' =>
      cases hv'
      exact ⟨_, _, (show many "rounds" = some 2 by decide +kernel), by decide +kernel, all2 sb sa, (show 2 ≤ 4 by decide), up h2 (s5.trans (s6.trans (s7.trans s8)))⟩
    | 2, hv' =>
      cases hv'
      exact ⟨_, _, (show many "records" = some 1 by decide +kernel), by decide +kernel, all1 sa, (show 1 ≤ 4 by decide), up h3 (s6.trans (s7.trans s8))⟩
    | 3, hv' =>
      cases hv'
      exact ⟨_, _, (show many "nearness" = some 4 by decide +kernel), by decide +kernel, all4 sa sb l0 ln, (show 4 ≤ 4 by decide), up h4 (s7.trans s8)⟩
    | 4, hv' =>
      cases hv'
      exact ⟨_, _, (show many "never" = some 2 by decide +kernel), by decide +kernel, all2 sa sb, (show 2 ≤ 4 by decide), up h5 s8⟩
    | 5, hv' =>
      cases hv'
      exact ⟨_, _, (show many "classes" = some 3 by decide +kernel), by decide +kernel, all3 l0 sa sb, (show 3 ≤ 4 by decide), up h6 (Same.refl _)⟩
  obtain ⟨told, fit, wide, len, inw⟩ := parts_ok xs hxs
  have w3 : wN 3 = 29 := rfl
  have hlen : (wordsL xs).length ≤ 116 := by
    have : xs.length * wN 3 ≤ 4 * wN 3 := Nat.mul_le_mul_right _ hxl
    omega
  have inB : ∀ x ∈ wd :: wordsL xs, x ∈ allW := fun x hx => by
    refine List.mem_append_left _ ?_
    rcases List.mem_cons.mp hx with rfl | hx
    · exact hwb
    · exact inw x hx
  have hpl10 := p10.lst
  obtain ⟨_, hpl10⟩ := hpl10
  refine ⟨_, rfl, 30, rfl, wd, xs, v', rfl, hh, by rw [hm]; rfl, toldL_le (by decide) xs told, wide, by omega, by omega, fun l H11 s11 nl hl11 => ?_⟩
  have hlp : l ≠ p := Ne.symm (ne_of_none hpl10 nl)
  refine ⟨_, rfl, l, wd :: wordsL xs, rfl, hl11, ⟨by simp, by simp; omega, fun x hx => ⟨Nat.le_trans (allW_good (inB x hx)).len (by decide), (allW_good (inB x hx)).ok⟩⟩, fun H12 s12 => ?_⟩
  have eR : readL (wd :: wordsL xs) = .ok (.pap wd xs) (wd :: wordsL xs).length := readL_back _ hm (fitL_le (by decide) xs fit) rfl
  have hwv : wrongV (wd :: wordsL xs) = .non := by
    unfold wrongV
    rw [wrongW_eq, eR]
  rw [hwv]
  have o12 : Off p H H12 := o9.trans (Off.of (s11.trans s12))
  refine ⟨rfl, false, rfl, iteF ⟨6, rfl, by decide, by decide, for_range (n := 6) (fun i σ Hx => ∃ (y7 y8 y9 y10 : Option V), σ = [x0, some (.ref p), x2, some u, some v, some v', some (.ref l), y7, y8, y9, y10, x11, x12, x13, x14, x15, x16, x17] ∧ OffN p H Hx ∧ PenAt Hx p c cs (n + 50 + 7 * i) ∧ Tabs T Hx ∧ Hx l = some (.lst ((wd :: wordsL xs).map V.str)))
    ⟨_, _, _, _, rfl, OffN.ofP o12, (p10.ext (ExtN.of (s11.trans s12))).mono (by omega), tabs_offP ht hpl o12, s12 _ _ hl11⟩ (fun i σ Hx hi hP => ?_) (fun σ Hx hP => ?_)⟩⟩
  · obtain ⟨y7, y8, y9, y10, rfl, ox, px, tx, hlx⟩ := hP
    exact lapR _ Hx p c l cs (n + 50 + 7 * i) (wd :: wordsL xs) _ _ _ _ _ _ _ _ _ _ _ _ _ _ _ _ px (by omega) hlx hlp (by simp) (by simp; omega) inB tx fun H' z8 z9 z10 oy py ty => ⟨_, _, _, _, rfl, ox.trans oy, py.mono (by omega), ty, oy _ _ hlp hlx (fun _ z => nomatch z)⟩
  · obtain ⟨y7, y8, y9, y10, rfl, ox, px, tx, hlx⟩ := hP
    exact knx _ _ _ _ _ _ _ _ _ ox (px.mono (by omega)) tx
end
end Nr
end
set_option maxHeartbeats 8000000
section
/-! NrDeep: brackets in one another: one lap of the law's second loop. -/
namespace Nr
open PySem PySem.Spec PyProof.Rows L2 LamX NdefX
abbrev deepS1 : List Stmt := forBody ((defBody sLaw).getD 2 (.Pass ⟨0, 0, 0, 0⟩))
abbrev deepS : List Stmt := forBody (deepS1.getD 0 (.Pass ⟨0, 0, 0, 0⟩))
section
variable {P : Program} {w : World} {K : PySem.W.Frag} {mg : Str → Option Value} {base : Heap} {cl : Str → Addr} {CB Pl cL : Addr} {T : List (Addr × Str)}
/-- read_paper(line) -/
def tReadV (CB : Addr) (cl : Str → Addr) (T : List (Addr × Str)) (K : PySem.W.Frag) (i : Nat) : XK → TE := fun E => tCall (spRead CB cl T K) [] E (tCons (tVar i) tNil)
theorem mid_ok {ow : Str} {md : List Str} {σ : L2.St} {H : Hp} {Q : VK} (h12 : σ[12]? = some (some (.str ow))) (how : (ow = "(") ∧ md = [] ∨ ow ≠ "(" ∧ md = [("0" : Str)]) (r : ∀ m H1, Same H H1 → H1 m = some (.lst (md.map V.str)) → Q (.ref m) H1) :
    (tIf (tTest (tOp rEq (tVar 12) (tC (V.str "(")))) (tLst tNil) (tLst (tCons (tC (V.str "0")) tNil))) σ H Q := by
  refine ⟨_, h12, rfl, _, rfl, ?_⟩
  rcases how with ⟨rfl, rfl⟩ | ⟨h, rfl⟩
  · rw [show decide (V.str "(" = V.str "(") = true from decide_eq_true rfl]
    exact iteT ⟨(show 0 ≤ sizeLine by decide), fun q hq => r q _ (same_new (Same.refl H) hq) upd_same⟩
  · rw [show decide (V.str ow = V.str "(") = false from decide_eq_false fun z => h (V.str.inj z)]
    exact iteF ⟨(show 1 ≤ sizeLine by decide), fun q hq => r q _ (same_new (Same.refl H) hq) upd_same⟩
theorem deep_ok (F : LawF P w K mg base cl CB T Pl cL) (f : Addr) (A : Around) (outer : List Env) (s : Shared) (H0 : Hp) (E : XK) (hr : Room 115 (A.deeper (envOfC "law" (defScope sLaw) s.heap.objs.size f (.ref cL)))) :
    ∃ t, PSs (lawX P w K mg base f cL A outer s H0 E) deepS t ∧ ∀ (D : Ends) (H : Hp) (p c : Addr) (cs : List Int) (n : Nat) (many : Int) (ow cw : Str) (md : List Str) (ws : List Str) (due : Nat) (x0 x2 x3 x4 x5 x6 x7 x8 x9 x10 x14 x15 x16 x17 : Option V),
      PenAt H p c cs n → Tabs T H → ((ow = "(") ∧ md = [] ∨ ow ≠ "(" ∧ md = [("0" : Str)]) → (0 ≤ many ∧ many ≤ 31) → ws = (([("relations" : Str)] ++ (List.replicate many.toNat [ow]).flatten ++ md) ++ (List.replicate many.toNat [cw]).flatten) → ZOk (Txt.join " " ws) → (ws.map (·.length)).sum + ws.length ≤ 10000 →
      ow.length ≤ 20 → due = 1 + 30 * (Txt.split ow " ").length → (many = 30 ∧ endB (Txt.join " " ws) = none ∨ many = 31 ∧ endB (Txt.join " " ws) = some (0, due)) →
      (∀ H' y10 y14 y15 y16, OffN p H H' → PenAt H' p c cs n → Tabs T H' → D.nx [x0, some (.ref p), x2, x3, x4, x5, x6, x7, x8, x9, y10, some (.int many), some (.str ow), some (.str cw), y14, y15, y16, x17] H') →
      t D [x0, some (.ref p), x2, x3, x4, x5, x6, x7, x8, x9, x10, some (.int many), some (.str ow), some (.str cw), x14, x15, x16, x17] H := by
  have nd := scLaw.nd
  have G := F.G
  obtain ⟨fR, dR, FR, OR, bR, mR⟩ := F.read
  obtain ⟨fH, dH, FH, bH, mH⟩ := F.heard
  obtain ⟨fI, dI, I⟩ := F.err
  have hkH := FH.kp
  obtain ⟨oc, od, kV, doc, pm, an, cdv, ct, osl, rfl, lkH, hcH⟩ := FH.ex
  refine ⟨_, pss_cons (ps_set (i := 14) nd rfl (.inl rfl) (pe_ifExp (pt_cmpR op_eq (pv 12) pe_str (nomark _)) (pe_lst pa_nil) (pe_lst (pa_cons pe_str pa_nil))))
    (pss_cons (ps_set (i := 15) nd rfl (.inr rfl) (pe_join pe_str (pe_op op_cat (pe_op op_cat (pe_op op_cat (pe_lst (pa_cons pe_str pa_nil)) (pe_op op_rep (pe_lst (pa_cons (pv 12) pa_nil)) (pv 11))) (pv 14)) (pe_op op_rep (pe_lst (pa_cons (pv 13) pa_nil)) (pv 11)))))
    (pss_cons (ps_set (i := 10) nd rfl (.inl rfl)
      (pe_lamcall (T := T) (TT := THeard CB) (k := 112) (t := tReadV CB cl T K 15) (by rfl) mH hkH lkH hcH bH scHeard rfl (.inl rfl) (heard_gives F.hc I G) F.tb rfl F.inT F.only (hr.mono (by decide)) (show LamS (defScope sLaw) _ from lamS_by (by decide +kernel)) rfl (fun _ _ _ _ _ => rfl)
        (fun A outer s H E f c' hr2 => pe_call OR hr2 rfl mR FR.kp bR .nil (passes_call (takes_of rfl rfl rfl rfl) (fun _ _ _ _ h => h)) (pa_cons (pv 15) pa_nil))))
    (pss_cons (ps_set (i := 16) nd rfl (.inl rfl) (pe_op op_add pe_int (pe_op op_mul pe_int (pe_callB call_len_seq (by rfl) (G.f "len" (by decide +kernel)) PySem.boot_len (pa_cons (pe_split (pv 12) pe_str) pa_nil)))))
    (pss_one (ps_if (PW.pt (pw_or (PW.pt (pw_and (pt_cmpR op_eq (pv 11) pe_int (nomark _)) (pw_and1 (pt_not (pt_val (pe_callB call_isi (by rfl) (G.f "isinstance" (by decide +kernel)) PyProof.Rows.boot_isinstance (pa_cons (pv 10) (pa_cons (pe_bltn (v := .ty "list") (u := .type "list") (by rfl) (G.f "list" (by decide +kernel)) (by decide +kernel) rfl) pa_nil))))))))
        (pw_or1 (PW.pt (pw_and (pt_cmpR op_eq (pv 11) pe_int (nomark _)) (pw_and1 (pt_cmpR (op_neD hr.units) (pv 10) (pe_tup (pa_cons pe_str (pa_cons pe_int (pa_cons (pv 16) pa_nil)))) (nomark _)))))))) (pss_one (ps_ret pe_bl)) pss_nil))))), ?_⟩
  intro D H p c cs n many ow cw md ws due x0 x2 x3 x4 x5 x6 x7 x8 x9 x10 x14 x15 x16 x17 hp ht how hmany hws hz hsz hol hdue hend knx
  obtain ⟨_, hpl⟩ := hp.lst
  refine mid_ok rfl how fun m H1 s1 hm => ?_
  have hN : ∀ o : Str, ((List.replicate many.toNat [V.str o]).flatten).length = many.toNat := fun o => by
    rw [List.length_flatten, List.map_replicate, List.sum_replicate_nat]
    simp
  have hml : md.length ≤ 1 := by
    rcases how with ⟨_, rfl⟩ | ⟨_, rfl⟩ <;> decide
  refine ⟨⟨_, rfl⟩, (show 1 ≤ sizeLine by decide), fun q1 hq1 => ?_⟩
  have s2 := same_new (o := .lst [V.str "relations"]) (Same.refl H1) hq1
  have e1 : upd H1 q1 (.lst [V.str "relations"]) q1 = some (.lst [V.str "relations"]) := upd_same
  have hm := s2 _ _ hm
  have s2 := s1.trans s2
  generalize upd H1 q1 (.lst [V.str "relations"]) = H2 at s2 e1 hm ⊢
  refine ⟨_, rfl, (show 1 ≤ sizeLine by decide), fun q2 hq2 => ⟨_, rfl, q2, many, [V.str ow], rfl, rfl, upd_same, by omega, by omega, Nat.le_trans (show _ ≤ 31 by simp; omega) (by decide), fun q3 hq3 => ?_⟩⟩
  have s3 := (same_new (o := .lst [V.str ow]) (Same.refl H2) hq2).trans (same_new (o := .lst (List.replicate many.toNat [V.str ow]).flatten) (Same.refl _) hq3)
  have e3 : upd (upd H2 q2 (.lst [V.str ow])) q3 (.lst (List.replicate many.toNat [V.str ow]).flatten) q3 = some (.lst (List.replicate many.toNat [V.str ow]).flatten) := upd_same
  have hm := s3 _ _ hm
  have e1 := s3 _ _ e1
  have s3 := s2.trans s3
  generalize upd (upd H2 q2 (.lst [V.str ow])) q3 (.lst (List.replicate many.toNat [V.str ow]).flatten) = H3 at s3 e1 e3 hm ⊢
  refine ⟨q1, q3, _, _, rfl, rfl, e1, e3, Nat.le_trans (show _ ≤ 32 by rw [hN]; simp; omega) (by decide), fun q4 hq4 => ?_⟩
  have s4 := same_new (o := .lst ([V.str "relations"] ++ (List.replicate many.toNat [V.str ow]).flatten)) (Same.refl H3) hq4
  have e4 : upd H3 q4 (.lst ([V.str "relations"] ++ (List.replicate many.toNat [V.str ow]).flatten)) q4 = some (.lst ([V.str "relations"] ++ (List.replicate many.toNat [V.str ow]).flatten)) := upd_same
  have hm := s4 _ _ hm
  have s4 := s3.trans s4
  generalize upd H3 q4 (.lst ([V.str "relations"] ++ (List.replicate many.toNat [V.str ow]).flatten)) = H4 at s4 e4 hm ⊢
  refine ⟨_, rfl, q4, m, _, _, rfl, rfl, e4, hm, Nat.le_trans (show _ ≤ 33 by rw [List.length_append, hN]; simp; omega) (by decide), fun q5 hq5 => ?_⟩
  have s5 := same_new (o := .lst (([V.str "relations"] ++ (List.replicate many.toNat [V.str ow]).flatten) ++ md.map V.str)) (Same.refl H4) hq5
  have e5 : upd H4 q5 (.lst (([V.str "relations"] ++ (List.replicate many.toNat [V.str ow]).flatten) ++ md.map V.str)) q5 = some (.lst (([V.str "relations"] ++ (List.replicate many.toNat [V.str ow]).flatten) ++ md.map V.str)) := upd_same
  have s5 := s4.trans s5
  generalize upd H4 q5 (.lst (([V.str "relations"] ++ (List.replicate many.toNat [V.str ow]).flatten) ++ md.map V.str)) = H5 at s5 e5 ⊢
  refine ⟨_, rfl, (show 1 ≤ sizeLine by decide), fun q6 hq6 => ⟨_, rfl, q6, many, [V.str cw], rfl, rfl, upd_same, by omega, by omega, Nat.le_trans (show _ ≤ 31 by simp; omega) (by decide), fun q7 hq7 => ?_⟩⟩
  have s7 := (same_new (o := .lst [V.str cw]) (Same.refl H5) hq6).trans (same_new (o := .lst (List.replicate many.toNat [V.str cw]).flatten) (Same.refl _) hq7)
  have e7 : upd (upd H5 q6 (.lst [V.str cw])) q7 (.lst (List.replicate many.toNat [V.str cw]).flatten) q7 = some (.lst (List.replicate many.toNat [V.str cw]).flatten) := upd_same
  have e5 := s7 _ _ e5
  have s7 := s5.trans s7
  generalize upd (upd H5 q6 (.lst [V.str cw])) q7 (.lst (List.replicate many.toNat [V.str cw]).flatten) = H7 at s7 e5 e7 ⊢
  refine ⟨q5, q7, _, _, rfl, rfl, e5, e7, Nat.le_trans (show _ ≤ 64 by rw [List.length_append, List.length_append, hN, hN]; simp; omega) (by decide), fun q8 hq8 => ?_⟩
  have em : (([V.str "relations"] ++ (List.replicate many.toNat [V.str ow]).flatten) ++ md.map V.str) ++ (List.replicate many.toNat [V.str cw]).flatten = ws.map V.str := by
    rw [hws]
    simp only [List.map_append, List.map_flatten, List.map_replicate, List.map_cons, List.map_nil]
  rw [em]
  have s8 := same_new (o := .lst (ws.map V.str)) (Same.refl H7) hq8
  have e8 : upd H7 q8 (.lst (ws.map V.str)) q8 = some (.lst (ws.map V.str)) := upd_same
  have s8 := s7.trans s8
  generalize upd H7 q8 (.lst (ws.map V.str)) = H8 at s8 e8 ⊢
  refine ⟨" ", q8, ws, rfl, rfl, .inl (SqL.of e8), by rw [show (" " : Str).length = 1 by decide +kernel]; omega, ?_⟩
  have t8 : Tabs T H8 := ht.ext s8
  refine ⟨t8, fun H9 x9 t9 => ?_⟩
  have hlen : (1 : Int) + 30 * (((Txt.split ow " ").map V.str).length : Nat) = (due : Int) := by
    rw [List.length_map, hdue]
    omega
  have x89 : ExtN H H9 := (ExtN.of s8).trans x9
  refine heard_of (cl := cl) (K := K) hz t9 (fun E2 Q2 H10 s10 hsp => ⟨_, rfl, hsp⟩) (fun n' k' er r H10 x10 t10 hr10 => ?_) (fun pD er l v H10 x10 t10 hl10 hv => ?_)
  · rcases hend with ⟨_, z⟩ | ⟨h31, z⟩
    · obtain ⟨pd, e⟩ := end_ok z
      rw [e] at er
      cases er
    · have e := end_bad z
      rw [e] at er
      cases er
      refine ⟨_, rfl, ⟨_, rfl⟩, ow, " ", rfl, rfl, by decide +kernel, Nat.le_trans (Nat.add_le_add_right hol 2) (by decide), fun q hq => ⟨q, _, rfl, .inl (SqL.of upd_same), 30, _, rfl, rfl, .inl (by decide), 1, _, rfl, rfl, ?_⟩⟩
      have s11 := same_new (o := .lst ((Txt.split ow " ").map V.str)) (Same.refl H10) hq
      refine ⟨_, rfl, rfl, _, rfl, ?_⟩
      rw [show decide (V.int many = V.int 30) = false from decide_eq_false fun z => by have := V.int.inj z; omega]
      refine iteF ⟨_, rfl, rfl, _, rfl, ?_⟩
      rw [show decide (V.int many = V.int 31) = true from decide_eq_true (by rw [h31])]
      refine iteT ⟨_, rfl, _, rfl, (show 3 ≤ sizeLine by decide), fun q3 hq3 => ?_⟩
      have s12 := same_new (o := .tup [.str "text", .int 0, .int (1 + 30 * (((Txt.split ow " ").map V.str).length : Nat))]) (Same.refl _) hq3
      refine ⟨_, _, dp3 (n := 0) (k := (due : Int)) (s12 _ _ (s11 _ _ hr10)), dp3 (n := 0) (k := 1 + 30 * (((Txt.split ow " ").map V.str).length : Nat)) upd_same, shaped3 0 _, shaped3 0 _, false, congrArg V.bl (by rw [hlen, eqv3]; rfl), iteF ?_⟩
      have xa := (x89.trans x10).trans (ExtN.of (s11.trans s12))
      exact knx _ _ _ _ _ (OffN.ofX xa) (hp.ext xa) (t10.ext (s11.trans s12))
  · rcases hend with ⟨h30, z⟩ | ⟨_, z⟩
    · refine ⟨_, rfl, ⟨_, rfl⟩, ow, " ", rfl, rfl, by decide +kernel, Nat.le_trans (Nat.add_le_add_right hol 2) (by decide), fun q hq => ⟨q, _, rfl, .inl (SqL.of upd_same), 30, _, rfl, rfl, .inl (by decide), 1, _, rfl, rfl, ?_⟩⟩
      have s11 := same_new (o := .lst ((Txt.split ow " ").map V.str)) (Same.refl H10) hq
      refine ⟨_, rfl, rfl, _, rfl, ?_⟩
      rw [show decide (V.int many = V.int 30) = true from decide_eq_true (by rw [h30])]
      refine iteT ⟨_, rfl, _, _, _, _, _, rfl, .ty _, .base (.lst (s11 _ _ hl10)), kit_ty (r := true) (by decide +kernel), true, rfl, iteF ⟨_, rfl, rfl, _, rfl, ?_⟩⟩
      rw [show decide (V.int many = V.int 31) = false from decide_eq_false fun z => by have := V.int.inj z; omega]
      refine iteF (iteF ?_)
      have xa := (x89.trans x10).trans (ExtN.of s11)
      exact knx _ _ _ _ _ (OffN.ofX xa) (hp.ext xa) (t10.ext s11)
    · have e := end_bad z
      rw [e] at er
      cases er
end
end Nr
end
set_option maxHeartbeats 8000000
section
/-! NrFin: the law's last lines: no strings, lines more. -/
namespace Nr
open PySem PySem.Spec PyProof.Rows L2 LamX NdefX
abbrev finS : List Stmt := (defBody sLaw).drop 3
def tReadC (CB : Addr) (cl : Str → Addr) (T : List (Addr × Str)) (K : PySem.W.Frag) (z : Str) : XK → TE := fun E => tCall (spRead CB cl T K) [] E (tCons (tC (.str z)) tNil)
section
variable {P : Program} {w : World} {K : PySem.W.Frag} {mg : Str → Option Value} {base : Heap} {cl : Str → Addr} {CB Pl cL : Addr} {T : List (Addr × Str)}
theorem heard_bad {n k : Nat} {z : Str} {tl : XK → Hp → VK → Prop} {H1 : Hp} {Q : VK} (hz : zB z = true ∧ endB z = some (n, k)) (ht : Tabs T H1) (htl : ∀ E2 Q2 H0, Same H1 H0 → spRead CB cl T K [.str z] H0 Q2 E2 → tl E2 H0 Q2)
    (kx : ∀ r H'', ExtN H1 H'' → Tabs T H'' → H'' r = some (.tup [.str "text", .int n, .int k]) → Q (.ref r) H'') : THeard CB tl H1 Q :=
  heard_of (cl := cl) (K := K) (zB_ok hz.1) ht htl (fun n' k' e r H'' x t h => by
    rw [end_bad hz.2] at e
    cases e
    exact kx r H'' x t h) (fun p e => by
    rw [end_bad hz.2] at e
    cases e)
abbrev d3 (n k : Nat) : PyData := .tuple [.str "text", .int n, .int k]
theorem shaped6 : SeqAt.shaped (.list [d3 0 0, d3 0 0, d3 1 0, d3 1 0, d3 0 1, d3 0 2]) = true := by decide +kernel
theorem eqv6 : PyData.eqv (.list [d3 0 0, d3 0 0, d3 1 0, d3 1 0, d3 0 1, d3 0 2]) (.list [d3 0 0, d3 0 0, d3 1 0, d3 1 0, d3 0 1, d3 0 2]) = true := by decide +kernel
theorem dp6 {H : Hp} {a r1 r2 r3 r4 r5 r6 : Addr} {n1 n2 n3 n4 n5 n6 k1 k2 k3 k4 k5 k6 : Nat} (ha : H a = some (.lst [.ref r1, .ref r2, .ref r3, .ref r4, .ref r5, .ref r6])) (h1 : H r1 = some (.tup [.str "text", .int n1, .int k1])) (h2 : H r2 = some (.tup [.str "text", .int n2, .int k2])) (h3 : H r3 = some (.tup [.str "text", .int n3, .int k3]))
    (h4 : H r4 = some (.tup [.str "text", .int n4, .int k4])) (h5 : H r5 = some (.tup [.str "text", .int n5, .int k5])) (h6 : H r6 = some (.tup [.str "text", .int n6, .int k6])) : Dp K H (.ref a) (.list [d3 n1 k1, d3 n2 k2, d3 n3 k3, d3 n4 k4, d3 n5 k5, d3 n6 k6]) :=
  .lst (SqL.of ha) (.cons (dp3 h1) (.cons (dp3 h2) (.cons (dp3 h3) (.cons (dp3 h4) (.cons (dp3 h5) (.cons (dp3 h6) .nil))))))
theorem fin_ok (F : LawF P w K mg base cl CB T Pl cL) (f : Addr) (A : Around) (outer : List Env) (s : Shared) (H0 : Hp) (E : XK) (hr : Room 115 (A.deeper (envOfC "law" (defScope sLaw) s.heap.objs.size f (.ref cL)))) :
    ∃ t, PSs (lawX P w K mg base f cL A outer s H0 E) finS t ∧ ∀ (D : Ends) (H : Hp) (p c : Addr) (cs : List Int) (n : Nat) (x0 x2 x3 x4 x5 x6 x7 x8 x9 x10 x11 x12 x13 x14 x15 x16 x17 : Option V),
      PenAt H p c cs n → n ≤ 90000 → Tabs T H → (∀ H', D.rt (.bl true) H') →
      t D [x0, some (.ref p), x2, x3, x4, x5, x6, x7, x8, x9, x10, x11, x12, x13, x14, x15, x16, x17] H := by
  have nd := scLaw.nd
  have G := F.G
  obtain ⟨fP, dP, FP, OP, bP, mP⟩ := F.pick
  obtain ⟨fR, dR, FR, OR, bR, mR⟩ := F.read
  obtain ⟨fH, dH, FH, bH, mH⟩ := F.heard
  obtain ⟨fI, dI, I⟩ := F.err
  have hkH := FH.kp
  obtain ⟨oc, od, kV, doc, pm, an, cdv, ct, osl, rfl, lkH, hcH⟩ := FH.ex
  refine ⟨_, pss_cons (ps_set (i := 17) nd rfl (.inr rfl) (pe_call OP (hr.mono (by decide)) rfl mP FP.kp bP .nil pass0 (pa_cons (pv 1) (pa_cons (pe_lst (pa_cons pe_non (pa_cons pe_int (pa_cons (pe_tup (pa_cons pe_str pa_nil)) (pa_cons (pe_lst (pa_cons pe_str pa_nil)) (pa_cons pe_bl pa_nil)))))) pa_nil))))
    (pss_cons (ps_set (i := 10) nd rfl (.inl rfl) (pe_lst
      (pa_cons (pe_lamcall (T := T) (TT := THeard CB) (k := 112) (t := tReadV CB cl T K 17) (by rfl) mH hkH lkH hcH bH scHeard rfl (.inl rfl) (heard_gives F.hc I G) F.tb rfl F.inT F.only (hr.mono (by decide)) (show LamS (defScope sLaw) _ from lamS_by (by decide +kernel)) rfl (fun _ _ _ _ _ => rfl)
        (fun A outer s H E f c' hr2 => pe_call OR hr2 rfl mR FR.kp bR .nil (passes_call (takes_of rfl rfl rfl rfl) (fun _ _ _ _ h => h)) (pa_cons (pv 17) pa_nil)))
      (pa_cons (pe_lamcallD (T := T) (TT := THeard CB) (N1 := ["a1"]) (y := "a1") (k := 112) (t := tReadC CB cl T K "") (by rfl) mH hkH lkH hcH bH scHeard rfl (.inl rfl) (heard_gives F.hc I G) F.tb rfl F.inT F.only (hr.mono (by decide)) (nscope_by (by decide +kernel)) rfl rfl (fun _ _ _ _ _ _ => ⟨_, rfl, rfl⟩)
        (fun A outer s H E f c' hr2 => pe_call OR hr2 rfl mR FR.kp bR .nil (passes_call (takes_of rfl rfl rfl rfl) (fun _ _ _ _ h => h)) (pa_cons pe_str pa_nil)))
      (pa_cons (pe_lamcallD (T := T) (TT := THeard CB) (N1 := ["a2"]) (y := "a2") (k := 112) (t := tReadC CB cl T K "relations 0\nrelations 0") (by rfl) mH hkH lkH hcH bH scHeard rfl (.inl rfl) (heard_gives F.hc I G) F.tb rfl F.inT F.only (hr.mono (by decide)) (nscope_by (by decide +kernel)) rfl rfl (fun _ _ _ _ _ _ => ⟨_, rfl, rfl⟩)
        (fun A outer s H E f c' hr2 => pe_call OR hr2 rfl mR FR.kp bR .nil (passes_call (takes_of rfl rfl rfl rfl) (fun _ _ _ _ h => h)) (pa_cons pe_str pa_nil)))
      pa_nil)))))
    (pss_cons (ps_set (i := 10) nd rfl (.inl rfl) (pe_op op_cat (pv 10) (pe_lst
      (pa_cons (pe_lamcall (T := T) (TT := THeard CB) (k := 112) (t := tReadC CB cl T K "relations 0\n") (by rfl) mH hkH lkH hcH bH scHeard rfl (.inl rfl) (heard_gives F.hc I G) F.tb rfl F.inT F.only (hr.mono (by decide)) (show LamS (defScope sLaw) _ from lamS_by (by decide +kernel)) rfl (fun _ _ _ _ _ => rfl)
        (fun A outer s H E f c' hr2 => pe_call OR hr2 rfl mR FR.kp bR .nil (passes_call (takes_of rfl rfl rfl rfl) (fun _ _ _ _ h => h)) (pa_cons pe_str pa_nil)))
      (pa_cons (pe_lamcallD (T := T) (TT := THeard CB) (N1 := ["a1"]) (y := "a1") (k := 112) (t := tReadC CB cl T K "relations") (by rfl) mH hkH lkH hcH bH scHeard rfl (.inl rfl) (heard_gives F.hc I G) F.tb rfl F.inT F.only (hr.mono (by decide)) (nscope_by (by decide +kernel)) rfl rfl (fun _ _ _ _ _ _ => ⟨_, rfl, rfl⟩)
        (fun A outer s H E f c' hr2 => pe_call OR hr2 rfl mR FR.kp bR .nil (passes_call (takes_of rfl rfl rfl rfl) (fun _ _ _ _ h => h)) (pa_cons pe_str pa_nil)))
      (pa_cons (pe_lamcallD (T := T) (TT := THeard CB) (N1 := ["a2"]) (y := "a2") (k := 112) (t := tReadC CB cl T K "relations 0 1\n0") (by rfl) mH hkH lkH hcH bH scHeard rfl (.inl rfl) (heard_gives F.hc I G) F.tb rfl F.inT F.only (hr.mono (by decide)) (nscope_by (by decide +kernel)) rfl rfl (fun _ _ _ _ _ _ => ⟨_, rfl, rfl⟩)
        (fun A outer s H E f c' hr2 => pe_call OR hr2 rfl mR FR.kp bR .nil (passes_call (takes_of rfl rfl rfl rfl) (fun _ _ _ _ h => h)) (pa_cons pe_str pa_nil)))
      pa_nil))))))
    (pss_one (ps_ret (pe_cmpR (op_eqD hr.units) (pv 10) (pe_op op_cat (pe_op op_cat (pe_op op_rep (pe_lst (pa_cons (pe_tup (pa_cons pe_str (pa_cons pe_int (pa_cons pe_int pa_nil)))) pa_nil)) pe_int) (pe_op op_rep (pe_lst (pa_cons (pe_tup (pa_cons pe_str (pa_cons pe_int (pa_cons pe_int pa_nil)))) pa_nil)) pe_int))
      (pe_lst (pa_cons (pe_tup (pa_cons pe_str (pa_cons pe_int (pa_cons pe_int pa_nil)))) (pa_cons (pe_tup (pa_cons pe_str (pa_cons pe_int (pa_cons pe_int pa_nil)))) pa_nil)))) (nomark _)))))), ?_⟩
  intro D H p c cs n x0 x2 x3 x4 x5 x6 x7 x8 x9 x10 x11 x12 x13 x14 x15 x16 x17 hp hn ht knx
  obtain ⟨_, hpl⟩ := hp.lst
  refine ⟨_, rfl, (show 1 ≤ sizeLine by decide), fun t1 ht1 => ⟨(show 1 ≤ sizeLine by decide), fun l1 hl1 => ⟨(show 5 ≤ sizeLine by decide), fun q hq => ?_⟩⟩⟩
  have sa := same_new (o := .tup [.str "moment"]) (Same.refl H) ht1
  have sb := same_new (o := .lst [.str "relations 0"]) (Same.refl _) hl1
  have sc := same_new (o := .lst [.non, .int 5, .ref t1, .ref l1, .bl true]) (Same.refl _) hq
  have nt1 : t1 ≠ p := Ne.symm (ne_of_none hpl ht1)
  have nl1 : l1 ≠ p := Ne.symm (ne_of_none (sa _ _ hpl) hl1)
  have nq : q ≠ p := Ne.symm (ne_of_none (sb _ _ (sa _ _ hpl)) hq)
  refine ⟨p, c, cs, n, q, [.non, .int 5, .ref t1, .ref l1, .bl true], rfl, hp.ext (ExtN.of (sa.trans (sb.trans sc))), by omega, upd_same, (show 0 < 5 by decide), (show 5 < 1000000 by decide), nq, fun i v H2 hv o2 p2 => ?_⟩
  have ft := o2 _ _ nt1 (sc _ _ (sb _ _ (show upd H t1 (.tup [.str "moment"]) t1 = some (.tup [.str "moment"]) from upd_same)))
  have fl := o2 _ _ nl1 (sc _ _ (show upd (upd H t1 (.tup [.str "moment"])) l1 (.lst [.str "relations 0"]) l1 = some (.lst [.str "relations 0"]) from upd_same))
  have T2 : Tabs T H2 := tabs_offP ht hpl ((Off.of (sa.trans (sb.trans sc))).trans o2)
  obtain ⟨ty, hty, kt⟩ : ∃ ty, (∀ H0, ExtN H2 H0 → TyOf K H0 v ty) ∧ PySem.W.kitOne K ty (.type "str") = some false := by
    match i, hv with
    | 0, hv =>
      cases hv
      exact ⟨_, fun _ _ => .non, kit_ty (by decide +kernel)⟩
    | 1, hv =>
      cases hv
      exact ⟨_, fun _ _ => .int 5, kit_ty (by decide +kernel)⟩
    | 2, hv =>
      cases hv
      exact ⟨_, fun _ x => .tup (x _ _ ft (fun _ z => nomatch z)), kit_ty (by decide +kernel)⟩
    | 3, hv =>
      cases hv
      exact ⟨_, fun _ x => .lst (x _ _ fl (fun _ z => nomatch z)), kit_ty (by decide +kernel)⟩
    | 4, hv =>
      cases hv
      exact ⟨_, fun _ _ => .bl true, kit_ty (by decide +kernel)⟩
  refine ⟨T2, fun H3 x3 T3 => heard_none (cl := cl) (K := K) (fun H0 s0 => hty H0 (x3.trans (ExtN.of s0))) kt T3 (fun E2 Q2 H4 s4 hsp => ⟨_, rfl, hsp⟩) fun r1 H4 x4 T4 hr1 => ?_⟩
  refine ⟨T4, fun H5 x5 T5 => heard_bad (cl := cl) (K := K) z0 T5 (fun E2 Q2 H4 s4 hsp => hsp) fun r2 H6 x6 T6 hr2 => ?_⟩
  refine ⟨T6, fun H7 x7 T7 => heard_bad (cl := cl) (K := K) z1 T7 (fun E2 Q2 H4 s4 hsp => hsp) fun r3 H8 x8 T8 hr3 => ?_⟩
  refine ⟨(show 3 ≤ sizeLine by decide), fun a ha => ?_⟩
  have s9 := same_new (o := .lst [.ref r1, .ref r2, .ref r3]) (Same.refl H8) ha
  have ea : upd H8 a (.lst [.ref r1, .ref r2, .ref r3]) a = some (.lst [.ref r1, .ref r2, .ref r3]) := upd_same
  have T9 := T8.ext s9
  generalize upd H8 a (.lst [.ref r1, .ref r2, .ref r3]) = H9 at s9 ea T9 ⊢
  refine ⟨_, rfl, T9, fun H10 x10 T10 => heard_bad (cl := cl) (K := K) z2 T10 (fun E2 Q2 H4 s4 hsp => hsp) fun r4 H11 x11 T11 hr4 => ?_⟩
  refine ⟨T11, fun H12 x12 T12 => heard_bad (cl := cl) (K := K) z3 T12 (fun E2 Q2 H4 s4 hsp => hsp) fun r5 H13 x13 T13 hr5 => ?_⟩
  refine ⟨T13, fun H14 x14 T14 => heard_bad (cl := cl) (K := K) z4 T14 (fun E2 Q2 H4 s4 hsp => hsp) fun r6 H15 x15 T15 hr6 => ?_⟩
  refine ⟨(show 3 ≤ sizeLine by decide), fun b hb => ?_⟩
  have s16 := same_new (o := .lst [.ref r4, .ref r5, .ref r6]) (Same.refl H15) hb
  have eb : upd H15 b (.lst [.ref r4, .ref r5, .ref r6]) b = some (.lst [.ref r4, .ref r5, .ref r6]) := upd_same
  generalize upd H15 b (.lst [.ref r4, .ref r5, .ref r6]) = H16 at s16 eb ⊢
  have y13 : ExtN H13 H16 := (x14.trans x15).trans (ExtN.of s16)
  have y11 : ExtN H11 H16 := (x12.trans x13).trans y13
  have y9 : ExtN H9 H16 := (x10.trans x11).trans y11
  have y8 : ExtN H8 H16 := (ExtN.of s9).trans y9
  have y6 : ExtN H6 H16 := (x7.trans x8).trans y8
  have y4 : ExtN H4 H16 := (x5.trans x6).trans y6
  have no : ∀ {xs : List V} (ps : Array Value), (HO.tup xs) ≠ HO.tbl ps := fun _ z => nomatch z
  have f1 := y4 _ _ hr1 no
  have f2 := y6 _ _ hr2 no
  have f3 := y8 _ _ hr3 no
  have f4 := y11 _ _ hr4 no
  have f5 := y13 _ _ hr5 no
  have f6 := s16 _ _ hr6
  have fa := y9 _ _ ea (fun _ z => nomatch z)
  refine ⟨a, b, _, _, rfl, rfl, fa, eb, (show 6 ≤ sizeLine by decide), fun g hg => ?_⟩
  have s17 := same_new (o := .lst ([.ref r1, .ref r2, .ref r3] ++ [.ref r4, .ref r5, .ref r6])) (Same.refl H16) hg
  have eg : upd H16 g (.lst ([.ref r1, .ref r2, .ref r3] ++ [.ref r4, .ref r5, .ref r6])) g = some (.lst [.ref r1, .ref r2, .ref r3, .ref r4, .ref r5, .ref r6]) := upd_same
  generalize upd H16 g (.lst ([.ref r1, .ref r2, .ref r3] ++ [.ref r4, .ref r5, .ref r6])) = H17 at s17 eg ⊢
  refine ⟨_, rfl, (show 3 ≤ sizeLine by decide), fun u1 hu1 => ?_⟩
  have w1 := same_new (o := .tup [.str "text", .int 0, .int 0]) (Same.refl H17) hu1
  have v1 : upd H17 u1 (.tup [.str "text", .int 0, .int 0]) u1 = some (.tup [.str "text", .int (0 : Nat), .int (0 : Nat)]) := upd_same
  generalize upd H17 u1 (.tup [.str "text", .int 0, .int 0]) = H18 at w1 v1 ⊢
  refine ⟨(show 1 ≤ sizeLine by decide), fun u2 hu2 => ⟨u2, 2, [.ref u1], rfl, rfl, upd_same, by decide, by decide, (show 2 ≤ sizeLine by decide), fun u3 hu3 => ?_⟩⟩
  have w2 := (same_new (o := .lst [.ref u1]) (Same.refl H18) hu2).trans (same_new (o := .lst (List.replicate (2 : Int).toNat [V.ref u1]).flatten) (Same.refl _) hu3)
  have v3 : upd (upd H18 u2 (.lst [.ref u1])) u3 (.lst (List.replicate (2 : Int).toNat [V.ref u1]).flatten) u3 = some (.lst [.ref u1, .ref u1]) := upd_same
  generalize upd (upd H18 u2 (.lst [.ref u1])) u3 (.lst (List.replicate (2 : Int).toNat [V.ref u1]).flatten) = H19 at w2 v3 ⊢
  refine ⟨(show 3 ≤ sizeLine by decide), fun u4 hu4 => ?_⟩
  have w3 := same_new (o := .tup [.str "text", .int 1, .int 0]) (Same.refl H19) hu4
  have v4 : upd H19 u4 (.tup [.str "text", .int 1, .int 0]) u4 = some (.tup [.str "text", .int (1 : Nat), .int (0 : Nat)]) := upd_same
  generalize upd H19 u4 (.tup [.str "text", .int 1, .int 0]) = H20 at w3 v4 ⊢
  refine ⟨(show 1 ≤ sizeLine by decide), fun u5 hu5 => ⟨u5, 2, [.ref u4], rfl, rfl, upd_same, by decide, by decide, (show 2 ≤ sizeLine by decide), fun u6 hu6 => ?_⟩⟩
  have w4 := (same_new (o := .lst [.ref u4]) (Same.refl H20) hu5).trans (same_new (o := .lst (List.replicate (2 : Int).toNat [V.ref u4]).flatten) (Same.refl _) hu6)
  have v6 : upd (upd H20 u5 (.lst [.ref u4])) u6 (.lst (List.replicate (2 : Int).toNat [V.ref u4]).flatten) u6 = some (.lst [.ref u4, .ref u4]) := upd_same
  generalize upd (upd H20 u5 (.lst [.ref u4])) u6 (.lst (List.replicate (2 : Int).toNat [V.ref u4]).flatten) = H21 at w4 v6 ⊢
  refine ⟨u3, u6, _, _, rfl, rfl, w4 _ _ (w3 _ _ v3), v6, (show 4 ≤ sizeLine by decide), fun u7 hu7 => ?_⟩
  have w5 := same_new (o := .lst ([.ref u1, .ref u1] ++ [.ref u4, .ref u4])) (Same.refl H21) hu7
  have v7 : upd H21 u7 (.lst ([.ref u1, .ref u1] ++ [.ref u4, .ref u4])) u7 = some (.lst ([.ref u1, .ref u1] ++ [.ref u4, .ref u4])) := upd_same
  generalize upd H21 u7 (.lst ([.ref u1, .ref u1] ++ [.ref u4, .ref u4])) = H22 at w5 v7 ⊢
  refine ⟨(show 3 ≤ sizeLine by decide), fun u8 hu8 => ?_⟩
  have w6 := same_new (o := .tup [.str "text", .int 0, .int 1]) (Same.refl H22) hu8
  have v8 : upd H22 u8 (.tup [.str "text", .int 0, .int 1]) u8 = some (.tup [.str "text", .int (0 : Nat), .int (1 : Nat)]) := upd_same
  generalize upd H22 u8 (.tup [.str "text", .int 0, .int 1]) = H23 at w6 v8 ⊢
  refine ⟨(show 3 ≤ sizeLine by decide), fun u9 hu9 => ?_⟩
  have w7 := same_new (o := .tup [.str "text", .int 0, .int 2]) (Same.refl H23) hu9
  have v9 : upd H23 u9 (.tup [.str "text", .int 0, .int 2]) u9 = some (.tup [.str "text", .int (0 : Nat), .int (2 : Nat)]) := upd_same
  generalize upd H23 u9 (.tup [.str "text", .int 0, .int 2]) = H24 at w7 v9 ⊢
  refine ⟨(show 2 ≤ sizeLine by decide), fun uA huA => ?_⟩
  have w8 := same_new (o := .lst [.ref u8, .ref u9]) (Same.refl H24) huA
  have vA : upd H24 uA (.lst [.ref u8, .ref u9]) uA = some (.lst [.ref u8, .ref u9]) := upd_same
  generalize upd H24 uA (.lst [.ref u8, .ref u9]) = H25 at w8 vA ⊢
  refine ⟨u7, uA, _, _, rfl, rfl, w8 _ _ (w7 _ _ (w6 _ _ v7)), vA, (show 6 ≤ sizeLine by decide), fun uB huB => ?_⟩
  have w9 := same_new (o := .lst (([.ref u1, .ref u1] ++ [.ref u4, .ref u4]) ++ [.ref u8, .ref u9])) (Same.refl H25) huB
  have vB : upd H25 uB (.lst (([.ref u1, .ref u1] ++ [.ref u4, .ref u4]) ++ [.ref u8, .ref u9])) uB = some (.lst [.ref u1, .ref u1, .ref u4, .ref u4, .ref u8, .ref u9]) := upd_same
  generalize upd H25 uB (.lst (([.ref u1, .ref u1] ++ [.ref u4, .ref u4]) ++ [.ref u8, .ref u9])) = H26 at w9 vB ⊢
  have a24 := w8.trans w9
  have a23 := w7.trans a24
  have a22 := w6.trans a23
  have a20 := w4.trans (w5.trans a22)
  have a18 := w2.trans (w3.trans a20)
  have a17 := w1.trans a18
  have a16 := s17.trans a17
  refine ⟨_, _, dp6 (n1 := 0) (k1 := 0) (n2 := 0) (k2 := 0) (n3 := 1) (k3 := 0) (n4 := 1) (k4 := 0) (n5 := 0) (k5 := 1) (n6 := 0) (k6 := 2) (a17 _ _ eg) (a16 _ _ f1) (a16 _ _ f2) (a16 _ _ f3) (a16 _ _ f4) (a16 _ _ f5) (a16 _ _ f6),
    dp6 (n1 := 0) (k1 := 0) (n2 := 0) (k2 := 0) (n3 := 1) (k3 := 0) (n4 := 1) (k4 := 0) (n5 := 0) (k5 := 1) (n6 := 0) (k6 := 2) vB (a18 _ _ v1) (a18 _ _ v1) (a20 _ _ v4) (a20 _ _ v4) (a23 _ _ v8) (a24 _ _ v9), shaped6, shaped6, ?_⟩
  rw [eqv6]
  exact knx _
end
end Nr
end
set_option maxHeartbeats 8000000
section
/-! NrLaw: the law. -/
namespace Nr
open PySem PySem.Spec PyProof.Rows L2 LamX NdefX
def spLaw (K : PySem.W.Frag) (T : List (Addr × Str)) : Sp := fun vs H Q _ => ∃ (a : Addr) (ns : List Int), vs = [.ref a] ∧ SqL K H a (ns.map V.int) ∧ ns.length ≤ 63 ∧ Tabs T H ∧ ∀ H', Q (.bl true) H'
theorem dueA : (1 : Nat) + 30 * (Txt.split "(" " ").length = 31 := by decide +kernel
theorem dueB : (1 : Nat) + 30 * (Txt.split "[ relations" " ").length = 61 := by decide +kernel
theorem szA (m : Nat) (hm : m = 30 ∨ m = 31) : ((deepA m).map (·.length)).sum + (deepA m).length ≤ 10000 := by
  rcases hm with rfl | rfl <;> decide +kernel
theorem szB (m : Nat) (hm : m = 30 ∨ m = 31) : ((deepB m).map (·.length)).sum + (deepB m).length ≤ 10000 := by
  rcases hm with rfl | rfl <;> decide +kernel
theorem zA {m : Nat} (hm : m = 30 ∨ m = 31) : ZOk (Txt.join " " (deepA m)) ∧ ((m : Int) = 30 ∧ endB (Txt.join " " (deepA m)) = none ∨ (m : Int) = 31 ∧ endB (Txt.join " " (deepA m)) = some (0, 31)) := by
  rcases hm with h | h
  · rw [h]; exact ⟨zA30.1, .inl ⟨rfl, zA30.2⟩⟩
  · rw [h]; exact ⟨zA31.1, .inr ⟨rfl, zA31.2⟩⟩
theorem zB_ {m : Nat} (hm : m = 30 ∨ m = 31) : ZOk (Txt.join " " (deepB m)) ∧ ((m : Int) = 30 ∧ endB (Txt.join " " (deepB m)) = none ∨ (m : Int) = 31 ∧ endB (Txt.join " " (deepB m)) = some (0, 61)) := by
  rcases hm with h | h
  · rw [h]; exact ⟨zB30.1, .inl ⟨rfl, zB30.2⟩⟩
  · rw [h]; exact ⟨zB31.1, .inr ⟨rfl, zB31.2⟩⟩
theorem wsA (m : Nat) : deepA m = (([("relations" : Str)] ++ (List.replicate ((m : Nat) : Int).toNat [("(" : Str)]).flatten ++ ([] : List Str)) ++ (List.replicate ((m : Nat) : Int).toNat [(")" : Str)]).flatten) := by
  rw [Int.toNat_natCast, deepA]
theorem wsB (m : Nat) : deepB m = (([("relations" : Str)] ++ (List.replicate ((m : Nat) : Int).toNat [("[ relations" : Str)]).flatten ++ [("0" : Str)]) ++ (List.replicate ((m : Nat) : Int).toNat [("]" : Str)]).flatten) := by
  rw [Int.toNat_natCast, deepB]
section
variable {P : Program} {w : World} {K : PySem.W.Frag} {mg : Str → Option Value} {base : Heap} {cl : Str → Addr} {CB Pl cL : Addr} {T : List (Addr × Str)}
theorem ok_law (F : LawF P w K mg base cl CB T Pl cL) {f : Addr} {fd : FuncData} (FL : Fun K "law" "law" sLaw f fd) (hcode : fd.code = .ref cL) : FnOk P w K mg base CX0 116 f fd ["script"] (spLaw K T) := by
  have nd := scLaw.nd
  have G := F.G
  obtain ⟨fP, dP, FP, OP, bP, mP⟩ := F.pen
  obtain ⟨oc, od, kV, doc, pm, an, cdv, ct, osl, rfl, lk, hcd⟩ := FL.ex
  obtain rfl : cdv = .ref cL := hcode
  refine fn_of lk hcd scLaw (fun vs H Q E h => ?_) (fun A outer s H vs Q E hr h => ?_)
  · obtain ⟨_, _, rfl, _⟩ := h
    rfl
  · obtain ⟨a, ns, rfl, ha, hn, ht, k⟩ := h
    obtain ⟨tT, hT, turnR⟩ := turn_ok F f A outer s H E hr
    obtain ⟨tD, hD, deepR⟩ := deep_ok F f A outer s H E hr
    obtain ⟨tF, hF, finR⟩ := fin_ok F f A outer s H E hr
    refine nox_ex ⟨_, pss_cons (ps_set (i := 1) nd rfl (.inl rfl) (pe_call OP (hr.mono (by decide)) rfl mP FP.kp bP .nil pass0 (pa_cons (pv 0) pa_nil)))
      (pss_cons (ps_for PassesOwn.never rfl (pi_range1 (by rfl) (G.f "range" (by decide +kernel)) (pa_cons pe_int pa_nil)) (pg_name (i := 2) nd rfl (Or.inl rfl)) hT)
      (pss_cons (ps_for PassesOwn.never rfl (pi_tup (pe_tup (pa_cons pe_int (pa_cons pe_int pa_nil)))) (pg_name (i := 11) nd rfl (Or.inl rfl))
        (pss_one (ps_for PassesOwn.never rfl (pi_tup (pe_tup (pa_cons (pe_tup (pa_cons pe_str (pa_cons pe_str pa_nil))) (pa_cons (pe_tup (pa_cons pe_str (pa_cons pe_str pa_nil))) pa_nil)))) (pg_tup (by rfl) (pgs_cons (pg_name (i := 12) nd rfl (Or.inl rfl)) (pgs_cons (pg_name (i := 13) nd rfl (Or.inl rfl)) pgs_nil))) hD))) hF)), ?_⟩
    refine ⟨_, rfl, a, ns, rfl, ha, hn, fun p c cs H1 s1 np hp => ?_⟩
    refine ⟨10, rfl, by decide, by decide, for_range (n := 10) (fun i σ Hx => ∃ (y2 y3 y4 y5 y6 y7 y8 y9 y10 y11 y12 y13 y14 y15 y16 y17 : Option V), σ = [some (.ref a), some (.ref p), y2, y3, y4, y5, y6, y7, y8, y9, y10, y11, y12, y13, y14, y15, y16, y17] ∧ PenAt Hx p c cs (100 * i) ∧ Tabs T Hx)
      ⟨_, _, _, _, _, _, _, _, _, _, _, _, _, _, _, _, rfl, hp, ht.ext s1⟩ (fun i σ Hx hi hP => ?_) (fun σ Hx hP => ?_)⟩
    · obtain ⟨y2, y3, y4, y5, y6, y7, y8, y9, y10, y11, y12, y13, y14, y15, y16, y17, rfl, px, tx⟩ := hP
      exact turnR _ Hx p c cs (100 * i) _ _ _ _ _ _ _ _ _ _ _ _ _ _ _ _ _ px (by omega) tx fun H' z3 z4 z5 z6 z7 z8 z9 z10 oy py ty => ⟨_, _, _, _, _, _, _, _, _, _, _, _, _, _, _, _, rfl, py.mono (by omega), ty⟩
    obtain ⟨y2, y3, y4, y5, y6, y7, y8, y9, y10, y11, y12, y13, y14, y15, y16, y17, rfl, px, tx⟩ := hP
    refine ⟨(show 2 ≤ sizeLine by decide), fun t1 ht1 => ?_⟩
    have s2 := same_new (o := .tup [.int 30, .int 31]) (Same.refl Hx) ht1
    have e1 : upd Hx t1 (.tup [.int 30, .int 31]) t1 = some (.tup [.int 30, .int 31]) := upd_same
    have p2 := px.ext (ExtN.of s2)
    have t2 := tx.ext s2
    generalize upd Hx t1 (.tup [.int 30, .int 31]) = H2 at s2 e1 p2 t2 ⊢
    have n1 : t1 ≠ p := fun z => by
      obtain ⟨_, q⟩ := p2.lst
      rw [z, q] at e1
      cases e1
    refine ⟨t1, rfl, ⟨_, SqT.of e1⟩, for_tup (xs := [.int 30, .int 31]) (fun i σ Hx => ∃ (y2 y3 y4 y5 y6 y7 y8 y9 y10 y11 y12 y13 y14 y15 y16 y17 : Option V), σ = [some (.ref a), some (.ref p), y2, y3, y4, y5, y6, y7, y8, y9, y10, y11, y12, y13, y14, y15, y16, y17] ∧ PenAt Hx p c cs 1000 ∧ Tabs T Hx ∧ Hx t1 = some (.tup [.int 30, .int 31]))
      ⟨_, _, _, _, _, _, _, _, _, _, _, _, _, _, _, _, rfl, p2, t2, e1⟩ (fun i σ Hx hi hP => ?_) (fun i x σ Hx hx hP => ?_) (fun σ Hx hP => ?_)⟩
    · obtain ⟨_, _, _, _, _, _, _, _, _, _, _, _, _, _, _, _, _, _, _, h⟩ := hP
      exact SqT.of h
    · obtain ⟨y2, y3, y4, y5, y6, y7, y8, y9, y10, y11, y12, y13, y14, y15, y16, y17, rfl, p3, t3, e3⟩ := hP
      obtain ⟨m, hm, rfl⟩ : ∃ m : Nat, (m = 30 ∨ m = 31) ∧ x = .int (m : Int) := by
        match i, hx with
        | 0, hx =>
          cases hx
          exact ⟨30, .inl rfl, rfl⟩
        | 1, hx =>
          cases hx
          exact ⟨31, .inr rfl, rfl⟩
      refine ⟨(show 2 ≤ sizeLine by decide), fun u1 hu1 => ⟨(show 2 ≤ sizeLine by decide), fun u2 hu2 => ⟨(show 2 ≤ sizeLine by decide), fun u3 hu3 => ?_⟩⟩⟩
      have sa := same_new (o := .tup [.str "(", .str ")"]) (Same.refl Hx) hu1
      have sb := same_new (o := .tup [.str "[ relations", .str "]"]) (Same.refl _) hu2
      have sc := same_new (o := .tup [.ref u1, .ref u2]) (Same.refl _) hu3
      have s4 := sa.trans (sb.trans sc)
      have g1 := sc _ _ (sb _ _ (show upd Hx u1 (.tup [.str "(", .str ")"]) u1 = some (.tup [.str "(", .str ")"]) from upd_same))
      have g2 := sc _ _ (show upd (upd Hx u1 (.tup [.str "(", .str ")"])) u2 (.tup [.str "[ relations", .str "]"]) u2 = some (.tup [.str "[ relations", .str "]"]) from upd_same)
      have g3 : upd (upd (upd Hx u1 (.tup [.str "(", .str ")"])) u2 (.tup [.str "[ relations", .str "]"])) u3 (.tup [.ref u1, .ref u2]) u3 = some (.tup [.ref u1, .ref u2]) := upd_same
      generalize upd (upd (upd Hx u1 (.tup [.str "(", .str ")"])) u2 (.tup [.str "[ relations", .str "]"])) u3 (.tup [.ref u1, .ref u2]) = H4 at s4 g1 g2 g3 ⊢
      have p4 := p3.ext (ExtN.of s4)
      have t4 := t3.ext s4
      have e4 := s4 _ _ e3
      have ne : ∀ {u : Addr} {xs : List V}, H4 u = some (.tup xs) → u ≠ p := fun h z => by
        obtain ⟨_, q⟩ := p4.lst
        rw [z, q] at h
        cases h
      have no : ∀ {xs : List V} (ps : Array Value), (HO.tup xs) ≠ HO.tbl ps := fun _ z => nomatch z
      refine ⟨u3, rfl, ⟨_, SqT.of g3⟩, for_tup (xs := [.ref u1, .ref u2]) (fun j σ Hy => ∃ (y2 y3 y4 y5 y6 y7 y8 y9 y10 y12 y13 y14 y15 y16 y17 : Option V), σ = [some (.ref a), some (.ref p), y2, y3, y4, y5, y6, y7, y8, y9, y10, some (.int (m : Int)), y12, y13, y14, y15, y16, y17] ∧ OffN p H4 Hy ∧ PenAt Hy p c cs 1000 ∧ Tabs T Hy)
        ⟨_, _, _, _, _, _, _, _, _, _, _, _, _, _, _, rfl, OffN.ofX (ExtN.refl _), p4, t4⟩ (fun j σ Hy hj hP => ?_) (fun j x σ Hy hx hP => ?_) (fun σ Hy hP => ?_)⟩
      · obtain ⟨_, _, _, _, _, _, _, _, _, _, _, _, _, _, _, _, o, _, _⟩ := hP
        exact SqT.of (o _ _ (ne g3) g3 no)
      · obtain ⟨y2, y3, y4, y5, y6, y7, y8, y9, y10, y12, y13, y14, y15, y16, y17, rfl, o5, p5, t5⟩ := hP
        match j, hx with
        | 0, hx =>
          cases hx
          refine ⟨u1, _, rfl, SqT.of (o5 _ _ (ne g1) g1 no), rfl, _, _, rfl, _, _, rfl, rfl, ?_⟩
          exact deepR _ Hy p c cs 1000 (m : Int) "(" ")" [] (deepA m) 31 _ _ _ _ _ _ _ _ _ _ _ _ _ _ p5 t5 (.inl ⟨rfl, rfl⟩) (by omega) (wsA m) (zA hm).1 (szA m hm) (by decide +kernel) dueA.symm
            (zA hm).2 fun H' y10 y14 y15 y16 o6 p6 t6 => ⟨_, _, _, _, _, _, _, _, _, _, _, _, _, _, _, rfl, o5.trans o6, p6, t6⟩
        | 1, hx =>
          cases hx
          refine ⟨u2, _, rfl, SqT.of (o5 _ _ (ne g2) g2 no), rfl, _, _, rfl, _, _, rfl, rfl, ?_⟩
          exact deepR _ Hy p c cs 1000 (m : Int) "[ relations" "]" [("0" : Str)] (deepB m) 61 _ _ _ _ _ _ _ _ _ _ _ _ _ _ p5 t5 (.inr ⟨by decide +kernel, rfl⟩) (by omega) (wsB m) (zB_ hm).1 (szB m hm) (by decide +kernel) dueB.symm
            (zB_ hm).2 fun H' y10 y14 y15 y16 o6 p6 t6 => ⟨_, _, _, _, _, _, _, _, _, _, _, _, _, _, _, rfl, o5.trans o6, p6, t6⟩
      · obtain ⟨y2, y3, y4, y5, y6, y7, y8, y9, y10, y12, y13, y14, y15, y16, y17, rfl, o5, p5, t5⟩ := hP
        exact ⟨_, _, _, _, _, _, _, _, _, _, _, _, _, _, _, _, rfl, p5, t5, o5 _ _ (ne e4) e4 no⟩
    · obtain ⟨y2, y3, y4, y5, y6, y7, y8, y9, y10, y11, y12, y13, y14, y15, y16, y17, rfl, p3, t3, e3⟩ := hP
      exact finR _ Hx p c cs 1000 _ _ _ _ _ _ _ _ _ _ _ _ _ _ _ _ _ p3 (by omega) t3 k
end
end Nr
end
set_option maxHeartbeats 4000000
section
/-! NrFacts: what the head tells, as the walk wants it. -/
namespace Nr
open PySem PySem.Spec PyProof.Rows L2 LamX NdefX He
theorem many_papers {w : Str} (h : (many w).isSome = true) : ∃ p, p ∈ papers ∧ p.1 = w ∧ nmOf w = p.2.1 := by
  obtain ⟨j, hj⟩ := Option.isSome_iff_exists.mp h
  have hm := many_mem.mpr ⟨j, hj⟩
  have key : ∀ x ∈ papers, nmOf x.1 = x.2.1 := by decide +kernel
  have all : ∀ x ∈ manyKs, x ∈ papers.map (·.1) := by decide +kernel
  have hm2 := all w (many_mem.mpr ⟨j, hj⟩)
  obtain ⟨p, hp, e⟩ := List.mem_map.mp hm2
  exact ⟨p, hp, e, by rw [← e]; exact key p hp⟩
theorem fun_of {K : PySem.W.Frag} {x qual : Str} {st : Stmt} {f : Addr} {fd : FuncData} (F : FunD K x qual (defArgs st) (defBody st) (defScope st) [] [] f fd) : L2.Fun K x qual st f fd := by
  obtain ⟨oc, od, dV, kV, doc, pm, an, cdv, ct, osl, rfl, lk, hc, hD, hK⟩ := F.ex
  rcases hD with ⟨_, rfl⟩ | ⟨e, _⟩
  · exact ⟨⟨oc, od, kV, doc, pm, an, cdv, ct, osl, rfl, lk, hc⟩, F.kp⟩
  · exact absurd rfl e
abbrev Pg : Program := PySem.Challenge.rw_nearatonce_k89_texts_of_papers_bent.prog
structure ExN (K : PySem.W.Frag) : Prop where
  pap : ∀ p ∈ papers, PapB K (ga K p.2.1)
  np : ∀ t ∈ papNs, PySem.W.kitOne K (.type t) (.ref (ga K "Paper")) = some false
  pTy : PySem.W.typeIn K (.ref (ma K (ga K "Paper") "__init__")) = some (.type "function")
  pFn : PySem.W.fnIn K (ma K (ga K "Paper") "__init__") = true
  any : PySem.W.nsIn K cStatics "thirdparty.any" = some none
  gets : PySem.W.specialIn K (.builtin "object.__class__") "__get__" = some (some (.builtin "getset_descriptor.__get__"))
  takes : PySem.W.takesIn K (.builtin "object.__class__") = some true
  ini : ∀ d ∈ initsN, d.ok K R.prog.main.file = true
  oex : oexB K (ga K "BadText") = true
  exc : ExcC K (ga K "BadText")
  xf : XfC K (ga K "BadText")
  sa : PySem.W.findIn K (.ref (ga K "BadText")) "__setattr__" = some (some (.builtin "object.__setattr__"))
  tyB : PySem.W.typeIn K (.ref (ga K "BadText")) = some (.type "type")
  kpB : PySem.W.keepIn K (.ref (ga K "BadText")) = true
  fB : PySem.W.ks_superIn K (ga K "BadText") (ga K "BadText") "__init__" = some (some (.builtin "ValueError.__init__"))
  veB : PySem.W.mroIn K (ga K "BadText") (.type "ValueError") = some true
  clB : ∃ cd, PySem.W.clsIn K (ga K "BadText") = some cd
  suB : PySem.W.mroIn K (ga K "BadText") (.ref (ga K "BadText")) = some true
  inB : PySem.W.findIn K (.ref (ga K "BadText")) "__init__" = some (some (.ref (ma K (ga K "BadText") "__init__")))
  tiB : PySem.W.typeIn K (.ref (ma K (ga K "BadText") "__init__")) = some (.type "function")
  kTM : PySem.W.kitOne K (.ref (ga K "BadText")) (.ref (ga K "TooMany")) = some false
  kBT : PySem.W.kitOne K (.ref (ga K "BadText")) (.ref (ga K "BadText")) = some true
  tru : tupB K "TRUTHS" [.str "no", .str "yes"] = true
  vals : valsB K (ga K "MANY") (manyKs.map fun k => (k, Dv.int (((many k).getD 0 : Nat) : Int))) = true
  keys : (match K.lookup (ga K "MANY") with
    | some ⟨_, _, .dict es _, _⟩ => keyTxtsB es.toList manyKs
    | _ => false) = true
  nod : (tfN.map fun p => (cT K p).2).Nodup
theorem exN_ok {K : PySem.W.Frag} (h : exN K = true) : ExN K := by
  unfold exN at h
  obtain ⟨h1, h⟩ := ba h
  obtain ⟨h2, h⟩ := ba h
  obtain ⟨h3, h⟩ := ba h
  obtain ⟨h4, h⟩ := ba h
  obtain ⟨h5, h⟩ := ba h
  obtain ⟨h6, h⟩ := ba h
  obtain ⟨h7, h⟩ := ba h
  obtain ⟨h8, h⟩ := ba h
  obtain ⟨h9, h⟩ := ba h
  obtain ⟨hA, h⟩ := ba h
  obtain ⟨hB, h⟩ := ba h
  obtain ⟨hC, h⟩ := ba h
  obtain ⟨hD, h⟩ := ba h
  obtain ⟨hE, h⟩ := ba h
  obtain ⟨hF, h⟩ := ba h
  obtain ⟨hG, h⟩ := ba h
  obtain ⟨hH, h⟩ := ba h
  obtain ⟨hI, h⟩ := ba h
  obtain ⟨hJ, h⟩ := ba h
  obtain ⟨hK, h⟩ := ba h
  obtain ⟨hL, h⟩ := ba h
  obtain ⟨hM, h⟩ := ba h
  obtain ⟨hN, h⟩ := ba h
  obtain ⟨hO, hP⟩ := ba h
  obtain ⟨h31, h32⟩ := ba (show (decide (PySem.W.typeIn K (.ref (ma K (ga K "Paper") "__init__")) = some (.type "function")) && PySem.W.fnIn K (ma K (ga K "Paper") "__init__")) = true from h3)
  exact ⟨fun p hp => papB_ok (List.all_eq_true.mp h1 p hp), fun t ht => of_decide_eq_true (List.all_eq_true.mp h2 t ht), of_decide_eq_true h31, h32, of_decide_eq_true h4, of_decide_eq_true h5, of_decide_eq_true h6, fun d hd => List.all_eq_true.mp h7 d hd, h8, exB2_ok h9, xfB_ok hA, of_decide_eq_true hB, of_decide_eq_true hC, hD,
    of_decide_eq_true hE, of_decide_eq_true hF, Option.isSome_iff_exists.mp hG, of_decide_eq_true hH, eqO_ok hI, of_decide_eq_true hJ, of_decide_eq_true hK, of_decide_eq_true hL, hM, hN, hO, of_decide_eq_true hP⟩
section
variable {w : World} {h : Heap} {K : PySem.W.Frag} {mg : Str → Option Value}
theorem SaysN.df (c : SaysN w h K) {p : Str × Stmt} (hp : p ∈ defsN) : ∃ fd, L2.Fun K p.1 p.1 p.2 (ga K p.1) fd := by
  obtain ⟨fd, F⟩ := SaysD.defs c.t.d (d := defN p) (List.mem_append_left _ (List.mem_map_of_mem hp))
  exact ⟨fd, fun_of F⟩
theorem SaysN.mt (c : SaysN w h K) {p : Str × (Str × Stmt)} (hp : p ∈ methsN) : ∃ fd, L2.Fun K p.2.1 (p.1 ++ "." ++ p.2.1) p.2.2 (ma K (ga K p.1) p.2.1) fd := by
  obtain ⟨fd, F⟩ := SaysD.defs c.t.d (d := methN p) (List.mem_append_right _ (List.mem_map_of_mem hp))
  exact ⟨fd, fun_of F⟩
theorem inFree {x : Str} (hx : x ∈ frees) : Fa.free x ∈ faN := List.mem_append_left _ (List.mem_map_of_mem hx)
theorem inDef {p : Str × Stmt} (hp : p ∈ defsN) : Fa.glo p.1 ∈ faN := List.mem_append_right _ (List.mem_append_right _ (List.mem_append_left _ (List.mem_map.mpr ⟨p, hp, rfl⟩)))
theorem inGlo {x : Str} (hx : x ∈ (["MANY", "TRUTHS", "Paper", "Line", "BadText", "NearError", "TooMany"] : List Str)) : Fa.glo x ∈ faN := List.mem_append_right _ (List.mem_append_right _ (List.mem_append_right _ (List.mem_append_left _ (List.mem_map_of_mem hx))))
theorem inPap {p : Str × (Str × List Str)} (hp : p ∈ papers) {f : Fa} (hf : f ∈ [Fa.glo p.2.1, .cls p.2.1, .mkr p.2.1, .noat p.2.1 "word", .noat p.2.1 "parts"] ++ p.2.2.map (Fa.noat p.2.1)) : f ∈ faN :=
  List.mem_append_right _ (List.mem_append_right _ (List.mem_append_right _ (List.mem_append_right _ (List.mem_append_left _ (List.mem_flatMap.mpr ⟨p, hp, hf⟩)))))
theorem inLine {f : Fa} (hf : f ∈ ([.cls "Line", .mkr "Line", .noat "Line" "number", .noat "Line" "words", .noat "Line" "at", .noat "BadText" "line", .noat "BadText" "word", .exm "BadText" "NearError" true] ++ (["refuse", "ahead", "take", "one_of", "end"] : List Str).map (Fa.meth "Line") : List Fa)) : f ∈ faN :=
  List.mem_append_right _ (List.mem_append_right _ (List.mem_append_right _ (List.mem_append_right _ (List.mem_append_right _ hf))))
theorem inCon {f : Fa} (hf : f ∈ ([.str "OPEN" "(", .str "CLOSE" ")", .str "BEGIN" "[", .str "END" "]", .str "NONE" "none", .str "DIGITS" "0123456789", .int "MOST_DEEP" 30, .int "MOST_DIGITS" 40, .int "MOST_SIGNS" 200000, .int "GREAT" (10 ^ 40)] : List Fa)) : f ∈ faN :=
  List.mem_append_right _ (List.mem_append_left _ hf)
theorem at_ {α : Type} {l : List α} (i : Nat) {x : α} (h : l[i]? = some x) : x ∈ l := List.mem_of_getElem? h
theorem SaysN.fa (c : SaysN w h K) {f : Fa} (hf : f ∈ faN) : f.ok K = true := SaysD.facts c.t.d hf
theorem SaysN.gf (c : SaysN w h K) (X : K.In h) (G : h.Ns mainGlobals mg) : GF mg := ⟨fun x hx => free_ok X G (c.fa (inFree hx))⟩
theorem SaysN.gdef (c : SaysN w h K) (X : K.In h) (G : h.Ns mainGlobals mg) {p : Str × Stmt} (hp : p ∈ defsN) : mg p.1 = some (.ref (ga K p.1)) := glo_ok X G (c.fa (inDef hp))
theorem SaysN.gn (c : SaysN w h K) (X : K.In h) (G : h.Ns mainGlobals mg) : GN K mg (ga K "TRUTHS") :=
  ⟨str_ok X G (c.fa (inCon (at_ 0 rfl))), str_ok X G (c.fa (inCon (at_ 1 rfl))), str_ok X G (c.fa (inCon (at_ 2 rfl))), str_ok X G (c.fa (inCon (at_ 3 rfl))), str_ok X G (c.fa (inCon (at_ 4 rfl))), int_ok X G (c.fa (inCon (at_ 6 rfl))), glo_ok X G (c.fa (inGlo (at_ 1 rfl))),
    fun H => tupB_ok (exN_ok c.more).tru H⟩
theorem SaysN.gm (c : SaysN w h K) (X : K.In h) (G : h.Ns mainGlobals mg) : GM K w mg (ga K "MANY") := by
  have ex := exN_ok c.more
  obtain ⟨es, n, D⟩ := c.t.tab 0 (t := (fun K => ga K "MANY", manyKs)) rfl
  have D : KDict K w (ga K "MANY") es n := D
  have hk := ex.keys
  rw [D.at_] at hk
  refine ⟨glo_ok X G (c.fa (inGlo (at_ 0 rfl))), ⟨es, n, D, hk⟩, fun wd j hj => ?_⟩
  obtain ⟨u, e, r⟩ := valsB_ok ex.vals (List.mem_map.mpr ⟨wd, many_mem.mpr ⟨j, hj⟩, rfl⟩)
  refine ⟨es, n, u, D.at_, D.lit, e, ?_⟩
  rw [hj] at r
  exact r
/-! ### the papers -/
theorem cl_of {w0 nm : Str} (hn : nmOf w0 = nm) : clK K w0 = ga K nm := congrArg (ga K) hn
theorem SaysN.papc (c : SaysN w h K) {w0 : Str} (hw : (many w0).isSome = true) : ∃ p, p ∈ papers ∧ clK K w0 = ga K p.2.1 := by
  obtain ⟨p, hp, _, e⟩ := many_papers hw
  exact ⟨p, hp, cl_of e⟩
theorem SaysN.pap (c : SaysN w h K) : Pap K (ga K "Paper") (clK K) := by
  have ex := exN_ok c.more
  refine ⟨fun w0 hw H a dx fs e => ?_, fun w0 hw t ht => ?_, fun w0 hw => ?_, fun t ht => ex.np t ht⟩
  · obtain ⟨p, hp, q⟩ := c.papc hw
    rw [q] at e ⊢
    have b := ex.pap p hp
    exact .ins e (cls_ok (c.fa (inPap hp (at_ 1 rfl)))) b.ca ex.gets ex.takes b.ob
  · obtain ⟨p, hp, q⟩ := c.papc hw
    rw [q]
    exact (ex.pap p hp).nt t ht
  · obtain ⟨p, hp, q⟩ := c.papc hw
    rw [q]
    exact (ex.pap p hp).pp
theorem SaysN.papm (c : SaysN w h K) (X : K.In h) (G : h.Ns mainGlobals mg) : PapM mg K (ga K "Paper") (clK K) := by
  refine ⟨glo_ok X G (c.fa (inGlo (at_ 2 rfl))), .own _, fun w0 hw => ?_, fun w0 hw => ?_, fun w0 hw => ?_⟩
  · obtain ⟨p, hp, q⟩ := c.papc hw
    rw [q]
    exact cls_ok (c.fa (inPap hp (at_ 1 rfl)))
  · obtain ⟨p, hp, q⟩ := c.papc hw
    rw [q]
    exact noat_ok (c.fa (inPap hp (at_ 3 rfl)))
  · obtain ⟨p, hp, q⟩ := c.papc hw
    rw [q]
    exact noat_ok (c.fa (inPap hp (at_ 4 rfl)))
def argB (d : InitD) : Bool := (match ((defArgs d.st).posonlyargs ++ (defArgs d.st).args).head? with
  | some ar => decide (ar.arg = "self")
  | none => false) && (decide ((defScope d.st).names.lookup ("super" : Str) = some .globalImplicit) && (decide ((defScope d.st).names.lookup ("__class__" : Str) = some .free) && decide ((defScope d.st).names.lookup ("self" : Str) = some .local)))
theorem args_ok : initsN.all argB = true := by decide +kernel
theorem sup_of {d : InitD} {C cda cc : Addr} (hd : d ∈ initsN) (ns : mg "super" = none) (any : PySem.W.nsIn K cStatics "thirdparty.any" = some none) (code : ∃ a b vs c f tf, K.lookup cda = some ⟨a, b, .fields vs, c⟩ ∧ vs[2]? = some (.str f tf) ∧ (R.prog.main.file == f) = true) (cell : ∃ a b c, K.lookup cc = some ⟨a, b, .cell (some (.ref C)), c⟩)
    (cl : ∃ cd, PySem.W.clsIn K C = some cd) (sub : PySem.W.mroIn K C (.ref C) = some true) : SupF Pg K mg (defArgs d.st) (defScope d.st) "__init__" "self" C C cda cc := by
  obtain ⟨h1, h2⟩ := ba (List.all_eq_true.mp args_ok d hd)
  obtain ⟨h3, h4⟩ := ba h2
  obtain ⟨h5, h6⟩ := ba h4
  refine ⟨?_, code, cell, cl, cl, sub, ns, by decide +kernel, any, by decide, of_decide_eq_true h3, of_decide_eq_true h5, of_decide_eq_true h6⟩
  cases e : ((defArgs d.st).posonlyargs ++ (defArgs d.st).args).head? with
  | none => rw [e] at h1; cases h1
  | some ar =>
    rw [e] at h1
    exact ⟨ar, rfl, of_decide_eq_true h1⟩
theorem SaysN.cls (c : SaysN w h K) (X : K.In h) (G : h.Ns mainGlobals mg) {p : Str × (Str × List Str)} {st : Stmt} {q : Str} (hp : p ∈ papers) (hd : (⟨p.2.1, st⟩ : InitD) ∈ initsN) (hn : nmOf p.1 = p.2.1) (hq : p.2.1 ++ ".__init__" = q) :
    ∃ (kV doc pm : Value) (an : Option Addr) (cdv ct : Value) (cl : List (Str × Addr)), ClsI Pg K mg st q (clK K p.1) (ma K (ga K "Paper") "__init__") (ma K (clK K p.1) "__init__") (PySem.W.fnX "__init__" q (defArgs st) (defBody st) (defScope st) cl .none kV doc pm an cdv ct) ∧
      (∀ a ∈ p.2.2, NoAttr K (clK K p.1) a) ∧ Mk K (clK K p.1) (ma K (clK K p.1) "__init__") ∧ mg p.2.1 = some (.ref (clK K p.1)) := by
  have ex := exN_ok c.more
  have b := ex.pap p hp
  rw [cl_of hn]
  obtain ⟨cda, cc, oc, cellc, kV, doc, pm, ct, an, od, celld, osl, cells, fd, rfl, lk, hcd, hcc, hcode⟩ := InitD.get (c.i _ hd) (ex.ini _ hd)
  have hq' : InitD.qual ⟨p.2.1, st⟩ = q := hq
  rw [hq'] at lk hcd
  refine ⟨kV, doc, pm, an, .ref cda, ct, [("__class__", cc)], ⟨⟨cda, cc, oc, cellc, .none, kV, doc, pm, ct, an, od, celld, osl, cells, _, rfl, lk, hcd, hcc, sup_of hd ((c.gf X G).f _ (by decide +kernel)) ex.any hcode ⟨_, _, _, hcc⟩ b.cls b.sub⟩, b.find, ex.pTy, ex.pFn, cls_ok (c.fa (inPap hp (at_ 1 rfl))), noat_ok (c.fa (inPap hp (at_ 3 rfl))), noat_ok (c.fa (inPap hp (at_ 4 rfl)))⟩,
    fun a ha => noat_ok (c.fa (inPap hp (List.mem_append_right _ (List.mem_map_of_mem ha)))), mkr_ok (c.fa (inPap hp (at_ 2 rfl))), glo_ok X G (c.fa (inPap hp (at_ 0 rfl)))⟩
end
end Nr
end
set_option maxHeartbeats 4000000
section
/-! NrFacts2: every def keeps its promise, over what the head tells (printed by genfacts.py). -/
namespace Nr
open PySem PySem.Spec PyProof.Rows L2 LamX NdefX He
section
variable {w : World} {h base : Heap} {K : PySem.W.Frag} {mg : Str → Option Value}
theorem SaysN.paperI (c : SaysN w h K) (X : K.In h) (G : h.Ns mainGlobals mg) (b : Nat) : FnR Pg w K mg base CX0 (b + 3) (ma K (ga K "Paper") "__init__") (fun vs H Q E => ∃ ws rest, vs = ws ++ rest ∧ ws.length = ["self", "word"].length ∧ rest.length ≤ sizeLine ∧ ∀ p, H p = Option.none → spPI (clK K) K b (ws ++ [V.ref p]) (upd H p (.tup rest)) Q E) := by
  obtain ⟨fd, F⟩ := c.mt (p := ("Paper", ("__init__", sPaperI))) (at_ 6 rfl)
  rw [show (("Paper" : Str) ++ "." ++ "__init__") = "Paper.__init__" by decide +kernel] at F
  obtain ⟨d0, F0⟩ := c.df (p := ("copied", sCopied)) (at_ 0 rfl)
  have m0 := c.gdef X G (p := ("copied", sCopied)) (at_ 0 rfl)
  exact ok_paperI c.pap F F0 (c.gf X G) (F0.binds fun _ _ _ _ _ _ us hl => match us, hl with | [_], _ => rfl) m0 b
theorem SaysN.mk_Reach (c : SaysN w h K) (X : K.In h) (G : h.Ns mainGlobals mg) (b : Nat) : MkC Pg w K mg base (clK K) b "Reach" "reach" ["factor", "point", "weights"] := by
  obtain ⟨kV, doc, pm, an, cdv, ct, cl, I, na, M, g⟩ := c.cls X G (p := ("reach", ("Reach", ["factor", "point", "weights"]))) (st := sReachI) (q := "Reach.__init__") (at_ 0 rfl) (at_ 0 rfl) (by decide +kernel) (by decide +kernel)
  exact ⟨_, _, M, ok_ReachI I (na _ (at_ 0 rfl)) (na _ (at_ 1 rfl)) (na _ (at_ 2 rfl)) (c.paperI X G b), .all (fun us hl => match us, hl with | [_, _, _, _], _ => rfl), g⟩
theorem SaysN.mk_Relations (c : SaysN w h K) (X : K.In h) (G : h.Ns mainGlobals mg) (b : Nat) : MkC Pg w K mg base (clK K) b "Relations" "relations" ["rows"] := by
  obtain ⟨kV, doc, pm, an, cdv, ct, cl, I, na, M, g⟩ := c.cls X G (p := ("relations", ("Relations", ["rows"]))) (st := sRelI) (q := "Relations.__init__") (at_ 1 rfl) (at_ 1 rfl) (by decide +kernel) (by decide +kernel)
  exact ⟨_, _, M, ok_relI I (na _ (at_ 0 rfl)) (c.paperI X G b), .all (fun us hl => match us, hl with | [_, _], _ => rfl), g⟩
theorem SaysN.mk_Nearness (c : SaysN w h K) (X : K.In h) (G : h.Ns mainGlobals mg) (b : Nat) : MkC Pg w K mg base (clK K) b "Nearness" "nearness" ["factor", "point", "rows", "tree"] := by
  obtain ⟨kV, doc, pm, an, cdv, ct, cl, I, na, M, g⟩ := c.cls X G (p := ("nearness", ("Nearness", ["factor", "point", "rows", "tree"]))) (st := sNearnessI) (q := "Nearness.__init__") (at_ 2 rfl) (at_ 2 rfl) (by decide +kernel) (by decide +kernel)
  exact ⟨_, _, M, ok_NearnessI I (na _ (at_ 0 rfl)) (na _ (at_ 1 rfl)) (na _ (at_ 2 rfl)) (na _ (at_ 3 rfl)) (c.paperI X G b), .all (fun us hl => match us, hl with | [_, _, _, _, _], _ => rfl), g⟩
theorem SaysN.mk_Classes (c : SaysN w h K) (X : K.In h) (G : h.Ns mainGlobals mg) (b : Nat) : MkC Pg w K mg base (clK K) b "Classes" "classes" ["number", "rows", "entries"] := by
  obtain ⟨kV, doc, pm, an, cdv, ct, cl, I, na, M, g⟩ := c.cls X G (p := ("classes", ("Classes", ["number", "rows", "entries"]))) (st := sClassesI) (q := "Classes.__init__") (at_ 3 rfl) (at_ 3 rfl) (by decide +kernel) (by decide +kernel)
  exact ⟨_, _, M, ok_ClassesI I (na _ (at_ 0 rfl)) (na _ (at_ 1 rfl)) (na _ (at_ 2 rfl)) (c.paperI X G b), .all (fun us hl => match us, hl with | [_, _, _, _], _ => rfl), g⟩
theorem SaysN.mk_Never (c : SaysN w h K) (X : K.In h) (G : h.Ns mainGlobals mg) (b : Nat) : MkC Pg w K mg base (clK K) b "Never" "never" ["rows", "tree"] := by
  obtain ⟨kV, doc, pm, an, cdv, ct, cl, I, na, M, g⟩ := c.cls X G (p := ("never", ("Never", ["rows", "tree"]))) (st := sNeverI) (q := "Never.__init__") (at_ 4 rfl) (at_ 4 rfl) (by decide +kernel) (by decide +kernel)
  exact ⟨_, _, M, ok_NeverI I (na _ (at_ 0 rfl)) (na _ (at_ 1 rfl)) (c.paperI X G b), .all (fun us hl => match us, hl with | [_, _, _], _ => rfl), g⟩
theorem SaysN.mk_Hinders (c : SaysN w h K) (X : K.In h) (G : h.Ns mainGlobals mg) (b : Nat) : MkC Pg w K mg base (clK K) b "Hinders" "hinders" ["least", "greatest"] := by
  obtain ⟨kV, doc, pm, an, cdv, ct, cl, I, na, M, g⟩ := c.cls X G (p := ("hinders", ("Hinders", ["least", "greatest"]))) (st := sHindersI) (q := "Hinders.__init__") (at_ 5 rfl) (at_ 5 rfl) (by decide +kernel) (by decide +kernel)
  exact ⟨_, _, M, ok_HindersI I (na _ (at_ 0 rfl)) (na _ (at_ 1 rfl)) (c.paperI X G b), .all (fun us hl => match us, hl with | [_, _, _], _ => rfl), g⟩
theorem SaysN.mk_Moment (c : SaysN w h K) (X : K.In h) (G : h.Ns mainGlobals mg) (b : Nat) : MkC Pg w K mg base (clK K) b "Moment" "moment" ["tick", "turns"] := by
  obtain ⟨kV, doc, pm, an, cdv, ct, cl, I, na, M, g⟩ := c.cls X G (p := ("moment", ("Moment", ["tick", "turns"]))) (st := sMomentI) (q := "Moment.__init__") (at_ 6 rfl) (at_ 6 rfl) (by decide +kernel) (by decide +kernel)
  exact ⟨_, _, M, ok_MomentI I (na _ (at_ 0 rfl)) (na _ (at_ 1 rfl)) (c.paperI X G b), .all (fun us hl => match us, hl with | [_, _, _], _ => rfl), g⟩
theorem SaysN.mk_Rounds (c : SaysN w h K) (X : K.In h) (G : h.Ns mainGlobals mg) (b : Nat) : MkC Pg w K mg base (clK K) b "Rounds" "rounds" ["period", "ticks"] := by
  obtain ⟨kV, doc, pm, an, cdv, ct, cl, I, na, M, g⟩ := c.cls X G (p := ("rounds", ("Rounds", ["period", "ticks"]))) (st := sRoundsI) (q := "Rounds.__init__") (at_ 7 rfl) (at_ 7 rfl) (by decide +kernel) (by decide +kernel)
  exact ⟨_, _, M, ok_RoundsI I (na _ (at_ 0 rfl)) (na _ (at_ 1 rfl)) (c.paperI X G b), .all (fun us hl => match us, hl with | [_, _, _], _ => rfl), g⟩
theorem SaysN.mk_Reached (c : SaysN w h K) (X : K.In h) (G : h.Ns mainGlobals mg) (b : Nat) : MkC Pg w K mg base (clK K) b "Reached" "reached" ["near", "number", "tick", "point"] := by
  obtain ⟨kV, doc, pm, an, cdv, ct, cl, I, na, M, g⟩ := c.cls X G (p := ("reached", ("Reached", ["near", "number", "tick", "point"]))) (st := sReachedI) (q := "Reached.__init__") (at_ 8 rfl) (at_ 8 rfl) (by decide +kernel) (by decide +kernel)
  exact ⟨_, _, M, ok_ReachedI I (na _ (at_ 0 rfl)) (na _ (at_ 1 rfl)) (na _ (at_ 2 rfl)) (na _ (at_ 3 rfl)) (c.paperI X G b), .all (fun us hl => match us, hl with | [_, _, _, _, _], _ => rfl), g⟩
theorem SaysN.mk_Unreached (c : SaysN w h K) (X : K.In h) (G : h.Ns mainGlobals mg) (b : Nat) : MkC Pg w K mg base (clK K) b "Unreached" "unreached" ["near", "number", "rows", "entries"] := by
  obtain ⟨kV, doc, pm, an, cdv, ct, cl, I, na, M, g⟩ := c.cls X G (p := ("unreached", ("Unreached", ["near", "number", "rows", "entries"]))) (st := sUnreachedI) (q := "Unreached.__init__") (at_ 9 rfl) (at_ 9 rfl) (by decide +kernel) (by decide +kernel)
  exact ⟨_, _, M, ok_UnreachedI I (na _ (at_ 0 rfl)) (na _ (at_ 1 rfl)) (na _ (at_ 2 rfl)) (na _ (at_ 3 rfl)) (c.paperI X G b), .all (fun us hl => match us, hl with | [_, _, _, _, _], _ => rfl), g⟩
theorem SaysN.mk_RealMoment (c : SaysN w h K) (X : K.In h) (G : h.Ns mainGlobals mg) (b : Nat) : MkC Pg w K mg base (clK K) b "RealMoment" "realmoment" ["time"] := by
  obtain ⟨kV, doc, pm, an, cdv, ct, cl, I, na, M, g⟩ := c.cls X G (p := ("realmoment", ("RealMoment", ["time"]))) (st := sRealMomentI) (q := "RealMoment.__init__") (at_ 10 rfl) (at_ 10 rfl) (by decide +kernel) (by decide +kernel)
  exact ⟨_, _, M, ok_RealMomentI I (na _ (at_ 0 rfl)) (c.paperI X G b), .all (fun us hl => match us, hl with | [_, _], _ => rfl), g⟩
theorem SaysN.mk_Records (c : SaysN w h K) (X : K.In h) (G : h.Ns mainGlobals mg) (b : Nat) : MkC Pg w K mg base (clK K) b "Records" "records" ["rows"] := by
  obtain ⟨kV, doc, pm, an, cdv, ct, cl, I, na, M, g⟩ := c.cls X G (p := ("records", ("Records", ["rows"]))) (st := sRecordsI) (q := "Records.__init__") (at_ 11 rfl) (at_ 11 rfl) (by decide +kernel) (by decide +kernel)
  exact ⟨_, _, M, ok_RecordsI I (na _ (at_ 0 rfl)) (c.paperI X G b), .all (fun us hl => match us, hl with | [_, _], _ => rfl), g⟩
theorem SaysN.mk_Smith (c : SaysN w h K) (X : K.In h) (G : h.Ns mainGlobals mg) (b : Nat) : MkC Pg w K mg base (clK K) b "Smith" "smith" ["left", "factors", "right"] := by
  obtain ⟨kV, doc, pm, an, cdv, ct, cl, I, na, M, g⟩ := c.cls X G (p := ("smith", ("Smith", ["left", "factors", "right"]))) (st := sSmithI) (q := "Smith.__init__") (at_ 12 rfl) (at_ 12 rfl) (by decide +kernel) (by decide +kernel)
  exact ⟨_, _, M, ok_SmithI I (na _ (at_ 0 rfl)) (na _ (at_ 1 rfl)) (na _ (at_ 2 rfl)) (c.paperI X G b), .all (fun us hl => match us, hl with | [_, _, _, _], _ => rfl), g⟩
theorem SaysN.err (c : SaysN w h K) (X : K.In h) (G : h.Ns mainGlobals mg) : ∃ fI fdI, ErrI Pg K mg (ga K "BadText") fI fdI := by
  have ex := exN_ok c.more
  have hd : (⟨"BadText", sBTI⟩ : InitD) ∈ initsN := at_ 13 rfl
  obtain ⟨cda, cc, oc, cellc, kV, doc, pm, ct, an, od, celld, osl, cells, fd, rfl, lk, hcd, hcc, hcode⟩ := InitD.get (c.i _ hd) (ex.ini _ hd)
  have hq : InitD.qual ⟨"BadText", sBTI⟩ = "BadText.__init__" := by decide +kernel
  rw [hq] at lk hcd
  exact ⟨ma K (ga K "BadText") "__init__", _, ⟨cda, cc, oc, cellc, .none, kV, doc, pm, ct, an, od, celld, osl, cells, _, rfl, lk, hcd, hcc, sup_of hd ((c.gf X G).f _ (by decide +kernel)) ex.any hcode ⟨_, _, _, hcc⟩ ex.clB ex.suB⟩, ex.fB, ex.veB, ⟨oexB_ok ex.oex, ex.sa, ex.xf.exC, ex.tyB, ex.kpB⟩,
    noat_ok (c.fa (inLine (at_ 5 rfl))), noat_ok (c.fa (inLine (at_ 6 rfl))), .all (fun us hl => match us, hl with | [_, _, _], _ => rfl), glo_ok X G (c.fa (inGlo (at_ 4 rfl))), ex.inB, ex.tiB⟩
theorem SaysN.heardc (c : SaysN w h K) (X : K.In h) (G : h.Ns mainGlobals mg) : HeardC K mg (ga K "BadText") := by
  have ex := exN_ok c.more
  exact ⟨⟨_, glo_ok X G (c.fa (inGlo (at_ 5 rfl))), exm_ok (c.fa (inLine (at_ 7 rfl)))⟩, ⟨_, glo_ok X G (c.fa (inGlo (at_ 6 rfl))), ex.kTM⟩, ex.kBT, ex.xf, ex.exc⟩
def pOne : Defn := ("Line", some "one_of")
def pVal : Defn := ("read_value", none)
def pLaw : Defn := ("law", none)
def TN (K : PySem.W.Frag) : List (Addr × Str) := [((cT K pOne).2, "Line.one_of.<locals>.<lambda>"), ((cT K pVal).2, "read_value.<locals>.<lambda>"), ((cT K pLaw).2, "law.<locals>.<lambda>")]
theorem code_of {x qual : Str} {st : Stmt} {p : Defn} {fd : FuncData} (F : L2.Fun K x qual st (fAd K p) fd) : fd.code = .ref (cT K p).1 := by
  obtain ⟨oc, od, kV, doc, pm, an, cdv, ct, osl, rfl, lk, hc⟩ := F.ex
  obtain ⟨c0, e⟩ := codeIn_ref hc
  subst e
  exact congrArg Value.ref (codeOf_eq lk rfl).symm
theorem SaysN.hu (c : SaysN w h K) : (∀ p ∈ TN K, p.1 = (cT K pOne).2 → p.2 = ("Line.one_of.<locals>.<lambda>" : Str)) ∧ (∀ p ∈ TN K, p.1 = (cT K pVal).2 → p.2 = ("read_value.<locals>.<lambda>" : Str)) ∧ (∀ p ∈ TN K, p.1 = (cT K pLaw).2 → p.2 = ("law.<locals>.<lambda>" : Str)) := by
  have n : ([(cT K pOne).2, (cT K pVal).2, (cT K pLaw).2] : List Addr).Nodup := (exN_ok c.more).nod
  have n1 : (cT K pOne).2 ≠ (cT K pVal).2 := fun e => by rw [e] at n; simp at n
  have n2 : (cT K pOne).2 ≠ (cT K pLaw).2 := fun e => by rw [e] at n; simp at n
  have n3 : (cT K pVal).2 ≠ (cT K pLaw).2 := fun e => by rw [e] at n; simp at n
  refine ⟨fun p hp e => ?_, fun p hp e => ?_, fun p hp e => ?_⟩
  all_goals
    simp only [TN, List.mem_cons, List.not_mem_nil, or_false] at hp
    rcases hp with rfl | rfl | rfl
  · rfl
  · exact absurd e.symm n1
  · exact absurd e.symm n2
  · exact absurd e n1
  · rfl
  · exact absurd e.symm n3
  · exact absurd e n2
  · exact absurd e n3
  · rfl
theorem SaysN.all (c : SaysN w h K) (X : K.In h) (G : h.Ns mainGlobals mg) : ∃ fd, (∀ (s : Shared) (u : Value), BindsTo s fd ⟨[u], []⟩ [("script", u)]) ∧ mg "law" = some (.ref (ga K "law")) ∧
    ∀ base : Heap, K.In base → base.Ns mainGlobals mg → (∀ p ∈ tfN.map (cT K), TabB base mg p.1 p.2) → FnOk Pg w K mg base CX0 116 (ga K "law") fd ["script"] (spLaw K (TN K)) := by
  have GF0 := c.gf X G
  have GN0 := c.gn X G
  have GM0 := c.gm X G
  have pap := c.pap
  have pm := c.papm X G
  obtain ⟨fI, dI, I⟩ := c.err X G
  obtain ⟨hu1, hu2, hu3⟩ := c.hu
  obtain ⟨dcopied, Fcopied⟩ := c.df (p := ("copied", sCopied)) (at_ 0 rfl)
  have mcopied : mg "copied" = some (.ref (ga K "copied")) := c.gdef X G (p := ("copied", sCopied)) (at_ 0 rfl)
  have Fcopied : L2.Fun K "copied" "copied" sCopied (ga K "copied") dcopied := Fcopied
  have bcopied : Binds K dcopied ["value"] [] := Fcopied.binds fun _ _ _ _ _ _ us hl => match us, hl with | [_], _ => rfl
  obtain ⟨disfigures, Fisfigures⟩ := c.df (p := ("is_figures", sFigs)) (at_ 1 rfl)
  have misfigures : mg "is_figures" = some (.ref (ga K "is_figures")) := c.gdef X G (p := ("is_figures", sFigs)) (at_ 1 rfl)
  have Fisfigures : L2.Fun K "is_figures" "is_figures" sFigs (ga K "is_figures") disfigures := Fisfigures
  have bisfigures : Binds K disfigures ["word"] [] := Fisfigures.binds fun _ _ _ _ _ _ us hl => match us, hl with | [_], _ => rfl
  obtain ⟨disintegerword, Fisintegerword⟩ := c.df (p := ("is_integer_word", sIntW)) (at_ 2 rfl)
  have misintegerword : mg "is_integer_word" = some (.ref (ga K "is_integer_word")) := c.gdef X G (p := ("is_integer_word", sIntW)) (at_ 2 rfl)
  have Fisintegerword : L2.Fun K "is_integer_word" "is_integer_word" sIntW (ga K "is_integer_word") disintegerword := Fisintegerword
  have bisintegerword : Binds K disintegerword ["word"] [] := Fisintegerword.binds fun _ _ _ _ _ _ us hl => match us, hl with | [_], _ => rfl
  obtain ⟨dlinesof, Flinesof⟩ := c.df (p := ("lines_of", sLines)) (at_ 3 rfl)
  have mlinesof : mg "lines_of" = some (.ref (ga K "lines_of")) := c.gdef X G (p := ("lines_of", sLines)) (at_ 3 rfl)
  have Flinesof : L2.Fun K "lines_of" "lines_of" sLines (ga K "lines_of") dlinesof := Flinesof
  have blinesof : Binds K dlinesof ["text"] [] := Flinesof.binds fun _ _ _ _ _ _ us hl => match us, hl with | [_], _ => rfl
  obtain ⟨dlastline, Flastline⟩ := c.df (p := ("last_line", sLast)) (at_ 4 rfl)
  have mlastline : mg "last_line" = some (.ref (ga K "last_line")) := c.gdef X G (p := ("last_line", sLast)) (at_ 4 rfl)
  have Flastline : L2.Fun K "last_line" "last_line" sLast (ga K "last_line") dlastline := Flastline
  have blastline : Binds K dlastline ["lines", "at"] [] := Flastline.binds fun _ _ _ _ _ _ us hl => match us, hl with | [_, _], _ => rfl
  obtain ⟨dmadeoftwo, Fmadeoftwo⟩ := c.df (p := ("made_of_two", sMade2)) (at_ 5 rfl)
  have mmadeoftwo : mg "made_of_two" = some (.ref (ga K "made_of_two")) := c.gdef X G (p := ("made_of_two", sMade2)) (at_ 5 rfl)
  have Fmadeoftwo : L2.Fun K "made_of_two" "made_of_two" sMade2 (ga K "made_of_two") dmadeoftwo := Fmadeoftwo
  have bmadeoftwo : Binds K dmadeoftwo ["word", "parts"] [] := Fmadeoftwo.binds fun _ _ _ _ _ _ us hl => match us, hl with | [_, _], _ => rfl
  obtain ⟨dmadeof, Fmadeof⟩ := c.df (p := ("made_of", sMade)) (at_ 6 rfl)
  have mmadeof : mg "made_of" = some (.ref (ga K "made_of")) := c.gdef X G (p := ("made_of", sMade)) (at_ 6 rfl)
  have Fmadeof : L2.Fun K "made_of" "made_of" sMade (ga K "made_of") dmadeof := Fmadeof
  have bmadeof : Binds K dmadeof ["word", "parts"] [] := Fmadeof.binds fun _ _ _ _ _ _ us hl => match us, hl with | [_, _], _ => rfl
  obtain ⟨disinteger, Fisinteger⟩ := c.df (p := ("is_integer", sIsInt)) (at_ 7 rfl)
  have misinteger : mg "is_integer" = some (.ref (ga K "is_integer")) := c.gdef X G (p := ("is_integer", sIsInt)) (at_ 7 rfl)
  have Fisinteger : L2.Fun K "is_integer" "is_integer" sIsInt (ga K "is_integer") disinteger := Fisinteger
  have bisinteger : Binds K disinteger ["value"] [] := Fisinteger.binds fun _ _ _ _ _ _ us hl => match us, hl with | [_], _ => rfl
  obtain ⟨disnamed, Fisnamed⟩ := c.df (p := ("is_named", sNamed)) (at_ 8 rfl)
  have misnamed : mg "is_named" = some (.ref (ga K "is_named")) := c.gdef X G (p := ("is_named", sNamed)) (at_ 8 rfl)
  have Fisnamed : L2.Fun K "is_named" "is_named" sNamed (ga K "is_named") disnamed := Fisnamed
  have bisnamed : Binds K disnamed ["value"] [] := Fisnamed.binds fun _ _ _ _ _ _ us hl => match us, hl with | [_], _ => rfl
  obtain ⟨distold, Fistold⟩ := c.df (p := ("is_told", sTold)) (at_ 9 rfl)
  have mistold : mg "is_told" = some (.ref (ga K "is_told")) := c.gdef X G (p := ("is_told", sTold)) (at_ 9 rfl)
  have Fistold : L2.Fun K "is_told" "is_told" sTold (ga K "is_told") distold := Fistold
  have bistold : Binds K distold ["value", "deep"] [] := Fistold.binds fun _ _ _ _ _ _ us hl => match us, hl with | [_, _], _ => rfl
  obtain ⟨dvaluewords, Fvaluewords⟩ := c.df (p := ("value_words", sWordsV)) (at_ 10 rfl)
  have mvaluewords : mg "value_words" = some (.ref (ga K "value_words")) := c.gdef X G (p := ("value_words", sWordsV)) (at_ 10 rfl)
  have Fvaluewords : L2.Fun K "value_words" "value_words" sWordsV (ga K "value_words") dvaluewords := Fvaluewords
  have bvaluewords : Binds K dvaluewords ["value"] [] := Fvaluewords.binds fun _ _ _ _ _ _ us hl => match us, hl with | [_], _ => rfl
  obtain ⟨dpaperwords, Fpaperwords⟩ := c.df (p := ("paper_words", sWordsP)) (at_ 11 rfl)
  have mpaperwords : mg "paper_words" = some (.ref (ga K "paper_words")) := c.gdef X G (p := ("paper_words", sWordsP)) (at_ 11 rfl)
  have Fpaperwords : L2.Fun K "paper_words" "paper_words" sWordsP (ga K "paper_words") dpaperwords := Fpaperwords
  have bpaperwords : Binds K dpaperwords ["paper"] [] := Fpaperwords.binds fun _ _ _ _ _ _ us hl => match us, hl with | [_], _ => rfl
  obtain ⟨disvalueword, Fisvalueword⟩ := c.df (p := ("is_value_word", sVW)) (at_ 12 rfl)
  have misvalueword : mg "is_value_word" = some (.ref (ga K "is_value_word")) := c.gdef X G (p := ("is_value_word", sVW)) (at_ 12 rfl)
  have Fisvalueword : L2.Fun K "is_value_word" "is_value_word" sVW (ga K "is_value_word") disvalueword := Fisvalueword
  have bisvalueword : Binds K disvalueword ["word", "deep"] [] := Fisvalueword.binds fun _ _ _ _ _ _ us hl => match us, hl with | [_, _], _ => rfl
  obtain ⟨dreadvalue, Freadvalue⟩ := c.df (p := ("read_value", sRV)) (at_ 13 rfl)
  have mreadvalue : mg "read_value" = some (.ref (ga K "read_value")) := c.gdef X G (p := ("read_value", sRV)) (at_ 13 rfl)
  have Freadvalue : L2.Fun K "read_value" "read_value" sRV (ga K "read_value") dreadvalue := Freadvalue
  have breadvalue : Binds K dreadvalue ["line", "deep"] [] := Freadvalue.binds fun _ _ _ _ _ _ us hl => match us, hl with | [_, _], _ => rfl
  obtain ⟨dreadpaperin, Freadpaperin⟩ := c.df (p := ("read_paper_in", sRP)) (at_ 14 rfl)
  have mreadpaperin : mg "read_paper_in" = some (.ref (ga K "read_paper_in")) := c.gdef X G (p := ("read_paper_in", sRP)) (at_ 14 rfl)
  have Freadpaperin : L2.Fun K "read_paper_in" "read_paper_in" sRP (ga K "read_paper_in") dreadpaperin := Freadpaperin
  have breadpaperin : Binds K dreadpaperin ["line", "deep"] [] := Freadpaperin.binds fun _ _ _ _ _ _ us hl => match us, hl with | [_, _], _ => rfl
  obtain ⟨dhastext, Fhastext⟩ := c.df (p := ("has_text", sHasText)) (at_ 15 rfl)
  have mhastext : mg "has_text" = some (.ref (ga K "has_text")) := c.gdef X G (p := ("has_text", sHasText)) (at_ 15 rfl)
  have Fhastext : L2.Fun K "has_text" "has_text" sHasText (ga K "has_text") dhastext := Fhastext
  have bhastext : Binds K dhastext ["value"] [] := Fhastext.binds fun _ _ _ _ _ _ us hl => match us, hl with | [_], _ => rfl
  obtain ⟨dpapertext, Fpapertext⟩ := c.df (p := ("paper_text", sPText)) (at_ 16 rfl)
  have mpapertext : mg "paper_text" = some (.ref (ga K "paper_text")) := c.gdef X G (p := ("paper_text", sPText)) (at_ 16 rfl)
  have Fpapertext : L2.Fun K "paper_text" "paper_text" sPText (ga K "paper_text") dpapertext := Fpapertext
  have bpapertext : Binds K dpapertext ["paper"] [] := Fpapertext.binds fun _ _ _ _ _ _ us hl => match us, hl with | [_], _ => rfl
  obtain ⟨dreadpaper, Freadpaper⟩ := c.df (p := ("read_paper", sRead)) (at_ 17 rfl)
  have mreadpaper : mg "read_paper" = some (.ref (ga K "read_paper")) := c.gdef X G (p := ("read_paper", sRead)) (at_ 17 rfl)
  have Freadpaper : L2.Fun K "read_paper" "read_paper" sRead (ga K "read_paper") dreadpaper := Freadpaper
  have breadpaper : Binds K dreadpaper ["text"] [] := Freadpaper.binds fun _ _ _ _ _ _ us hl => match us, hl with | [_], _ => rfl
  obtain ⟨dlpen, Flpen⟩ := c.df (p := ("_law_pen", sPen)) (at_ 18 rfl)
  have mlpen : mg "_law_pen" = some (.ref (ga K "_law_pen")) := c.gdef X G (p := ("_law_pen", sPen)) (at_ 18 rfl)
  have Flpen : L2.Fun K "_law_pen" "_law_pen" sPen (ga K "_law_pen") dlpen := Flpen
  have blpen : Binds K dlpen ["script"] [] := Flpen.binds fun _ _ _ _ _ _ us hl => match us, hl with | [_], _ => rfl
  obtain ⟨dldraw, Fldraw⟩ := c.df (p := ("_law_draw", sDraw)) (at_ 19 rfl)
  have mldraw : mg "_law_draw" = some (.ref (ga K "_law_draw")) := c.gdef X G (p := ("_law_draw", sDraw)) (at_ 19 rfl)
  have Fldraw : L2.Fun K "_law_draw" "_law_draw" sDraw (ga K "_law_draw") dldraw := Fldraw
  have bldraw : Binds K dldraw ["pen", "many"] [] := Fldraw.binds fun _ _ _ _ _ _ us hl => match us, hl with | [_, _], _ => rfl
  obtain ⟨dlpick, Flpick⟩ := c.df (p := ("_law_pick", sPick)) (at_ 20 rfl)
  have mlpick : mg "_law_pick" = some (.ref (ga K "_law_pick")) := c.gdef X G (p := ("_law_pick", sPick)) (at_ 20 rfl)
  have Flpick : L2.Fun K "_law_pick" "_law_pick" sPick (ga K "_law_pick") dlpick := Flpick
  have blpick : Binds K dlpick ["pen", "some"] [] := Flpick.binds fun _ _ _ _ _ _ us hl => match us, hl with | [_, _], _ => rfl
  obtain ⟨dlheard, Flheard⟩ := c.df (p := ("_law_heard", sHeard)) (at_ 21 rfl)
  have mlheard : mg "_law_heard" = some (.ref (ga K "_law_heard")) := c.gdef X G (p := ("_law_heard", sHeard)) (at_ 21 rfl)
  have Flheard : L2.Fun K "_law_heard" "_law_heard" sHeard (ga K "_law_heard") dlheard := Flheard
  have blheard : Binds K dlheard ["ask"] [] := Flheard.binds fun _ _ _ _ _ _ us hl => match us, hl with | [_], _ => rfl
  obtain ⟨dxfigures, Fxfigures⟩ := c.df (p := ("_law_tx_figures", sLFigs)) (at_ 22 rfl)
  have mxfigures : mg "_law_tx_figures" = some (.ref (ga K "_law_tx_figures")) := c.gdef X G (p := ("_law_tx_figures", sLFigs)) (at_ 22 rfl)
  have Fxfigures : L2.Fun K "_law_tx_figures" "_law_tx_figures" sLFigs (ga K "_law_tx_figures") dxfigures := Fxfigures
  have bxfigures : Binds K dxfigures ["word"] [] := Fxfigures.binds fun _ _ _ _ _ _ us hl => match us, hl with | [_], _ => rfl
  obtain ⟨dxinteger, Fxinteger⟩ := c.df (p := ("_law_tx_integer", sLInt)) (at_ 23 rfl)
  have mxinteger : mg "_law_tx_integer" = some (.ref (ga K "_law_tx_integer")) := c.gdef X G (p := ("_law_tx_integer", sLInt)) (at_ 23 rfl)
  have Fxinteger : L2.Fun K "_law_tx_integer" "_law_tx_integer" sLInt (ga K "_law_tx_integer") dxinteger := Fxinteger
  have bxinteger : Binds K dxinteger ["word"] [] := Fxinteger.binds fun _ _ _ _ _ _ us hl => match us, hl with | [_], _ => rfl
  obtain ⟨dxbent, Fxbent⟩ := c.df (p := ("_law_tx_bent", sBent)) (at_ 24 rfl)
  have mxbent : mg "_law_tx_bent" = some (.ref (ga K "_law_tx_bent")) := c.gdef X G (p := ("_law_tx_bent", sBent)) (at_ 24 rfl)
  have Fxbent : L2.Fun K "_law_tx_bent" "_law_tx_bent" sBent (ga K "_law_tx_bent") dxbent := Fxbent
  have bxbent : Binds K dxbent ["pen", "words", "odd"] [] := Fxbent.binds fun _ _ _ _ _ _ us hl => match us, hl with | [_, _, _], _ => rfl
  obtain ⟨dxmany, Fxmany⟩ := c.df (p := ("_law_tx_many", sMany)) (at_ 25 rfl)
  have mxmany : mg "_law_tx_many" = some (.ref (ga K "_law_tx_many")) := c.gdef X G (p := ("_law_tx_many", sMany)) (at_ 25 rfl)
  have Fxmany : L2.Fun K "_law_tx_many" "_law_tx_many" sMany (ga K "_law_tx_many") dxmany := Fxmany
  have bxmany : Binds K dxmany [] [] := Fxmany.binds fun _ _ _ _ _ _ us hl => match us, hl with | [], _ => rfl
  obtain ⟨dxvalue, Fxvalue⟩ := c.df (p := ("_law_tx_value", sLVal)) (at_ 26 rfl)
  have mxvalue : mg "_law_tx_value" = some (.ref (ga K "_law_tx_value")) := c.gdef X G (p := ("_law_tx_value", sLVal)) (at_ 26 rfl)
  have Fxvalue : L2.Fun K "_law_tx_value" "_law_tx_value" sLVal (ga K "_law_tx_value") dxvalue := Fxvalue
  have bxvalue : Binds K dxvalue ["value"] [] := Fxvalue.binds fun _ _ _ _ _ _ us hl => match us, hl with | [_], _ => rfl
  obtain ⟨dxpaper, Fxpaper⟩ := c.df (p := ("_law_tx_paper", sLPap)) (at_ 27 rfl)
  have mxpaper : mg "_law_tx_paper" = some (.ref (ga K "_law_tx_paper")) := c.gdef X G (p := ("_law_tx_paper", sLPap)) (at_ 27 rfl)
  have Fxpaper : L2.Fun K "_law_tx_paper" "_law_tx_paper" sLPap (ga K "_law_tx_paper") dxpaper := Fxpaper
  have bxpaper : Binds K dxpaper ["paper"] [] := Fxpaper.binds fun _ _ _ _ _ _ us hl => match us, hl with | [_], _ => rfl
  obtain ⟨dxread, Fxread⟩ := c.df (p := ("_law_tx_read", sLRead)) (at_ 28 rfl)
  have mxread : mg "_law_tx_read" = some (.ref (ga K "_law_tx_read")) := c.gdef X G (p := ("_law_tx_read", sLRead)) (at_ 28 rfl)
  have Fxread : L2.Fun K "_law_tx_read" "_law_tx_read" sLRead (ga K "_law_tx_read") dxread := Fxread
  have bxread : Binds K dxread ["words", "at", "deep"] [] := Fxread.binds fun _ _ _ _ _ _ us hl => match us, hl with | [_, _, _], _ => rfl
  obtain ⟨dxwrongpaper, Fxwrongpaper⟩ := c.df (p := ("_law_tx_wrong_paper", sWrong)) (at_ 29 rfl)
  have mxwrongpaper : mg "_law_tx_wrong_paper" = some (.ref (ga K "_law_tx_wrong_paper")) := c.gdef X G (p := ("_law_tx_wrong_paper", sWrong)) (at_ 29 rfl)
  have Fxwrongpaper : L2.Fun K "_law_tx_wrong_paper" "_law_tx_wrong_paper" sWrong (ga K "_law_tx_wrong_paper") dxwrongpaper := Fxwrongpaper
  have bxwrongpaper : Binds K dxwrongpaper ["words"] [] := Fxwrongpaper.binds fun _ _ _ _ _ _ us hl => match us, hl with | [_], _ => rfl
  obtain ⟨dxsome, Fxsome⟩ := c.df (p := ("_law_tx_some", sSome)) (at_ 30 rfl)
  have mxsome : mg "_law_tx_some" = some (.ref (ga K "_law_tx_some")) := c.gdef X G (p := ("_law_tx_some", sSome)) (at_ 30 rfl)
  have Fxsome : L2.Fun K "_law_tx_some" "_law_tx_some" sSome (ga K "_law_tx_some") dxsome := Fxsome
  have bxsome : Binds K dxsome ["pen", "deep"] [] := Fxsome.binds fun _ _ _ _ _ _ us hl => match us, hl with | [_, _], _ => rfl
  obtain ⟨dlaw, Flaw⟩ := c.df (p := ("law", sLaw)) (at_ 31 rfl)
  have mlaw : mg "law" = some (.ref (ga K "law")) := c.gdef X G (p := ("law", sLaw)) (at_ 31 rfl)
  have Flaw : L2.Fun K "law" "law" sLaw (ga K "law") dlaw := Flaw
  have blaw : Binds K dlaw ["script"] [] := Flaw.binds fun _ _ _ _ _ _ us hl => match us, hl with | [_], _ => rfl
  obtain ⟨dLineinit, FLineinit⟩ := c.mt (p := ("Line", ("__init__", sLineI))) (at_ 0 rfl)
  rw [show (("Line" : Str) ++ "." ++ "__init__") = "Line.__init__" by decide +kernel] at FLineinit
  have FLineinit : L2.Fun K "__init__" "Line.__init__" sLineI (ma K (ga K "Line") "__init__") dLineinit := FLineinit
  have bLineinit : Binds K dLineinit ["self", "number", "text"] [] := FLineinit.binds fun _ _ _ _ _ _ us hl => match us, hl with | [_, _, _], _ => rfl
  obtain ⟨dLinerefuse, FLinerefuse⟩ := c.mt (p := ("Line", ("refuse", sRefuse))) (at_ 1 rfl)
  rw [show (("Line" : Str) ++ "." ++ "refuse") = "Line.refuse" by decide +kernel] at FLinerefuse
  have FLinerefuse : L2.Fun K "refuse" "Line.refuse" sRefuse (ma K (ga K "Line") "refuse") dLinerefuse := FLinerefuse
  have bLinerefuse : Binds K dLinerefuse ["self"] [] := FLinerefuse.binds fun _ _ _ _ _ _ us hl => match us, hl with | [_], _ => rfl
  obtain ⟨dLineahead, FLineahead⟩ := c.mt (p := ("Line", ("ahead", sAhead))) (at_ 2 rfl)
  rw [show (("Line" : Str) ++ "." ++ "ahead") = "Line.ahead" by decide +kernel] at FLineahead
  have FLineahead : L2.Fun K "ahead" "Line.ahead" sAhead (ma K (ga K "Line") "ahead") dLineahead := FLineahead
  have bLineahead : Binds K dLineahead ["self"] [] := FLineahead.binds fun _ _ _ _ _ _ us hl => match us, hl with | [_], _ => rfl
  obtain ⟨dLinetake, FLinetake⟩ := c.mt (p := ("Line", ("take", sTake))) (at_ 3 rfl)
  rw [show (("Line" : Str) ++ "." ++ "take") = "Line.take" by decide +kernel] at FLinetake
  have FLinetake : L2.Fun K "take" "Line.take" sTake (ma K (ga K "Line") "take") dLinetake := FLinetake
  have bLinetake : Binds K dLinetake ["self", "is_good"] [] := FLinetake.binds fun _ _ _ _ _ _ us hl => match us, hl with | [_, _], _ => rfl
  obtain ⟨dLineoneof, FLineoneof⟩ := c.mt (p := ("Line", ("one_of", sOneOf))) (at_ 4 rfl)
  rw [show (("Line" : Str) ++ "." ++ "one_of") = "Line.one_of" by decide +kernel] at FLineoneof
  have FLineoneof : L2.Fun K "one_of" "Line.one_of" sOneOf (ma K (ga K "Line") "one_of") dLineoneof := FLineoneof
  have bLineoneof : Binds K dLineoneof ["self", "some"] [] := FLineoneof.binds fun _ _ _ _ _ _ us hl => match us, hl with | [_, _], _ => rfl
  obtain ⟨dLineend, FLineend⟩ := c.mt (p := ("Line", ("end", sEnd))) (at_ 5 rfl)
  rw [show (("Line" : Str) ++ "." ++ "end") = "Line.end" by decide +kernel] at FLineend
  have FLineend : L2.Fun K "end" "Line.end" sEnd (ma K (ga K "Line") "end") dLineend := FLineend
  have bLineend : Binds K dLineend ["self"] [] := FLineend.binds fun _ _ _ _ _ _ us hl => match us, hl with | [_], _ => rfl
  have MLinerefuse : MT K (ga K "Line") "refuse" "Line.refuse" sRefuse (ma K (ga K "Line") "refuse") dLinerefuse ["self"] := ⟨FLinerefuse, meth_ok (c.fa (inLine (at_ 8 rfl))), bLinerefuse⟩
  have MLineahead : MT K (ga K "Line") "ahead" "Line.ahead" sAhead (ma K (ga K "Line") "ahead") dLineahead ["self"] := ⟨FLineahead, meth_ok (c.fa (inLine (at_ 9 rfl))), bLineahead⟩
  have MLinetake : MT K (ga K "Line") "take" "Line.take" sTake (ma K (ga K "Line") "take") dLinetake ["self", "is_good"] := ⟨FLinetake, meth_ok (c.fa (inLine (at_ 10 rfl))), bLinetake⟩
  have MLineoneof : MT K (ga K "Line") "one_of" "Line.one_of" sOneOf (ma K (ga K "Line") "one_of") dLineoneof ["self", "some"] := ⟨FLineoneof, meth_ok (c.fa (inLine (at_ 11 rfl))), bLineoneof⟩
  have MLineend : MT K (ga K "Line") "end" "Line.end" sEnd (ma K (ga K "Line") "end") dLineend ["self"] := ⟨FLineend, meth_ok (c.fa (inLine (at_ 12 rfl))), bLineend⟩
  refine ⟨dlaw, fun s u => by
    obtain ⟨oc, od, kV, doc, pm, an, cdv, ct, osl, rfl, lk, hc⟩ := Flaw.ex
    exact .of_eq rfl, mlaw, fun base KB GB TB => ?_⟩
  have T1 : TabB base mg (cT K pOne).1 (cT K pOne).2 := TB _ (at_ 0 rfl)
  have T2 : TabB base mg (cT K pVal).1 (cT K pVal).2 := TB _ (at_ 1 rfl)
  have T3 : TabB base mg (cT K pLaw).1 (cT K pLaw).2 := TB _ (at_ 2 rfl)
  have LT : LineT K (ga K "Line") := ⟨cls_ok (c.fa (inLine (at_ 0 rfl))), noat_ok (c.fa (inLine (at_ 2 rfl))), noat_ok (c.fa (inLine (at_ 3 rfl))), noat_ok (c.fa (inLine (at_ 4 rfl)))⟩
  have Ofigs := ok_figs (P := Pg) (w := w) (base := base) Fisfigures GF0 (str_ok X G (c.fa (inCon (at_ 5 rfl)))) (int_ok X G (c.fa (inCon (at_ 7 rfl))))
  have Ointw := ok_intw Fisintegerword Fisfigures Ofigs bisfigures misfigures
  have Ovw := ok_vw Fisvalueword GN0 Fisintegerword Ointw bisintegerword misintegerword
  have OA := ok_ahead (P := Pg) (w := w) (base := base) LT GF0 MLineahead
  have OR := ok_refuse (P := Pg) (w := w) (base := base) LT I MLinerefuse
  have OO := ok_oneof (T := TN K) LT MLineoneof (code_of (p := pOne) FLineoneof) T1 (at_ 0 rfl) hu1 MLinetake MLineahead OA MLinerefuse OR
  have LO : LineOk Pg w K mg base (ga K "Line") (ga K "BadText") (TN K) _ _ _ _ _ _ _ _ := ⟨LT, MLinetake, MLineahead, OA, MLinerefuse, OR, MLineoneof, OO⟩
  have OM : ∀ b, FnOk Pg w K mg base CX0 (b + 7) (ga K "made_of") dmadeof ["word", "parts"] (spMade (clK K) b) := fun b =>
    ok_made Fmadeof GF0 Fmadeoftwo bmadeoftwo mmadeoftwo (ok_made2 Fmadeoftwo (c.mk_Relations X G b) (c.mk_RealMoment X G b) (c.mk_Records X G b) (c.mk_Moment X G b) (c.mk_Never X G b) (c.mk_Rounds X G b) (c.mk_Hinders X G b))
      (c.mk_Classes X G b) (c.mk_Reach X G b) (c.mk_Smith X G b) (c.mk_Nearness X G b) (c.mk_Reached X G b) (c.mk_Unreached X G b)
  have OB := ok_both (T := TN K) LO GF0 GN0 GM0 Fmadeof bmadeof mmadeof OM Freadvalue breadvalue mreadvalue (code_of (p := pVal) Freadvalue) T2 (at_ 1 rfl) hu2 Freadpaperin breadpaperin mreadpaperin Fisvalueword Ovw bisvalueword misvalueword 31 (by decide)
  have OLI := ok_lineI (P := Pg) (w := w) (mg := mg) (base := base) LT FLineinit
  have OE := ok_end (P := Pg) (w := w) (base := base) LT FLineend MLineahead OA MLinerefuse OR
  have OS := ok_last (P := Pg) (w := w) (base := base) GF0 Flastline I
  have OL := ok_lines (P := Pg) (w := w) (base := base) GF0 Flinesof I (int_ok X G (c.fa (inCon (at_ 8 rfl)))) (mkr_ok (c.fa (inLine (at_ 1 rfl)))) OLI bLineinit (glo_ok X G (c.fa (inGlo (at_ 3 rfl))))
  have ORead := ok_read (cl := clK K) (T := TN K) Freadpaper LT Flinesof blinesof mlinesof OL Freadpaperin breadpaperin mreadpaperin (OB.2.imp fun vs H Q E z => ⟨30, rfl, z⟩) MLineend OE Flastline blastline mlastline OS
  have OII := ok_isint (P := Pg) (w := w) (base := base) pap Fisinteger GF0
  have ON := ok_named (P := Pg) (base := base) pap pm GM0 Fisnamed GF0
  have OTo := ok_told pap pm Fistold GF0 (int_ok X G (c.fa (inCon (at_ 9 rfl)))) GN0.deep bistold mistold Fisinteger OII bisinteger misinteger Fisnamed ON bisnamed misnamed 31 (by decide)
  have OW := ok_words (P := Pg) (w := w) (base := base) pap pm GN0 GF0 Fvaluewords bvaluewords mvaluewords Fpaperwords bpaperwords mpaperwords 31
  have OHT := ok_hastext pm Fhastext GF0 Fistold OTo bistold mistold Fisnamed ON bisnamed misnamed
  have OPT := ok_ptext Fpapertext Fhastext OHT bhastext mhastext Fpaperwords OW.2 bpaperwords mpaperwords
  have ODr := ok_draw (P := Pg) (w := w) (base := base) Fldraw GF0
  have OPk := ok_pick Flpick GF0 Fldraw bldraw mldraw ODr
  have OPn := ok_pen (P := Pg) (w := w) (base := base) Flpen GF0
  have OLF := ok_lfigs (P := Pg) (w := w) (base := base) Fxfigures GF0
  have OLI2 := ok_lint Fxinteger Fxfigures OLF bxfigures mxfigures
  have OMn := ok_many (P := Pg) (w := w) (mg := mg) (base := base) Fxmany
  have OLR := ok_lread Fxread GF0 Fxmany bxmany mxmany OMn Fxinteger bxinteger mxinteger OLI2
  have OWr := ok_wrong Fxwrongpaper GF0 Fxmany bxmany mxmany OMn Fxread bxread mxread OLR
  have OLW := ok_lwords (P := Pg) (w := w) (base := base) pap pm GF0 Fxvalue bxvalue mxvalue Fxpaper bxpaper mxpaper 31
  have OBe := ok_bent Fxbent GF0 Fldraw bldraw mldraw ODr Flpick blpick mlpick OPk
  have OSo := ok_some Fxsome bxsome mxsome GF0 Fldraw bldraw mldraw ODr Flpick blpick mlpick OPk (c.mk_Moment X G) (c.mk_Relations X G) (c.mk_Hinders X G)
  have LF : LawF Pg w K mg base (clK K) (ga K "BadText") (TN K) (cT K pLaw).2 (cT K pLaw).1 :=
    { G := GF0, pen := ⟨_, _, Flpen, OPn, blpen, mlpen⟩, draw := ⟨_, _, Fldraw, ODr, bldraw, mldraw⟩, pick := ⟨_, _, Flpick, OPk, blpick, mlpick⟩, bent := ⟨_, _, Fxbent, OBe, bxbent, mxbent⟩, lpap := ⟨_, _, Fxpaper, OLW.2, bxpaper, mxpaper⟩, wrong := ⟨_, _, Fxwrongpaper, OWr, bxwrongpaper, mxwrongpaper⟩,
      some_ := ⟨_, _, Fxsome, OSo 4 (by decide), bxsome, mxsome⟩, some2 := ⟨_, _, Fxsome, OSo 3 (by decide), bxsome, mxsome⟩, read := ⟨_, _, Freadpaper, ORead, breadpaper, mreadpaper⟩, ptext := ⟨_, _, Fpapertext, OPT, bpapertext, mpapertext⟩, heard := ⟨_, _, Flheard, blheard, mlheard⟩, hc := c.heardc X G, err := ⟨fI, dI, I⟩,
      m1 := c.mk_Moment X G 3, m2 := c.mk_Rounds X G 3, m3 := c.mk_Records X G 3, m4 := c.mk_Nearness X G 3, m5 := c.mk_Never X G 3, m6 := c.mk_Classes X G 3, tb := T3, inT := at_ 2 rfl, only := hu3 }
  exact ok_law LF Flaw (code_of (p := pLaw) Flaw)
end
end Nr
end
set_option maxHeartbeats 0
section
/-! NrEnd: the run's equation, the law's end. -/
namespace Nr
open PySem PySem.Spec PyProof.Rows L2 LamX NdefX He
theorem map3 {α β γ δ : Type} {o : Option α} {f : α → β} {g : α → γ} {k : α → δ} {a : β} {b : γ} {c : δ} (h1 : o.map f = some a) (h2 : o.map g = some b) (h3 : o.map k = some c) : o.map (fun x => (f x, g x, k x)) = some (a, b, c) := by
  cases o with
  | none => cases h1
  | some x =>
    have e1 : f x = a := Option.some.inj h1
    have e2 : g x = b := Option.some.inj h2
    have e3 : k x = c := Option.some.inj h3
    rw [← e1, ← e2, ← e3]
    rfl
theorem run_all (w : World) : HandSHeadRun.RunEqI R qv hookN obN 40000 names w :=
  PySem.W.byRow2 "special-get-raises" (P := fun w => HandSHeadRun.RunEqI R qv hookN obN 40000 names w) (fun w => map3 (rA_f w) (rB_f w) (rC_f w)) (fun w => map3 (rA_t w) (rB_t w) (rC_t w)) w
theorem law_at {w : World} {mg : Str → Option Value} {fa : Addr} {h : Heap} (Y : hookN.says w h) (G : h.Ns mainGlobals mg) (hm : mg "law" = some (.ref fa)) :
    ∃ K : PySem.W.Frag, K.In h ∧ LawAtS PySem.Challenge.rw_nearatonce_k89_texts_of_papers_bent w K CX0 116 63 "script" mg fa h := by
  obtain ⟨K, X, c⟩ := Y
  obtain ⟨fd, hb, ml, hF⟩ := c.all X G
  have e : fa = ga K "law" := by
    rw [ml] at hm
    cases hm
    rfl
  subst e
  refine ⟨K, X, fd, tfN.map (cT K), spLaw K (TN K), fun p hp => ?_, fun p hp => ?_, fun p hp => ?_, hb, fun H a ns hl hbits hT hS => ?_, fun base KB GB TB => hF base KB GB TB⟩
  · obtain ⟨q, hq, rfl⟩ := List.mem_map.mp hp
    exact c.empty q hq
  · obtain ⟨q, hq, rfl⟩ := List.mem_map.mp hp
    exact c.out q hq
  · obtain ⟨q, hq, rfl⟩ := List.mem_map.mp hp
    exact PySem.W.codeHd_of_K X (c.hd q hq)
  · refine ⟨a, ns, rfl, hS, hl, fun p hp => ?_, fun _ => rfl⟩
    have hp2 : p.1 ∈ (tfN.map (cT K)).map (·.2) := by
      simp only [TN, List.mem_cons, List.not_mem_nil, or_false] at hp
      rcases hp with rfl | rfl | rfl
      · exact List.mem_map.mpr ⟨cT K pOne, at_ 0 rfl, rfl⟩
      · exact List.mem_map.mpr ⟨cT K pVal, at_ 1 rfl, rfl⟩
      · exact List.mem_map.mpr ⟨cT K pLaw, at_ 2 rfl, rfl⟩
    obtain ⟨q, hq, e⟩ := List.mem_map.mp hp2
    exact ⟨#[], by rw [← e]; exact hT q hq, trivial, fun pos cv hc => by cases hc⟩
end Nr
end
open PySem PySem.W PySem.Calls PyProof.Rows
theorem PySem.Challenge.cw_nearatonce_k89_texts_of_papers_bent_holds : PySem.Challenge.rw_nearatonce_k89_texts_of_papers_bent.Holds := by
  w_on; o_law
  refine HandSHeadRun.head_imp (r := OpenLaw.row PySem.Challenge.rw_nearatonce_k89_texts_of_papers_bent) (q := Nr.qv) (H := Nr.hookN) (ob := Nr.obN) (M := 40000) (loose := Nr.names) (d := HandSHeadRun.topDef (OpenLaw.row PySem.Challenge.rw_nearatonce_k89_texts_of_papers_bent).prog 94) (kwd := []) Nr.obN_eq Nr.run_all
    (by kernel_rfl) (by kernel_rfl) (by kernel_rfl) (by rfl) (by first | assumption | decide +kernel) (by decide +kernel) ⟨rfl, rfl, rfl, rfl, rfl, by decide +kernel⟩ ?hw ?hc
  case hw => w_witness2
  case hc =>
    refine LamX.walk_ofTsE (l := PySem.Challenge.rw_nearatonce_k89_texts_of_papers_bent) (n := 63) (k := 116) (x := "script") (CX := fun _ => L2.CX0) rfl (by decide) (by kernel_rfl) ⟨rfl, by decide, by decide⟩ ?F (fun _ _ _ _ _ z => z)
    intro w mg fa h Y G hmg0
    have hmg : mg ("law" : PySem.Str) = some (.ref fa) := by
      have e : (HandSHeadRun.topDef (OpenLaw.row PySem.Challenge.rw_nearatonce_k89_texts_of_papers_bent).prog 94).name = ("law" : PySem.Str) := by kernel_rfl
      rw [← e]
      exact hmg0
    exact Nr.law_at Y G hmg
