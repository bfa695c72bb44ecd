import PyProof.Rows.All
import Wide.All
import OpenK.AllK
import Wide.FinOn
import KE.KStateDown
import KE.KNest
import KE.KNestM
import KE.KExcInit
import KE.KExcIs
import KE.KExcSuper
import HandS.ForMost
import HandS.Exc
import HandS.Defaults
import HandS.Head0
import HandS.Head1
import HandS.Head2
import HandS.HeadHook1
import HandS.HeadHook2
import HandS.HeadHook4
import PyProof.Rows.CountFlat
import PyProof.StrOps2
import PyProof.ReprRoads
import PyProof.ReprLen
import PyProof.ReprBulk
import KE.KLam
import KE.GoesMore
import KE.GoesEnum
import HandS.ExcField
import HandS.WordsExc
import HandS.Codes
import HandS.IsInst
import HandS.Lambda
import HandS.HeadWalk
import HandS.Walk
import HandS.ExcInit
import HandS.ExcSuper
import HandS.ExcIs
import KE.IntTextText
import HandS.FStr
import HandS.Text
import HandS.Flow
import HandS.Dict
import HandS.SortRule
import HandS.Style
import HandS.EndTab
import HandS.HeadEnd
import PySem.Challenge.RW_forcedtables_k12_whole_count_texts_read
set_option Elab.async false
set_option linter.all false
set_option maxRecDepth 100000
set_option maxHeartbeats 0
namespace K12
open PySem PySem.Spec PyProof.Rows L2
/-! ### the text -/
abbrev Pr : Program := PySem.Challenge.pw_forcedtables_k12_whole_count_texts_read
def top (i : Nat) : Stmt := Pr.main.body.getD i (.Pass ⟨0, 0, 0, 0⟩)
abbrev R : PySem.W.OpenRow := PySem.W.OpenLaw.row PySem.Challenge.rw_forcedtables_k12_whole_count_texts_read
def mkD (x : Str) (i : Nat) (dfl : List He.Dv) : He.DefD := ⟨(x, none), x, x, defArgs (top i), defBody (top i), defScope (top i), dfl, []⟩
abbrev sInit : Stmt := inClass (top 8) 0
/-- the defs of the text, each with its place -/
def fnN1 : List (Str × Nat × List He.Dv) :=
  [("is_prime_by", 11, []), ("is_integer", 14, []), ("is_number", 15, []), ("is_above_nought", 16, []), ("is_index", 17, []), ("is_power", 18, []), ("is_tuple_of", 19, []), ("is_prime", 20, []), ("count_fault", 21, []), ("is_count", 22, [])]
def fnN2 : List (Str × Nat × List He.Dv) :=
  [("want", 24, [.int (-1)]), ("want_count", 25, [.str "count"]), ("words_of_count", 29, []), ("count_text", 30, []), ("number_of", 34, []), ("word_at", 35, []), ("finish_at", 36, []), ("pair_of", 38, []), ("count_of_words", 39, []), ("count_read", 40, [])]
def fnN3 : List (Str × Nat × List He.Dv) :=
  [("_law_feed", 42, []), ("_law_draw", 43, []), ("_law_any", 44, []), ("_law_same", 45, []), ("_law_heard", 46, []), ("_law_is_whole", 47, []), ("_law_is_prime", 48, []), ("_law_primes", 49, []), ("_law_heap", 50, []), ("_law_number", 51, []), ("_law_line", 52, []),
   ("_law_read", 53, []), ("_law_spoilt", 54, []), ("_law_is_right", 55, []), ("law", 56, [])]
def fnN : List (Str × Nat × List He.Dv) := fnN1 ++ (fnN2 ++ fnN3)
def fn : List He.DefD := fnN.map fun p => mkD p.1 p.2.1 p.2.2
def clsN : List Str := ["GroupError", "CountError", "LiveError", "PaperError", "TextError", "InvalidPaper", "NotUsable", "InvalidText"]
def freeN : List Str := ["isinstance", "int", "bool", "str", "tuple", "len", "all", "range", "enumerate", "super", "repr", "sorted", "ValueError"]
def fa : List He.Fa := fnN.map (fun p => He.Fa.glo p.1) ++ clsN.map He.Fa.glo ++ freeN.map He.Fa.free ++ [.int "TOP" 10000, .int "MOST_POWER" 6, .int "MOST_DIGITS" 60, .str "MARK" "^", .str "NONE" "1", .str "DIGITS" "0123456789"]
end K12
namespace K12
open PySem PySem.Spec PyProof.Rows L2
/-! ### the error's class -/
abbrev gI (K : PySem.W.Frag) : Addr := He.ga K "InvalidText"
abbrev fI (K : PySem.W.Frag) : Addr := He.ma K (gI K) "__init__"
/-- isinstance of such an error: what each class answers -/
def isiN : List (Str × Bool) := [("NotUsable", false), ("InvalidPaper", false), ("InvalidText", true), ("CountError", false), ("PaperError", false), ("TextError", true), ("LiveError", false)]
/-- the __init__ that names super(): its code's file, its cell -/
def initCell (K : PySem.W.Frag) : Bool := match K.lookup (fI K) with
  | some ⟨_, _, .func fd, _⟩ => (match fd.code with
    | .ref c => (match K.lookup c with
      | some ⟨_, _, .fields vs, _⟩ => (match (vs[2]? : Option Value) with
        | some (.str file _) => decide (file = Pr.main.file)
        | _ => false)
      | _ => false)
    | _ => false) && (match fd.closure with
    | [(x, cc)] => decide (x = "__class__") && (match K.lookup cc with
      | some ⟨_, _, .cell (some (.ref D)), _⟩ => decide (D = gI K)
      | _ => false)
    | _ => false) && (PySem.W.codeIn K fd.code "InvalidText.__init__" && (match fd.defaults with
    | .none => true
    | _ => false))
  | _ => false
def exB (K : PySem.W.Frag) : Bool := (PySem.W.excInitIn K (gI K) PySem.HandSPX.veTail "ValueError.__new__" && (PySem.W.hasDictIn K (gI K) && (PySem.W.keepIn K (.ref (gI K)) && decide (PySem.W.typeIn K (.ref (gI K)) = some (.type "type"))))) &&
  (isiN.all (fun p => decide (PySem.W.kitOne K (.ref (gI K)) (.ref (He.ga K p.1)) = some p.2)) && (decide (PySem.W.kitOne K (.ref (gI K)) (.type "ValueError") = some true) &&
  (decide (PySem.W.exmOne K (.ref (gI K)) (.ref (He.ga K "GroupError")) = some true) &&
  ((decide (PySem.W.findIn K (.ref (gI K)) "__getattribute__" = some (some (.builtin "BaseException.__getattribute__"))) && (decide (PySem.W.findIn K (.ref (gI K)) "__getattr__" = some none) &&
    (decide (PySem.W.subIn K (.ref (gI K)) (.type "BaseException") = some true) && (decide (PySem.W.subIn K (.ref (gI K)) (.type "ValueError") = some true) && (decide (PySem.W.findIn K (.ref (gI K)) "__class__" = some (some (.builtin "object.__class__"))) &&
    (decide (PySem.W.specialIn K (.builtin "object.__class__") "__get__" = some (some (.builtin "getset_descriptor.__get__"))) && (decide (PySem.W.takesIn K (.builtin "object.__class__") = some true) && decide (PySem.W.mroIn K (gI K) (.type "object") = some true)))))))) &&
  ((decide (PySem.W.findIn K (.ref (gI K)) "__setattr__" = some (some (.builtin "object.__setattr__"))) && (decide (PySem.W.findIn K (.ref (gI K)) "line" = some none) && (decide (PySem.W.findIn K (.ref (gI K)) "field" = some none) &&
    (decide (PySem.W.findIn K (.ref (gI K)) "__init__" = some (some (.ref (fI K)))) && (decide (PySem.W.typeIn K (.ref (fI K)) = some (.type "function")) && (decide (PySem.W.ks_superIn K (gI K) (gI K) "__init__" = some (some (.builtin "ValueError.__init__"))) &&
    (decide (PySem.W.nsIn K cStatics "thirdparty.any" = some none) && decide (PySem.W.mroIn K (gI K) (.ref (gI K)) = some true)))))))) && initCell K)))))
end K12
namespace K12
open PySem PySem.Spec PyProof.Rows L2
/-! ### the Hook -/
abbrev IW : Type := Option (Str × Str × Arguments × FuncBody × Scope × Addr × Addr)
abbrev AlY : Type := He.AlD × Bool × IW
def frY (g : Addr → Option Obj) : PySem.W.Frag := He.frT g (He.asD g 6 ++ [cStatics])
def obsY (fa : List He.Fa) (fn : List He.DefD) (tf : List He.Defn) (ex : PySem.W.Frag → Bool) (ini : PySem.W.Frag → IW) (g : Addr → Option Obj) : AlY := (He.obsD fa fn (frY g), ex (frY g) && He.tabsB g tf (frY g), ini (frY g))
def valY (fn : List He.DefD) (vi : IW) : AlY := (He.valD fn, true, vi)
/-- what is told of the heap h behind the top, K a part of it -/
structure SaysY (fa : List He.Fa) (fn : List He.DefD) (tf : List He.Defn) (ex : PySem.W.Frag → Bool) (ini : PySem.W.Frag → IW) (vi : IW) (h : Heap) (K : PySem.W.Frag) : Prop where
  d : He.SaysD fa fn K
  more : ex K = true
  one : ini K = vi
  hd : ∀ p ∈ tf, PySem.W.codeHdIn K (He.cT K p).1 (He.cT K p).2 = true
  out : ∀ p ∈ tf, K.lookup (He.cT K p).2 = none
  empty : ∀ p ∈ tf, h.get? (He.cT K p).2 = some { cls := .none, data := .fields #[] }
section
variable {fa : List He.Fa} {fn : List He.DefD} {tf : List He.Defn} {ex : PySem.W.Frag → Bool} {ini : PySem.W.Frag → IW} {vi : IW}
theorem says_of {h : Heap} (e : obsY fa fn tf ex ini h.get? = valY fn vi) : SaysY fa fn tf ex ini vi h (frY h.get?) := by
  have e1 : He.obsD fa fn (frY h.get?) = He.valD fn := congrArg (fun z : AlY => z.1) e
  have e2 : (ex (frY h.get?) && He.tabsB h.get? tf (frY h.get?)) = true := congrArg (fun z : AlY => z.2.1) e
  have e3 : ini (frY h.get?) = vi := congrArg (fun z : AlY => z.2.2) e
  obtain ⟨h1, h2⟩ := He.ba e2
  have key : ∀ p ∈ tf, PySem.W.codeHdIn (frY h.get?) (He.cT (frY h.get?) p).1 (He.cT (frY h.get?) p).2 = true ∧ ∃ o, h.get? (He.cT (frY h.get?) p).2 = some o ∧ He.emptyTab o = true := by
    intro p hp
    obtain ⟨h3, h4⟩ := He.ba (List.all_eq_true.mp h2 p hp)
    refine ⟨h3, ?_⟩
    cases q : h.get? (He.cT (frY h.get?) p).2 with
    | none =>
      rw [q] at h4
      cases h4
    | some o =>
      rw [q] at h4
      exact ⟨o, rfl, h4⟩
  refine ⟨e1, h1, e3, fun p hp => (key p hp).1, fun p hp => ?_, fun p hp => ?_⟩
  · obtain ⟨_, o, q, z⟩ := key p hp
    exact He.frT_none q z
  · obtain ⟨_, o, q, z⟩ := key p hp
    rw [q, He.emptyTab_eq z]
end
def hookY (fa : List He.Fa) (fn : List He.DefD) (tf : List He.Defn) (ex : PySem.W.Frag → Bool) (ini : PySem.W.Frag → IW) (vi : IW) : PySem.W.Hook where
  α := AlY
  obs := fun s => obsY fa fn tf ex ini s.heap.get?
  val := fun _ => valY fn vi
  says := fun _ h => ∃ K : PySem.W.Frag, K.In h ∧ SaysY fa fn tf ex ini vi h K
  of := fun _ _ e => ⟨_, He.frT_in, says_of e⟩
  keeps := fun _ _ _ ⟨K, hK, c⟩ k => ⟨K, PySem.W.Frag.In.keeps hK k, ⟨c.d, c.more, c.one, c.hd, c.out, fun p hp => k _ _ (c.empty p hp)⟩⟩
theorem obsY_eq {fa : List He.Fa} {fn : List He.DefD} {tf : List He.Defn} {ex : PySem.W.Frag → Bool} {ini : PySem.W.Frag → IW} {vi : IW} {g : Addr → Option Obj} {s : Shared} (h : ∀ a, g a = s.heap.get? a) :
    obsY fa fn tf ex ini g = (hookY fa fn tf ex ini vi).obs s := by
  have e : g = s.heap.get? := funext h
  rw [e] <;> rfl
/-! ### this row's -/
def initW (K : PySem.W.Frag) : IW := match K.lookup (fI K) with
  | some ⟨_, _, .func fd, _⟩ => some (fd.name, fd.qualname, fd.params, fd.body, fd.scope, fd.globals, fd.builtins)
  | _ => none
def valI : IW := some ("__init__", "InvalidText.__init__", defArgs sInit, .stmts (defBody sInit), defScope sInit, mainGlobals, builtinsNs)
def tf : List He.Defn := [("_law_is_right", none)]
def hk : PySem.W.Hook := hookY fa fn tf exB initW valI
def ob (s : PySem.W.SharedT) : AlY := obsY fa fn tf exB initW (HandSHeadRun.getT s)
theorem ob_eq (s : PySem.W.SharedT) : ob s = hk.obs s.abs := obsY_eq (HandSHeadRun.getT_eq s)
def loose1 : List Str := ["GroupError", "PaperError", "CountError", "LiveError", "TextError", "InvalidPaper", "NotUsable", "InvalidText", "TOP", "is_prime_by", "MOST_POWER", "is_integer", "is_number", "is_above_nought", "is_index", "is_power", "is_tuple_of", "is_prime", "count_fault", "is_count", "want", "want_count", "MARK", "NONE", "words_of_count", "count_text"]
def loose2 : List Str := ["DIGITS", "MOST_DIGITS", "number_of", "word_at", "finish_at", "pair_of", "count_of_words", "count_read", "_law_feed", "_law_draw", "_law_any", "_law_same", "_law_heard", "_law_is_whole", "_law_is_prime", "_law_primes", "_law_heap", "_law_number", "_law_line", "_law_read", "_law_spoilt", "_law_is_right"]
def loose : List Str := loose1 ++ loose2
end K12
namespace K12
open PySem PySem.Spec PyProof.Rows L2
/-! ### a def that may be called by its name, with its defaults; it may raise as CX says -/
structure CalX (P : Program) (w : World) (K : PySem.W.Frag) (mg : Str → Option Value) (base : Heap)
    (CX : CXT) (k : Nat) (x : Str) (sp : Sp) (dvs : List V) : Prop where
  ex : ∃ (f : Addr) (fd : FuncData) (ps : List Str) (ds : List Value),
    FnOk P w K mg base CX k f fd ps sp ∧ mg x = some (.ref f) ∧ PySem.W.keepIn K (.ref f) = true ∧ Binds K fd ps ds ∧ Vals dvs ds
section
variable {X : Cx} {CX : CXT} {k j : Nat} {x : Str} {sp : Sp} {dvs : List V} {E : XK} {p pos : Pos} {e : Expr} {es : List Expr} {t tk : TA}
theorem pe_cx (c : CalX X.prog X.w X.K X.mg X.base CX k x sp dvs) (hr : Room j X.A) (hk : k ≤ j) (hx : Passes CX X E) (hg : Gl X x) (ha : PA X (e :: es) t)
    (hdb : (x == ("__debug__" : Str)) = false := by decide) (he : starEach (e :: es) X.env = (false, eval e X.env) :: starEach es X.env := by rfl)
    (hpl : (backTo pos (starEach es X.env)).any (·.1) = false := by rfl) : PE X (.Call (.Name x p) (e :: es) [] pos) (tCall sp dvs E t) := by
  obtain ⟨f, fd, ps, ds, F, hm, kp, b, d⟩ := c.ex
  exact pe_call F (hr.mono hk) hg hm kp b d hx ha hdb he hpl
/-- the same of a def that raises nothing -/
theorem pe_c0 (c : CalX X.prog X.w X.K X.mg X.base CX0 k x sp dvs) (hr : Room j X.A) (hk : k ≤ j) (hg : Gl X x) (ha : PA X (e :: es) t)
    (hdb : (x == ("__debug__" : Str)) = false := by decide) (he : starEach (e :: es) X.env = (false, eval e X.env) :: starEach es X.env := by rfl)
    (hpl : (backTo pos (starEach es X.env)).any (·.1) = false := by rfl) : PE X (.Call (.Name x p) (e :: es) [] pos) (tCall sp dvs E0 t) :=
  pe_cx c hr hk pass0 hg ha hdb he hpl
/-- f(k = v): one keyword alone, of a def whose parameters are all named -/
def tCallK0 (sp : Sp) (E : XK) (tk : TA) : TE := fun σ H Q => tk σ H fun zs H1 => sp zs H1 Q E
theorem pe_kw0 {f : Addr} {fd : FuncData} {ps ks : List Str} {kws : List Keyword} (F : FnOk X.prog X.w X.K X.mg X.base CX k f fd ps sp) (hr : Room k X.A) (hg : Gl X x) (hm : X.mg x = some (.ref f)) (hkp : PySem.W.keepIn X.K (.ref f) = true)
    (hb : ∀ (s : Shared) (ws : List Value), ws.length = ps.length → BindsTo s fd ⟨[], ks.zip ws⟩ (ps.zip ws)) (hx : Passes CX X E) (hkw : PK X kws tk)
    (hall : (backToKw pos (keywordEach kws X.env)).all (·.1.isSome) = true := by rfl) (hks : (backToKw pos (keywordEach kws X.env)).filterMap (·.1) = ks := by rfl)
    (hdb : (x == ("__debug__" : Str)) = false := by decide)
    (hpl : ((backTo pos (starEach [] X.env)).any (·.1) || (backToKw pos (keywordEach kws X.env)).any (·.1.isNone)) = false := by rfl) :
    PE X (.Call (.Name x p) [] kws pos) (tCallK0 sp E tk) := by
  refine ⟨fun pins s σ H Q I h => ?_⟩
  refine wpAny_Call_Name_kw (ld_glob I hg hm ?_ hdb)
  refine PySem.W.callWith_KW0 (h₀ := X.base) I.ok.mod.kin hkp hall ?_ hpl
  refine thn (hkw.run pos pins s σ H _ I h) fun ws s1 z => ?_
  obtain ⟨zs, H1, I1, rz, q⟩ := z
  refine ⟨I1.kIn, ?_⟩
  rw [hks]
  have hl : ws.length = ps.length := by
    rw [← rz.length]
    exact F.len _ _ _ _ q
  refine wpAny_call (codeAny_mono (F.run X.A X.stack s1 H1 ⟨[], ks.zip ws⟩ ws zs Q E hr I1.env0 (hb s1 ws hl) rz q) fun r s' hq => ?_)
  rcases r with e | (v | _ | _ | _)
  · exact hx pins σ H1 s1 e s' I1 hq
  all_goals first | exact I1.after hq | exact False.elim hq
end
/-! ### a def that wants to know that no repr is under way -/
structure FnG (P : Program) (w : World) (K : PySem.W.Frag) (mg : Str → Option Value) (base : Heap)
    (CX : CXT) (k : Nat) (f : Addr) (fd : FuncData) (ps : List Str) (sp : Sp) : Prop where
  len : ∀ vs H Q E, sp vs H Q E → vs.length = ps.length
  run : ∀ (A : Around) (outer : List Env) (s : Shared) (H : Hp) (args : Args) (us : List Value) (vs : List V) (Q : VK) (E : XK),
    A.guards = some [] → Room k A → Env0 P w K mg base A outer s H → BindsTo s fd args (ps.zip us) → Vals vs us → sp vs H Q E →
    codeAny (model P w) A (.call (.ref f) args) (CR CX outer P w H s Q E) s
structure CalG (P : Program) (w : World) (K : PySem.W.Frag) (mg : Str → Option Value) (base : Heap) (k : Nat) (x : Str) (sp : Sp) : Prop where
  ex : ∃ (f : Addr) (fd : FuncData) (ps : List Str), FnG P w K mg base CX0 k f fd ps sp ∧ mg x = some (.ref f) ∧ PySem.W.keepIn K (.ref f) = true ∧ Binds K fd ps []
section
variable {X : Cx} {k j : Nat} {x : Str} {sp : Sp} {p pos : Pos} {e : Expr} {es : List Expr} {t : TA}
theorem pe_cg (c : CalG X.prog X.w X.K X.mg X.base k x sp) (g : X.A.guards = some []) (hr : Room j X.A) (hk : k ≤ j) (hg : Gl X x) (ha : PA X (e :: es) t)
    (hdb : (x == ("__debug__" : Str)) = false := by decide) (he : starEach (e :: es) X.env = (false, eval e X.env) :: starEach es X.env := by rfl)
    (hpl : (backTo pos (starEach es X.env)).any (·.1) = false := by rfl) : PE X (.Call (.Name x p) (e :: es) [] pos) (tCall sp [] E0 t) := by
  obtain ⟨f, fd, ps, F, hm, kp, b⟩ := c.ex
  refine ⟨fun pins s σ H Q I h => ?_⟩
  refine wpAny_Call_Name_kw (ld_glob I hg hm ?_ hdb)
  refine PySem.W.callWith_K (h₀ := X.base) I.ok.mod.kin kp (thn (ha.run pos pins s σ H _ I h) fun us s1 z => ?_) he hpl
  obtain ⟨vs, H1, I1, r, q⟩ := z
  refine ⟨I1.kIn, ?_⟩
  rw [List.append_nil] at q
  have hl : us.length = ps.length := by
    rw [← r.length]
    exact F.len _ _ _ _ q
  have hb : BindsTo s1 fd ⟨us, []⟩ (ps.zip us) := by
    have z := b s1 us I1.kIn (by rw [List.append_nil]; exact hl)
    rw [List.append_nil] at z
    exact z
  refine wpAny_call (codeAny_mono (F.run X.A X.stack s1 H1 ⟨us, []⟩ us vs Q E0 g (hr.mono hk) I1.env0 hb r q) fun r s' hq => ?_)
  rcases r with e | (v | _ | _ | _)
  · exact False.elim hq
  all_goals first | exact I1.after hq | exact False.elim hq
end
/-- by its body -/
theorem fnG_of {P : Program} {w : World} {K : PySem.W.Frag} {mg : Str → Option Value} {base : Heap} {x qual : Str} {params : Arguments} {body : List Stmt} {scope : Scope} {f : Addr} {fd : FuncData} {N ps : List Str} {k : Nat} {sp : Sp}
    (F : FunD K x qual params body scope [] [] f fd) (S : FnScope N ps scope) (len : ∀ vs H Q E, sp vs H Q E → vs.length = ps.length)
    (hbody : ∀ (cdv : Value) (A : Around) (outer : List Env) (s : Shared) (H : Hp) (vs : List V) (Q : VK) (E : XK),
      A.guards = some [] → Room k (A.deeper (envOfC qual scope s.heap.objs.size f cdv)) → PySem.W.codeIn K cdv qual = true → (∀ g, K.lookup f = some g → ∀ fd', g.data = .func fd' → fd'.code = cdv) → sp vs H Q E →
      ∃ t, PSs (cxOf CX0 P w K mg base N qual scope f cdv A outer s H E).nox body t ∧ t { nx := fun _ H' => Q .non H', rt := Q } (start N vs) H) :
    FnG P w K mg base CX0 (k + 1) f fd ps sp := by
  obtain ⟨oc, od, dV, kV, doc, pm, an, cdv, ct, osl, rfl, lk, hcd, _, _⟩ := F.ex
  refine ⟨len, fun A outer s H args us vs Q E hg hr e0 hb r hsp => ?_⟩
  refine LamX.run_ofS (N := N) lk hcd S hr e0 hb r (len _ _ _ _ hsp) fun hr' => ?_
  obtain ⟨t, ht, q⟩ := hbody cdv A outer s H vs Q E hg hr' hcd (fun g e fd' d => by
    rw [lk] at e
    cases e
    cases d
    rfl) hsp
  exact ⟨t, ht.nox, q⟩
/-! ### repr of data -/
mutual
theorem Dp.plain {K : PySem.W.Frag} {H : Hp} : ∀ (d : PyData) (v : V), Dp K H v d → d.hasDict = false
  | .none, _, _ => by simp only [PyData.hasDict]
  | .bool _, _, _ => by simp only [PyData.hasDict]
  | .int _, _, _ => by simp only [PyData.hasDict]
  | .str _, _, _ => by simp only [PyData.hasDict]
  | .list ds, _, h => by
    cases h with
    | lst _ ha =>
      simp only [PyData.hasDict]
      exact Dp.plainAll ds _ ha
  | .tuple ds, _, h => by
    cases h with
    | tup _ ha =>
      simp only [PyData.hasDict]
      exact Dp.plainAll ds _ ha
  | .dict _, _, h => by cases h
theorem Dp.plainAll {K : PySem.W.Frag} {H : Hp} : ∀ (ds : List PyData) (vs : List V), DpAll K H vs ds → PyData.hasDictAll ds = false
  | [], _, _ => by simp only [PyData.hasDictAll]
  | d :: ds, _, h => by
    cases h with
    | cons h1 h2 =>
      simp only [PyData.hasDictAll, Dp.plain d _ h1, Dp.plainAll ds _ h2, Bool.or_self]
end
section
variable {X : Cx}
/-- repr(x), x a list or a tuple of data -/
def rReprD (K : PySem.W.Frag) : List V → Hp → VK → Prop := fun xs H Q => ∃ (a : Addr) (d : PyData), xs = [.ref a] ∧ Dp K H (.ref a) d ∧ d.showable = true ∧ d.depth ≤ 32 ∧ d.shown.length ≤ sizeLine ∧ Q (.str d.shown) H
theorem cr_reprD (g : X.A.guards = some []) (hu : X.A.units + 64 < cLine) : CallR X (.builtin "repr") (rReprD X.K) := by
  intro pins s σ H xs us Q I r h
  obtain ⟨a, d, rfl, hd, hs, hdep, hz, q⟩ := h
  obtain ⟨u, rfl, ru⟩ := vals1 r
  obtain rfl : u = Value.ref a := ru
  obtain ⟨as, hr⟩ := Dp.reads I d _ _ hd rfl
  refine repr_of_reads' hr hs (fun z => ?_) g (by omega) (fun _ _ e => e) (fun h' u tk k => ⟨.str d.shown, H, I.kept (t' := tk) k, ⟨u, rfl⟩, q⟩) hz
  rw [Dp.plain d _ hd] at z
  cases z
/-! ### xs.count(True) of a list of bools -/
def rCntB (K : PySem.W.Frag) : V → List V → Hp → VK → Prop := fun x xs H Q => ∃ (p : Addr) (bs : List Bool), x = .ref p ∧ xs = [.bl true] ∧ SqL K H p (bs.map V.bl) ∧ Q (.int (bs.count true : Nat)) H
theorem dpAll_bls {K : PySem.W.Frag} {H : Hp} : ∀ bs : List Bool, DpAll K H (bs.map V.bl) (bs.map PyData.bool)
  | [] => .nil
  | b :: bs => .cons (.bl b) (dpAll_bls bs)
theorem countIn_bools : ∀ bs : List Bool, countIn (.bool true) (bs.map PyData.bool) = ((bs.count true : Nat) : Int)
  | [] => rfl
  | b :: bs => by
    rw [List.map_cons, countIn, countIn_bools bs, List.count_cons]
    cases b
    · simp [same]
    · simp [same]
      omega
theorem mt_countB : MtR X "list.count" (rCntB X.K) := by
  intro pins s σ H x xs v us Q I rx r h
  obtain ⟨p, bs, rfl, rfl, hs, q⟩ := h
  obtain rfl : v = Value.ref p := rx
  obtain ⟨u, rfl, ru⟩ := vals1 r
  obtain rfl : u = Value.bool true := ru
  obtain ⟨its, rv, hl, hz⟩ := I.list hs
  obtain ⟨as, hr⟩ := Dp.readsAll I (bs.map PyData.bool) _ its (dpAll_bls bs) rv
  refine count_list_bools hl.isList hr (by rw [List.all_eq_true]; intro d hd; obtain ⟨b, _, rfl⟩ := List.mem_map.mp hd; rfl) ?_
  rw [countIn_bools]
  exact ⟨.int _, H, I.tok _, ⟨_, rfl⟩, q⟩
/-! ### text * int -/
/-- a text k times, k at least 2: some text of that length -/
def rRepS : R2 := fun x y H Q => ∃ (z : Str) (n : Nat), x = .str z ∧ y = .int (n : Int) ∧ 2 ≤ n ∧ 1 ≤ z.length ∧ z.length * n ≤ 100000 ∧ ∀ z' : Str, z'.length = z.length * n → Q (.str z') H
theorem rep_len (z : Array Nat) : ∀ (n : Nat) (acc : Array Nat), ((List.replicate n z).foldl (· ++ ·) acc).size = acc.size + z.size * n
  | 0, acc => by simp
  | n + 1, acc => by
    rw [List.replicate_succ, List.foldl_cons, rep_len z n, Array.size_append, Nat.mul_succ]
    omega
theorem op_repS : OpR X (binaryOp .Mult) rRepS := by
  intro pins s σ H x y v u Q I rx ry h
  obtain ⟨z, n, rfl, rfl, hn, hz, hb, q⟩ := h
  obtain ⟨t, rfl⟩ := rx
  obtain ⟨t', rfl⟩ := ry
  have e1 : ¬ ((n : Int) < 1) := by omega
  have e2 : ((n : Int) == 1 || z.length == 0) = false := by
    have a : ((n : Int) == 1) = false := by rw [beq_eq_false_iff_ne]; omega
    have b : (z.length == 0) = false := by rw [beq_eq_false_iff_ne]; omega
    rw [a, b]
    rfl
  have hn2 : n ≤ 100000 := Nat.le_trans (Nat.le_trans (Nat.le_mul_of_pos_left n hz) (Nat.le_refl _)) hb
  have hz2 : z.length ≤ 100000 := Nat.le_trans (Nat.le_mul_of_pos_right _ (by omega)) hb
  refine PySem.P.mul_str (by
      have a : ¬ ((n : Int) < -(2 ^ 63)) := by omega
      have b : ¬ ((n : Int) ≥ 2 ^ 63) := by omega
      rw [decide_eq_false a, decide_eq_false b]
      rfl) (fun _ _ => ?_) (fun _ _ => ?_) ?_
  · have h1 : (100001 : Int) ≤ (2 ^ 63 - 1) / (n : Int) := by
      rw [Int.le_ediv_iff_mul_le (by omega)]
      omega
    omega
  · rw [Int.toNat_natCast]
    unfold Builtin.Str.tooLong
    rw [decide_eq_false_iff_not, sizeLine_eq]
    omega
  · rw [if_neg e1, e2]
    simp only [Bool.false_eq_true, if_false, Int.toNat_natCast]
    refine ⟨by
      show (Str.length _) ≤ sizeLine
      unfold Str.length
      rw [rep_len, sizeLine_eq]
      have := hb
      unfold Str.length at this
      simp only [List.size_toArray, List.length_nil]
      omega, .str _, H, I.tok _, ⟨_, rfl⟩, q _ ?_⟩
    unfold Str.length
    rw [rep_len]
    simp
end
end K12
/-! enumerate(t) of a tuple -/
namespace PySem
open Sem (wp)
theorem meets_enum_newT (l : Addr) (o : Obj) (items : Array Value) : Meets (Builtin.«enumerate.__new__» ⟨[.type "enumerate", .ref l], []⟩) (fun _ R s =>
    (s.heap.get? l = some o ∧ s.heap.IsTuple l items) ∧
      R (.ok (.ret (.ref (s.heap.push { cls := .type "tuple_iterator", data := .fields #[.ref l, .int 0 0] }).objs.size)))
        { s with heap := (s.heap.push { cls := .type "tuple_iterator", data := .fields #[.ref l, .int 0 0] }).push { cls := .type "enumerate", data := .fields #[.none, .bool false, .ref s.heap.objs.size, rawInt 0, .none, .none] } }) :=
  .of_wp fun prog w A R s h => by
    obtain ⟨hp, g, d, tk, os⟩ := s
    obtain ⟨⟨_, hL⟩, h⟩ := h
    have hsub := sub_enumerate
    have it1 : ∀ {A' : Around} {E : Value → Shared → Prop} {Q : Value → Shared → Prop}, Q (.ref hp.objs.size) ⟨hp.push { cls := .type "tuple_iterator", data := .fields #[.ref l, .int 0 0] }, g, d, tk, os⟩ →
        wpAny (model prog w) A' (pyIter (.ref l)) Q E ⟨hp, g, d, tk, os⟩ := fun q => wpAny_pyIter_tuple (s := ⟨hp, g, d, tk, os⟩) hL q
    wp_walk using it1
    refine wpAny_stack_any fun st => wpAny_pure ?_
    split
    · rename_i c _ _ _ _ _
      cases (c == Value.type "enumerate") <;>
      · wp_walk using it1
        exact ⟨_, rfl, h⟩
    · wp_walk using it1
      exact ⟨_, rfl, h⟩
theorem call_enum_tup {prog : Program} {w : World} {A : Around} {E : Value → Shared → Prop} {s : Shared} {l : Addr} {items : Array Value} {Q : Value → Shared → Prop} (hL : s.heap.IsTuple l items)
    (h : ∀ h', IsEnum h' (s.heap.objs.size + 1) s.heap.objs.size 0 .none → h'.IsTupleIter s.heap.objs.size l 0 →
      (∀ b o, s.heap.get? b = some o → h'.get? b = some o) → Q (.ref (s.heap.objs.size + 1)) { s with heap := h' }) :
    wpAny (model prog w) A (call (.type "enumerate") [.ref l]) Q E s := by
  obtain ⟨o, ho, hr⟩ := id hL
  refine callType_new F.called_enumerate (by decide) (F.typeCall_enumerate_1 _) (F.newCall_enumerate_1 _) (fun obj => F.args_object_init_2 obj _) F.entry_enumerate_new
    (meets_enum_newT l o items) ⟨⟨ho, hL⟩, ?_⟩
  have hz : (s.heap.push { cls := .type "tuple_iterator", data := .fields #[.ref l, .int 0 0] }).objs.size = s.heap.objs.size + 1 := Heap.size_push ..
  show _ ∧ _
  rw [hz]
  have he := Heap.get?_push_size (s.heap.push { cls := .type "tuple_iterator", data := .fields #[.ref l, .int 0 0] })
    (o := { cls := .type "enumerate", data := .fields #[.none, .bool false, .ref s.heap.objs.size, rawInt 0, .none, .none] }) rfl
  rw [hz] at he
  refine ⟨⟨_, he, rfl⟩, h _ he ⟨_, Heap.get?_push_of_some _ (Heap.get?_push_size _ rfl), rfl, rfl⟩ fun b o x => ?_⟩
  exact Heap.get?_push_of_some _ (Heap.get?_push_of_some _ x)
end PySem
namespace K12
open PySem PySem.Spec PyProof.Rows L2
/-- each item of the tuple at a in a new pair -/
def IteT (K : PySem.W.Frag) (a : Addr) : It :=
  ⟨fun i H => ∃ (xs : List V) (x : V), SqT K H a xs ∧ xs[i]? = some x,
   fun i H v H' => ∃ T x, v = .ref T ∧ H T = none ∧ H' = upd H T (.tup [.int (i : Nat), x]) ∧ ∀ xs, SqT K H a xs → xs[i]? = some x,
   fun i H => ∃ xs : List V, SqT K H a xs ∧ xs.length ≤ i⟩
theorem turn_enumT {P : Program} {w : World} {K : PySem.W.Frag} {elts : List Expr} {kk : Nat} {tpos : Pos} (a e it : Addr) :
    Turn P w K (.Tuple elts kk tpos) (IteT K a) [e, it] e (fun i h => (∃ old, IsEnum h e it ((i : Nat) : Int) old) ∧ h.IsTupleIter it a i ∧ e ≠ it) where
  mem := by simp
  obj := fun i h st b hb => by
    obtain ⟨⟨old, he⟩, ⟨o, ho, hc, hd⟩, _⟩ := st
    rcases List.mem_cons.mp hb with z | z
    · rw [z]
      exact ⟨_, he, fun v q => nomatch q⟩
    · rw [List.mem_singleton.mp z]
      exact ⟨o, ho, fun v q => by rw [hd] at q; cases q⟩
  keep := fun i h h' st k => by
    obtain ⟨⟨old, he⟩, hi, hne⟩ := st
    exact ⟨⟨old, k e (by simp) _ he⟩, hi.at fun o q => k it (by simp) o q, hne⟩
  item := by
    intro X hP hw hK hc i pins s σ H E I hf st hg
    subst hP hw hK
    obtain ⟨⟨old, he⟩, hit, hne⟩ := st
    obtain ⟨xs, x, hq, hx⟩ := hg
    obtain ⟨its, rv, p, hz⟩ := I.tuple hq
    have pt : s.heap.IsTuple a its.toArray := p
    obtain ⟨u, hu, ru⟩ := rv.get hx
    have hel : e < s.heap.objs.size := Heap.lt_size he
    have hil : it < s.heap.objs.size := by
      obtain ⟨_, q, _⟩ := hit
      exact Heap.lt_size q
    have nai : a ≠ it := fun z => by
      obtain ⟨o1, q1, c1, _⟩ := hit
      obtain ⟨o2, q2, c2, _⟩ := pt
      rw [z, q1] at q2
      cases q2
      rw [c1] at c2
      exact absurd (Value.type.inj c2) (by decide)
    have nea : e ≠ a := fun z => by
      obtain ⟨o2, q2, c2, _⟩ := pt
      rw [← z, he] at q2
      cases q2
      exact absurd (Value.type.inj c2) (by decide)
    refine wpAny_pyNext_enum_itemD (Draws.tuple (A := X.A.in1) (I.ok.hd hc) it a nai its.toArray) he ⟨hit, pt⟩ (by
        rw [List.size_toArray]
        exact (List.getElem?_eq_some_iff.mp hu).1) hne (by simp [hne, nea]) fun y h' tk hy ho hst hT hsz hk => ?_
    have ey : y = u := by
      have z : its.toArray[i]? = some u := by simpa using hu
      exact Option.some.inj (hy.symm.trans z)
    subst ey
    refine ⟨_, rfl, wpAny_letOwnedTupleGo_enum (s := { s with heap := h', toks := tk + 1 }) ho fun h'' he' sb => ?_⟩
    have hT2 : h''.get? s.heap.objs.size = some { cls := .type "tuple", data := .seq #[.int i tk, y] } := (sb.2 _ (Nat.ne_of_gt hel)).trans hT
    have new : ObjOk X.prog X.w (upd H s.heap.objs.size (.tup [.int (i : Nat), x])) h'' s.heap.objs.size (.tup [.int (i : Nat), x]) :=
      ⟨by show 2 ≤ sizeLine; decide, [.int i tk, y], .cons ⟨_, rfl⟩ (.cons ru .nil), ⟨_, hT2, rfl, _, rfl⟩⟩
    have I1 : Inv X pins σ (upd H s.heap.objs.size (.tup [.int (i : Nat), x])) { s with heap := h'', toks := tk + 1 } :=
      I.turnedNew (ch := [e, it]) (fun b ob hb q => by
        have b1 : b ≠ e := fun z => hb (by simp [z])
        have b2 : b ≠ it := fun z => hb (by simp [z])
        exact (sb.2 b b1).trans (hk b ob b1 b2 q)) hf (Nat.le_refl _) new
    refine ⟨.ref s.heap.objs.size, _, I1, rfl, ⟨_, x, rfl, I.hok.fresh (Nat.le_refl _), rfl, fun ys hy => by rw [I.tuple_inj hy hq]; exact hx⟩, ⟨⟨y, ?_⟩, hst.1.at fun o q => (sb.2 it (Ne.symm hne)).trans q, hne⟩, fun b hb => ?_⟩
    · have e1 : ((i + 1 : Nat) : Int) = (i : Int) + 1 := by omega
      rw [e1]
      exact he'
    · have hb' : b < s.heap.objs.size := by
        rcases List.mem_cons.mp hb with z | z
        · rw [z]
          exact hel
        · rw [List.mem_singleton.mp z]
          exact hil
      rw [upd_ne (Nat.ne_of_lt hb')]
      exact (hf b hb).1
  done := by
    intro X hP hw hK hc i pins s σ H E I hf st hg
    subst hP hw hK
    obtain ⟨⟨old, he⟩, hit, hne⟩ := st
    obtain ⟨xs, hq, hx⟩ := hg
    obtain ⟨its, rv, p, hz⟩ := I.tuple hq
    have pt : s.heap.IsTuple a its.toArray := p
    obtain ⟨f0, f1, f2, f3, f4, f5⟩ := hf it (by simp)
    have hl := rv.length
    unfold pyNext
    have hT : s.TypeIs (.ref e) "enumerate" := ⟨_, he, rfl⟩
    refine wpAny_bind (wpAny_attempt (wpAny_callSpecial?_slot (name := Str.ofString "__next__") hT F.slot_enumerate_next
      (wpAny_call_entry F.slot_enumerate_next hT F.entry_enumerate_next ?_ (F.args_enumerate_next_1 _))))
    show wpAny _ _ (field (.ref e) 2 >>= _) _ _ _
    refine wpAny_bind (wpAny_field he rfl (x := .ref it) rfl ?_)
    refine wpAny_bind (wpAny_nextOf_tuple_end (I.ok.hd hc) hit pt (by simp; omega) fun h' x he' hx' => ?_)
    obtain ⟨o, ho, hc'⟩ := hx'
    refine wpAny_bind (wpAny_isInstance (T := "StopIteration") (b := true) ⟨o, ho, hc'⟩ isSubtype_stop ?_)
    exact wpAny_pure ⟨rfl, I.turned (t' := s.toks) (fun b o hb q => he' b o hb q) f0 f1 f3 f4 f5⟩
  self := fun A i s Q E st h => by
    obtain ⟨⟨_, he⟩, _⟩ := st
    exact wpAny_pyIter_enum he h
def iEnumT (K : PySem.W.Frag) (ta : TA) : TI := fun σ H R => ta σ H fun vs H1 => ∃ a xs, vs = [.ref a] ∧ SqT K H1 a xs ∧ R (IteT K a) H1
theorem pi_enumT {X : Cx} {e : Expr} {ta : TA} {p pos tpos : Pos} {elts : List Expr} {kk : Nat} (hg : Gl X "enumerate") (hm : X.mg "enumerate" = none) (ha : PA X [e] ta)
    (hs : starEach [e] X.env = [(false, eval e X.env)] := by rfl) : PI X (.Tuple elts kk tpos) (.Call (.Name "enumerate" p) [e] [] pos) (iEnumT X.K ta) := by
  refine ⟨fun pins s σ H R I h => ?_⟩
  refine PyProof.Rows.Call_ (ld_blt I hg hm PyProof.Rows.boot_enumerate (PyProof.Rows.callWith_type1 (thn (ha.run pos pins s σ H _ I h) fun us s1 z => ?_) hs rfl))
  obtain ⟨vs, H1, I1, r1, a, xs, ex, hq, q⟩ := z
  subst ex
  obtain ⟨u, rfl, ru⟩ := vals1 r1
  obtain rfl : u = Value.ref a := ru
  obtain ⟨its, rv, p', hz⟩ := I1.tuple hq
  refine call_enum_tup (show s1.heap.IsTuple a its.toArray from p') fun h' he hit hk => wpAny_pyIter_enum he ?_
  have I2 : Inv X pins σ H1 { s1 with heap := h' } := I1.kept (t' := s1.toks) hk
  refine ⟨s1.heap.objs.size + 1, [s1.heap.objs.size + 1, s1.heap.objs.size], _, _, H1, rfl, I2, turn_enumT a (s1.heap.objs.size + 1) s1.heap.objs.size, ⟨⟨.none, he⟩, hit, Nat.succ_ne_self _⟩, fun b hb => ?_, q⟩
  have hle : s1.heap.objs.size ≤ b := by
    rcases List.mem_cons.mp hb with z | z
    · rw [z]
      exact Nat.le_add_right _ _
    · rw [List.mem_singleton.mp z]
      exact Nat.le_refl _
  exact I1.fpOk hle (I1.hok.fresh hle)
theorem walk_enumT {K : PySem.W.Frag} {a : Addr} {xs : List V} : L2.Walk (IteT K a) xs.length (fun H => SqT K H a xs) (L2.YPair (fun i => some (.int (i : Nat))) (fun i => xs[i]?)) where
  goes := fun i H hi q => ⟨xs, xs[i], q, by simp [hi]⟩
  stops := fun H q => ⟨xs, q, Nat.le_refl _⟩
  yields := fun i H x H' hi q y => by
    obtain ⟨T, z, e1, e2, e3, e4⟩ := y
    exact ⟨T, _, z, e1, e2, e3, rfl, e4 xs q⟩
end K12
/-! raise InvalidText(line, field): its __init__ walked; its fields; isinstance of it -/
namespace K12
open PySem PySem.Spec PyProof.Rows L2
open PySem.W PySem.Calls PySem.HandSPX
abbrev iP : Arguments := defArgs sInit
theorem init_body : defBody sInit =
    [.Expr (.Call (.Attribute (.Call (.Name "super" ⟨27, 8, 27, 13⟩) [] [] ⟨27, 8, 27, 15⟩) "__init__" ⟨27, 8, 27, 24⟩) [.Name "line" ⟨27, 25, 27, 29⟩, .Name "field" ⟨27, 31, 27, 36⟩] [] ⟨27, 8, 27, 37⟩) ⟨27, 8, 27, 37⟩,
     .Assign [.Attribute (.Name "self" ⟨28, 8, 28, 12⟩) "line" ⟨28, 8, 28, 17⟩] (.Name "line" ⟨28, 20, 28, 24⟩) ⟨28, 8, 28, 24⟩, .Assign [.Attribute (.Name "self" ⟨29, 8, 29, 12⟩) "field" ⟨29, 8, 29, 18⟩] (.Name "field" ⟨29, 21, 29, 26⟩) ⟨29, 8, 29, 26⟩] := rfl
theorem init_args : iP = { posonlyargs := [], args := [{ arg := "self", annotation := none, pos := ⟨26, 17, 26, 21⟩ }, { arg := "line", annotation := none, pos := ⟨26, 23, 26, 27⟩ }, { arg := "field", annotation := none, pos := ⟨26, 29, 26, 34⟩ }], vararg := none, kwonlyargs := [], kw_defaults := [], kwarg := none, defaults := [] } := rfl
def iSc : Scope := { kind := .function, names := [("self", .local), ("line", .local), ("field", .local), ("__class__", .free), ("super", .globalImplicit)], isGenerator := false, isCoroutine := false, more := [] }
theorem init_scope : defScope sInit = iSc := rfl
/-- what the written part says of the class at C and its __init__ at fI -/
structure ItT (K : Frag) (C fI : Addr) : Prop where
  cls : ∃ nm q N bs bm sn sub ab col dd k0 k1 k2 k3 k5, K.lookup C = some (excClassObj nm q C N bs bm true sn sub ab col dd k0 k1 k2 k3 k5 "ValueError.__new__") ∧ refsVE bm = true
  sa : findIn K (.ref C) "__setattr__" = some (some (.builtin "object.__setattr__"))
  ga : findIn K (.ref C) "__getattribute__" = some (some (.builtin "BaseException.__getattribute__"))
  gg : findIn K (.ref C) "__getattr__" = some none
  noL : findIn K (.ref C) "line" = some none
  noF : findIn K (.ref C) "field" = some none
  iC : findIn K (.ref C) "__init__" = some (some (.ref fI))
  tC : typeIn K (.ref fI) = some (.type "function")
  kC : keepIn K (.ref C) = true
  exC : subIn K (.ref C) (.type "BaseException") = some true
  veC : subIn K (.ref C) (.type "ValueError") = some true
  tyC : typeIn K (.ref C) = some (.type "type")
  hdC : hasDictIn K C = true
  su : ks_superIn K C C "__init__" = some (some (.builtin "ValueError.__init__"))
  st : nsIn K cStatics "thirdparty.any" = some none
  ms : mroIn K C (.ref C) = some true
  fn : ∃ (oc kV doc pm ct : Value) (od an : Option Addr) (cda cc : Addr) (osl : Array (Option Value)) (ccl cl : Value) (cdd cld : Option Addr) (vs : Array Value) (ccs csl : Array (Option Value)) (tf : Tok),
    K.lookup fI = some ⟨oc, od, .func (ksFn "__init__" "InvalidText.__init__" iP (defBody sInit) iSc .none kV doc pm an (.ref cda) ct cc), osl⟩ ∧ codeIn K (.ref cda) "InvalidText.__init__" = true ∧
    K.lookup cda = some ⟨ccl, cdd, .fields vs, ccs⟩ ∧ (vs[2]? : Option Value) = some (.str Pr.main.file tf) ∧ K.lookup cc = some ⟨cl, cld, .cell (some (.ref C)), csl⟩
/-- of the program -/
structure PrT (P : Program) : Prop where
  file : ((P.main.file : Str) == Pr.main.file) = true
  sup : (P.main.scope.names.lookup ("super" : Str)).isSome = false
theorem size2 (a b : Value) : [a, b].length ≤ sizeLine := by
  rw [sizeLine_eq]
  exact (by decide : 2 ≤ 16777216)
/-- a made InvalidText's dict -/
def fsM (v1 v2 : Value) : Str → Option Value := fun y => if y = "field" then some v2 else if y = "line" then some v1 else none
structure InitEnd (h h' : Heap) (x C dx t1 : Addr) (v1 v2 : Value) : Prop where
  keep : ∀ b o, b ≠ x → h.get? b = some o → h'.get? b = some o
  obj : h'.get? x = some { cls := .ref C, dict := some dx, data := .fields #[.ref t1, .none, .none, .none, .bool false, .none] }
  dbig : h.objs.size ≤ dx
  dne : dx ≠ x
  ns : h'.Ns1 dx (fsM v1 v2)
section
variable {prog : Program} {w : World} {A : Around} {E : Value → Shared → Prop} {h : Heap} {g : Array GenState} {d : Drawn} {t : Nat} {os : OsState}
variable {nm q : Str} {C N : Addr} {bs bm : List Value} {hdct : Bool} {sn : List Str} {sub : List Value} {ab : Bool} {col : Option Bool} {dd : Option Addr} {k0 k1 k2 k3 k5 : Option Value}
theorem call_mw {u e t0 : Addr} {rest : List Value} {Q : Value → Shared → Prop}
    (hC : h.get? C = some (excClassObj nm q C N bs bm hdct sn sub ab col dd k0 k1 k2 k3 k5 "ValueError.__new__")) (he : h.get? e = some (excO C t0)) (hu : h.get? u = some (kxs_mw "ValueError.__init__" e)) (hrest : rest.length ≤ sizeLine)
    (hq : ∀ h' t1, (∀ b o, b ≠ e → h.get? b = some o → h'.get? b = some o) → h'.get? e = some (excO C t1) → Q .none ⟨h', g, d, t, os⟩) :
    wpAny (model prog w) A (call (.ref u) rest) Q E ⟨h, g, d, t, os⟩ := by
  refine wpAny_call (codeAny_of_tree ?_)
  show wpAny _ A.in1 (callAny (.ref u) ⟨rest, []⟩) _ _ _
  simp only [callAny]
  refine wpAny_bind (wpAny_load hu ?_)
  simp only [kxs_mw, show (Value.type "method-wrapper" == Value.type "method" || Value.type "method-wrapper" == Value.type "builtin_function_or_method" || Value.type "method-wrapper" == Value.type "method-wrapper") = true by decide, if_true]
  refine KFB.if_so (by decide) ?_
  refine wpAny_bind (ESX.check_bound F.excBase_ValueError hC he rfl ?_)
  refine wpAny_bind (wpAny_pure (wpAny_pure ?_))
  refine ⟨Code.quiet_builtin _ (by decide +kernel), codeAny_builtin F.excBase_ValueError.initEntry ?_⟩
  rw [Around.under_plainId F.excBase_ValueError.init.plain _]
  wp_walk
  refine hq _ h.objs.size (fun b o hb ho => ?_) ?_
  · rw [Heap.get?_update_other _ _ (Ne.symm hb)]
    exact Heap.get?_push_of_some _ ho
  · rw [Heap.get?_update_self _ (Heap.get?_push_of_some _ he) rfl]
    rfl
end
end K12
namespace K12
open PySem PySem.Spec PyProof.Rows L2
open PySem.W PySem.Calls PySem.HandSPX
theorem ldLo {M : Model} {A : Around} {E : Value → Shared → Prop} {s : Shared} {env : Env} {m : Str → Option Value} {x : Str} {pos : Pos} {v : Value} {Q : Value → Shared → Prop} (hn : s.heap.Ns env.locals m) (hk : env.scope.kind = .function) (hl : env.kindOf x = some .local)
    (hv : m x = some v) (h : Q v s) (hd : (x == ("__debug__" : Str)) = false := by decide) : wpAny M A (eval (.Name x pos) env) Q E s := wpAny_Name (wpAny_loadName_local hk hl hn hv h) hd
section
variable {prog : Program} {w : World} {A : Around} {R : Result → Shared → Prop} {s : Shared} {K : Frag} {C fI : Addr} {mg mb : Str → Option Value}
theorem it_init (T : ItT K C fI) (PT : PrT prog) {x t0 : Addr} {v1 v2 : Value} (X : K.In s.heap) (hlim : s.heap.NoLimit) (hx : s.heap.get? x = some (excO C t0)) (hnx : K.lookup x = none)
    (hg : s.heap.Ns mainGlobals mg) (hm : mg "super" = none) (hb : s.heap.Ns builtinsNs mb) (hmb : mb "super" = some (.type "super")) (hroom : A.depth < recursionLimit)
    (hq : ∀ h' tk dx t1, InitEnd s.heap h' x C dx t1 v1 v2 → R (.ok (.ret .none)) { s with heap := h', toks := tk }) :
    codeAny (model prog w) A (.call (.ref fI) ⟨[.ref x, v1, v2], []⟩) R s := by
  obtain ⟨oc, kV, doc, pm, ct, od, an, cda, cc, osl, ccl, cl, cdd, cld, vs, ccs, csl, tf, ho, hcd, hcode, hvs, hcell⟩ := T.fn
  obtain ⟨nm, q, N, bs, bm, sn, sub, ab, col, dd, k0, k1, k2, k3, k5, hC, hbm⟩ := T.cls
  have hcl : clsIn K C = some { name := nm, bases := bs, mro := .ref C :: bm, ns := N, qualname := q, hasDict := true, slotNames := sn, subclasses := sub, abstract := ab, collection := col, hasDel := false } := by unfold clsIn; rw [hC] <;> rfl
  have hal : alongIn K "__init__" (((Value.ref C :: bm).dropWhile (· != .ref C)).drop 1) = some (some (.builtin "ValueError.__init__")) := by
    have z := T.su
    unfold ks_superIn at z
    rw [hcl] at z
    exact z
  rw [init_body, init_args] at ho
  obtain ⟨hp, g, d, tk, os⟩ := s
  refine ks_codeAny_call_defAt (binds := [("self", .ref x), ("line", v1), ("field", v2)]) hroom (X _ _ ho) rfl hlim (codeRec_of X hcd) rfl (BindsTo.of_eq rfl) (by show ∀ y ∈ iSc.names, y.2 ≠ NameKind.cell; decide) (fun y hy => by
    rcases List.mem_cons.mp hy with z | hy
    · rw [z]; rfl
    rcases List.mem_cons.mp hy with z | hy
    · rw [z]; rfl
    rcases List.mem_cons.mp hy with z | hy
    · rw [z]; rfl
    cases hy) (fun h₁ hns k => ?_)
  have X₁ : K.In h₁ := X.keeps k
  have hx₁ := k _ _ hx
  have I₁ : InstAt h₁ x (excO C t0) C none := ⟨hx₁, rfl, rfl, trivial⟩
  have hC₁ := X₁ _ _ hC
  refine ks_wpAt_execs_cons (ks_wpAt_Expr_any (ks_wpAt_MethodCall ?_))
  refine ks_wpAt_super_base (f := fI) (cc := cda) (tf := tf) (vs := vs) (file := Pr.main.file) rfl rfl rfl rfl (X₁ _ _ ho) rfl rfl rfl (X₁ _ _ hcode) rfl hvs PT.file PT.sup ?_
  refine ks_loadName_global rfl rfl (loadGlobal_builtin (hg.keeps k) hm (hb.keeps k) hmb ⟨rfl, ?_⟩)
  refine wpAny_loadName_free rfl rfl (c := cc) rfl ⟨_, X₁ _ _ hcell, rfl⟩ ?_
  refine wpAny_loadName_local rfl rfl hns rfl ?_
  refine ks_wpAny_isType_cls hC₁ rfl ⟨rfl, ?_⟩
  refine ks_wpAny_call_super (C := C) hC₁ rfl hx₁ rfl (fun c e => by cases e) (looks_mroIn X₁ T.ms) (fun h₂ hso k₂ => ?_)
  have X₂ : K.In h₂ := X₁.keeps k₂
  have hx₂ := k₂ _ _ hx₁
  have I₂ : InstAt h₂ x (excO C t0) C none := ⟨hx₂, rfl, rfl, trivial⟩
  have hns₂ := hns.keeps k₂
  refine kxs_getMethod kxs_ValueError hso (looks_opaque X₂ T.st) (l₀ := .ref C :: bm) ?_ rfl X₂ hal (I₂.type.andThen (looks_subIn X₂ T.veC)) (ks_ne X₂ I₂ hcl) (by decide) ?_
  · exact fun A Q E s k q => wpAny_bind ((looks_clsIn X₂ hcl) A _ E s k (wpAny_pure q))
  have k₃ : ∀ b o, h₂.get? b = some o → (h₂.push (kxs_mw "ValueError.__init__" x)).get? b = some o := fun b o e => Heap.get?_push_of_some _ e
  have X₃ := X₂.keeps k₃
  have hx₃ := k₃ _ _ hx₂
  have hns₃ := hns₂.keeps k₃
  have hu₃ : (h₂.push (kxs_mw "ValueError.__init__" x)).get? h₂.objs.size = some (kxs_mw "ValueError.__init__" x) := Heap.get?_push_at rfl rfl
  refine kxs_callWith (i := "ValueError.__init__") (x := x) (by rfl) (evalArgs_plain (spliced_cons ?_))
  refine ldLo hns₃ rfl rfl (v := v1) rfl ?_
  refine spliced_cons (ldLo hns₃ rfl rfl (v := v2) rfl (spliced_nil ⟨hu₃, ?_⟩))
  refine call_mw (X₃ _ _ hC) hx₃ hu₃ (size2 _ _) (fun h₄ t4 k₄ hx₄ => ?_)
  have up : ∀ b o, hp.get? b = some o → b ≠ x → h₄.get? b = some o := fun b o e hb => k₄ b o hb (k₃ _ _ (k₂ _ _ (k _ _ e)))
  have X₄ : K.In h₄ := fun b o e => up b o (X _ _ e) (fun z => by rw [z, hnx] at e; cases e)
  have hns₄ : h₄.Ns hp.objs.size (fun y => ([("self", Value.ref x), ("line", v1), ("field", v2)] : List (Str × Value)).reverse.lookup y) := by
    obtain ⟨oL, es, ep, hL, r⟩ := hns₃
    exact ⟨oL, es, ep, k₄ _ _ (fun z => absurd (Heap.lt_size hx) (by rw [← z]; exact Nat.lt_irrefl _)) hL, r⟩
  refine wpAt_of_wpAny ?_
  -- self.line = line
  refine wpAny_execs_cons (plainObj_wpAny_Assign_Attribute (ldLo hns₄ rfl rfl (v := v1) rfl (ldLo hns₄ rfl rfl (v := .ref x) rfl ?_)))
  refine set_plain X₄ (ox := excO C t4) (od := none) ⟨hx₄, rfl, rfl, trivial⟩ T.sa ?_
  refine exc_osa X₄ hx₄ hcl (show refsVE (.ref C :: bm) = true from hbm) rfl T.noL (fun h₅ tk₅ dx k₅ dn dne hx₅ hn₅ => ?_)
  have X₅ : K.In h₅ := fun b o e => k₅ b o (fun z => by rw [z, hnx] at e; cases e) (X₄ _ _ e)
  have hns₅ : h₅.Ns hp.objs.size (fun y => ([("self", Value.ref x), ("line", v1), ("field", v2)] : List (Str × Value)).reverse.lookup y) := by
    obtain ⟨oL, es, ep, hL, r⟩ := hns₄
    exact ⟨oL, es, ep, k₅ _ _ (fun z => absurd (Heap.lt_size hx) (by rw [← z]; exact Nat.lt_irrefl _)) hL, r⟩
  obtain ⟨oD, esD, epD, hoD, hdD, _⟩ := hn₅.count (ns := ["line"]) (fun y hy => by
    by_cases e : y = "line"
    · rw [e]; exact List.mem_cons_self ..
    · exact absurd (if_neg e) hy)
  refine wpAny_execs_cons (plainObj_wpAny_Assign_Attribute (ldLo hns₅ rfl rfl (v := v2) rfl (ldLo hns₅ rfl rfl (v := .ref x) rfl ?_)))
  refine set_plain X₅ (ox := { cls := .ref C, dict := some dx, data := .fields #[.ref t4, .none, .none, .none, .bool false, .none] }) (od := some oD) ⟨hx₅, rfl, rfl, hoD⟩ T.sa ?_
  refine OEX.osa_old X₅ hx₅ hn₅ (nl := ["line"]) (fun y hy => by
    by_cases e : y = "line"
    · rw [e]; exact List.mem_cons_self ..
    · exact absurd (if_neg e) hy) (by decide) hcl (show refsVE (.ref C :: bm) = true from hbm) rfl T.noF (fun h₆ tk₆ k₆ hn₆ => ?_)
  have hsz : hp.objs.size ≤ dx := by
    have z := hns₄.lt
    exact Nat.le_of_lt (Nat.lt_of_lt_of_le z dn)
  exact wpAny_execs_nil (hq h₆ tk₆ dx t4 ⟨fun b o hb e => k₆ b o (fun z => absurd (Heap.lt_size e) (by rw [z]; exact Nat.not_lt.mpr hsz)) (k₅ b o hb (up b o e hb)), k₆ _ _ (Ne.symm dne) hx₅, hsz, dne, hn₆⟩)
end
end K12
namespace K12
open PySem PySem.Spec PyProof.Rows L2
open PySem.W PySem.Calls PySem.HandSPX
structure ItMade (h h' : Heap) (e C d : Addr) (v1 v2 : Value) : Prop where
  keep : ∀ b o, h.get? b = some o → h'.get? b = some o
  new : h.objs.size ≤ e
  obj : ∃ oe vs, h'.get? e = some oe ∧ oe.cls = .ref C ∧ oe.dict = some d ∧ oe.data = .fields vs ∧ vs[1]? = some .none
  dbig : h.objs.size ≤ d
  dne : d ≠ e
  ns : h'.Ns1 d (fsM v1 v2)
section
variable {prog : Program} {w : World} {A : Around} {R : Result → Shared → Prop} {s : Shared} {K : Frag} {C fI : Addr} {mg mb : Str → Option Value}
theorem it_made (T : ItT K C fI) (PT : PrT prog) {v1 v2 : Value} (X : K.In s.heap) (hlim : s.heap.NoLimit)
    (hg : s.heap.Ns mainGlobals mg) (hm : mg "super" = none) (hb : s.heap.Ns builtinsNs mb) (hmb : mb "super" = some (.type "super")) (hroom : A.depth + 1 < recursionLimit)
    (hq : ∀ h' tk e d, ItMade s.heap h' e C d v1 v2 → R (.ok (.ret (.ref e))) { s with heap := h', toks := tk }) :
    codeAny (model prog w) A (.call (.ref C) ⟨[v1, v2], []⟩) R s := by
  obtain ⟨nm, q, N, bs, bm, sn, sub, ab, col, dd, k0, k1, k2, k3, k5, hC, hbm⟩ := T.cls
  obtain ⟨hp, g, dr, tk, os⟩ := s
  have k : ∀ b o, hp.get? b = some o → ((hp.push (kdv_tup [v1, v2])).push (excO C hp.objs.size)).get? b = some o := fun b o e => Heap.get?_push_of_some _ (Heap.get?_push_of_some _ e)
  have hget : ((hp.push (kdv_tup [v1, v2])).push (excO C hp.objs.size)).get? (hp.objs.size + 1) = some (excO C hp.objs.size) := by heap_get
  have hnx : K.lookup (hp.objs.size + 1) = none := by
    cases e : K.lookup (hp.objs.size + 1) with
    | none => rfl
    | some o =>
      have z : hp.get? (hp.objs.size + 1) = some o := X _ _ e
      exact absurd (Nat.lt_of_succ_lt (Heap.lt_size z)) (Nat.lt_irrefl _)
  refine call_own F.excBase_ValueError (fun X => refsVE_contains X bm hbm) (X _ _ hC) (looks_findIn X T.iC) (fun self => bind_fn X self T.tC) (size2 _ _) ?_
  refine it_init (s := ⟨(hp.push (kdv_tup [v1, v2])).push (excO C hp.objs.size), g, dr, tk, os⟩) T PT (X.keeps k) (hlim.keeps k) hget hnx (hg.keeps k) hm (hb.keeps k) hmb ?_ fun h' tk' dx t1 ⟨k', hx, dn, dne, hns⟩ => ?_
  · show A.depth + 1 < recursionLimit
    exact hroom
  · have old : ∀ b o, hp.get? b = some o → h'.get? b = some o := fun b o e => k' b o (Nat.ne_of_lt (Nat.lt_succ_of_lt (Heap.lt_size e))) (k b o e)
    have z : hp.objs.size + 1 + 1 ≤ dx := by
      first
        | (simpa only [Heap.size_push] using dn)
        | exact dn
        | (have q := dn; rw [Heap.size_push, Heap.size_push] at q; exact q)
    exact ⟨rfl, hq h' tk' (hp.objs.size + 1) dx ⟨old, Nat.le_succ _, ⟨_, _, hx, rfl, rfl, rfl, rfl⟩, Nat.le_trans (Nat.le_trans (Nat.le_succ _) (Nat.le_succ _)) z, dne, hns⟩⟩
end
theorem relO_it {v1 v2 : V} {u1 u2 : Value} (r1 : RelV v1 u1) (r2 : RelV v2 u2) (f : Str) : RelO (List.lookup f [(("line" : Str), v1), (("field" : Str), v2)]) (fsM u1 u2 f) := by
  unfold fsM
  by_cases hf : f = "field"
  · subst hf
    rw [if_pos rfl]
    have q : List.lookup ("field" : Str) [(("line" : Str), v1), (("field" : Str), v2)] = some v2 := by rfl
    rw [q]
    exact r2
  · rw [if_neg hf]
    have qf : (f == ("field" : Str)) = false := by simpa using hf
    by_cases hl : f = "line"
    · subst hl
      rw [if_pos rfl]
      have q : List.lookup ("line" : Str) [(("line" : Str), v1), (("field" : Str), v2)] = some v1 := by rfl
      rw [q]
      exact r1
    · rw [if_neg hl]
      have ql : (f == ("line" : Str)) = false := by simpa using hl
      have q2 : List.lookup f [(("line" : Str), v1), (("field" : Str), v2)] = none := by simp [List.lookup, ql, qf]
      rw [q2]
      trivial
section
variable {X : Cx} {C fI : Addr}
/-- an InvalidText's fields -/
abbrev fsI (v1 v2 : V) : List (Str × V) := [(("line" : Str), v1), (("field" : Str), v2)]
/-- InvalidText(a, b) -/
def tMkIt (C : Addr) (ta : TA) : L2.St → Hp → XK → Prop := fun σ H Q => ta σ H fun vs H1 => ∃ v1 v2, vs = [v1, v2] ∧ ∀ d, H1 d = none → Q (.ref C) (some d) (upd H1 d (.xd (fsI v1 v2)))
theorem pmk_it {a b : Expr} {ta : TA} {p pos : Pos} {k : Nat} (T : ItT X.K C fI) (PT : PrT X.prog) (gC : X.mg "InvalidText" = some (.ref C)) (hsup : X.mg "super" = none) (hr : Room k X.A) (ha : PA X [a, b] ta) (hg : Gl X "InvalidText" := by rfl)
    (he : starEach (a :: [b]) X.env = (false, eval a X.env) :: starEach [b] X.env := by rfl) (hpl : (backTo pos (starEach [b] X.env)).any (·.1) = false := by rfl) :
    PMk X (.Call (.Name "InvalidText" p) [a, b] [] pos) (tMkIt C ta) := by
  intro pins s σ H Q I h
  refine wpAny_Call_Name_kw (ld_glob I hg gC ?_)
  refine PySem.W.callWith_K (h₀ := X.base) I.ok.mod.kin T.kC (thn (ha.run pos pins s σ H _ I h) fun us s1 hh => ?_) he hpl
  obtain ⟨vs, H1, I1, r1, v1, v2, ev, q1⟩ := hh
  subst ev
  refine ⟨I1.kIn, ?_⟩
  obtain ⟨u1, u2, rfl, ru1, ru2⟩ := vals2 r1
  show wpAny _ _ (call (.ref C) [u1, u2]) _ _ _
  have hlim := I1.nolimit
  obtain ⟨mb, hb1, hb2⟩ := I1.mod.blt
  have hG : s1.heap.Ns mainGlobals X.mg := I1.mod.glob.keeps I1.bk
  have hB : s1.heap.Ns builtinsNs mb := hb1.keeps I1.bk
  have hmb : mb "super" = some (.type "super") := (hb2 "super" (by decide)).trans (by decide +kernel)
  obtain ⟨hp, g, dr, tk, os⟩ := s1
  refine wpAny_call (it_made (s := ⟨hp, g, dr, tk, os⟩) T PT I1.kIn hlim hG hsup hB hmb (by have := hr.dp; omega) fun h' tk' e d M => ?_)
  show MkP X pins σ Q (.ref e) ⟨h', g, dr, tk', os⟩
  obtain ⟨oe, fv, hoe, hc, hd, hdat, h1⟩ := M.obj
  have hns := M.ns
  obtain ⟨G', g1, g2⟩ := restrict h' fun b => decide (b ≠ e)
  have gk : ∀ b, b ≠ e → G'.get? b = h'.get? b := fun b hb => g1 b (decide_eq_true hb)
  have ge : G'.get? e = none := g2 e (by simp)
  have old : ∀ b o, hp.get? b = some o → G'.get? b = some o := fun b o q => (gk b (Nat.ne_of_lt (Nat.lt_of_lt_of_le (Heap.lt_size q) M.new))).trans (M.keep b o q)
  have ob : ObjOk X.prog X.w (upd H1 d (.xd (fsI v1 v2))) G' d (.xd (fsI v1 v2)) :=
    ⟨_, hns.at (fun o q => (gk d M.dne).trans q), fun f => relO_it ru1 ru2 f⟩
  have J : Inv X pins σ (upd H1 d (.xd (fsI v1 v2))) ⟨G', g, dr, tk', os⟩ := I1.laid (t' := tk') old M.dbig ob
  refine ⟨e, oe, fv, ⟨G', g, dr, tk', os⟩, _, .ref C, some d, rfl, J, fun b o q => ?_, ge, hoe, ⟨hc, hd⟩, hdat, h1, ?_, rfl, I1.bare, raises_own T.exC T.tyC, q1 d (I1.hok.fresh M.dbig)⟩
  · by_cases hb : b = e
    · have q' : G'.get? b = some o := q
      rw [hb, ge] at q'; cases q'
    · exact (gk b hb).symm.trans q
  · rw [upd_ne (Ne.symm M.dne)]
    exact I1.hok.fresh M.new
end
/-! ### isinstance of an error with a dict -/
/-- the class in isinstance -/
structure IsT (K : Frag) (C : Addr) : Prop where
  ha : findIn K (.ref C) "__class__" = some (some (.builtin "object.__class__"))
  hn : specialIn K (.builtin "object.__class__") "__get__" = some (some (.builtin "getset_descriptor.__get__"))
  ht : takesIn K (.builtin "object.__class__") = some true
  hm : mroIn K C (.type "object") = some true
/-- isinstance(e, c), e the exception that the suite holds, with a dict at dd -/
def rIsI (K : Frag) (D a dd : Addr) : List V → Hp → VK → Prop := fun xs H Q => ∃ (c : V) (cv : Value) (b : Bool) (fs : List (Str × V)), xs = [.ref a, c] ∧ (∀ u, RelV c u → u = cv) ∧ kitOne K (.ref D) cv = some b ∧ H dd = some (.xd fs) ∧ Q (.bl b) H
theorem call_isI {X : Cx} {a D fI dd : Addr} {oe : Obj} {pn : List (Addr × Obj)} (T : ItT X.K D fI) (U : IsT X.K D) (hz : Zc (.ref D) (some dd) oe) (hf : ∃ vs, oe.data = .fields vs) : CallR (X.suite a ((a, oe) :: pn)) (.builtin "isinstance") (rIsI X.K D a dd) := by
  intro pins s σ H xs us Q I r h
  obtain ⟨c, cv, b, fs, rfl, hcv, e, hdd, q⟩ := h
  obtain ⟨u1, u2, rfl, r1, r2⟩ := vals2 r
  obtain rfl : u1 = Value.ref a := r1
  have ec := hcv _ r2
  subst ec
  obtain ⟨hget, _⟩ := I.pin (a, oe) (List.mem_append.mpr (.inl List.mem_cons_self))
  obtain ⟨vs, hv⟩ := hf
  have hx : ObjOk X.prog X.w H s.heap dd (.xd fs) := I.hok dd _ hdd
  obtain ⟨mA, hns, hr⟩ := hx
  obtain ⟨od, ho, hl⟩ := lookIn_ns hns
  have J : InstAt s.heap a oe D (some od) := ⟨hget, hz.1, by unfold notCls; rw [hv] <;> rfl, by rw [hz.2]; exact ho⟩
  have hcl : (clsIn X.K D).isSome = true := by
    obtain ⟨cd, hc, _⟩ := any_some T.hdC
    rw [hc]
    rfl
  exact kia_one (kitx_exc (od := some od) hcl T.ga T.gg T.exC U.ha U.hn U.ht U.hm) I.kIn J e (fun z => nomatch z) fun tk => ⟨.bl b, H, I.kept (t' := tk) fun _ _ z => z, rfl, q⟩
theorem ItT.xf {K : Frag} {C fI : Addr} (T : ItT K C fI) : XfC K C := ⟨T.ga, T.gg, T.exC, T.hdC⟩
/-! ### from the head's facts -/
theorem ds {p : Prop} [Decidable p] {b : Bool} (h : (decide p && b) = true) : p ∧ b = true := ⟨of_decide_eq_true (Bool.and_eq_true_iff.mp h).1, (Bool.and_eq_true_iff.mp h).2⟩
theorem tail_ve : ∀ l : List Value, excTail veTail l = true → refsVE l = true
  | [], e => absurd e (by decide)
  | a :: r, e => by
    rcases excTail_cases (a :: r) e with ⟨c, r', q, h⟩ | q
    · obtain ⟨rfl, rfl⟩ := List.cons.inj q
      exact tail_ve r h
    · rw [q]
      rfl
theorem row_of {K : Frag} {C : Addr} (q : excInitIn K C veTail "ValueError.__new__" = true) (hd : hasDictIn K C = true) :
    ∃ nm qn N bs bm sn sub ab col dd k0 k1 k2 k3 k5, K.lookup C = some (excClassObj nm qn C N bs bm true sn sub ab col dd k0 k1 k2 k3 k5 "ValueError.__new__") ∧ refsVE bm = true := by
  unfold excInitIn at q
  split at q
  · rename_i dd cd sl ho
    have hcl : clsIn K C = some cd := by unfold clsIn; rw [ho]
    obtain ⟨cd', hc', hh⟩ := any_some hd
    rw [hcl] at hc'
    cases hc'
    split at q
    · rename_i C' bm k0 k1 k2 k3 n k5 hm hs
      simp only [Bool.and_eq_true, beq_iff_eq, Bool.not_eq_true'] at q
      obtain ⟨⟨⟨rfl, rfl⟩, hdel⟩, ht⟩ := q
      obtain ⟨nm, bs, mro, ns, qn, hd', sn, sub, ab, col, del⟩ := cd
      dsimp only at hm hdel hh
      subst hm hdel hh
      have hsl : sl = #[k0, k1, k2, k3, some (.builtin "ValueError.__new__"), k5] := by
        obtain ⟨l⟩ := sl
        simp only at hs
        rw [hs]
      subst hsl
      exact ⟨nm, qn, ns, bs, bm, sn, sub, ab, col, dd, k0, k1, k2, k3, k5, ho, tail_ve _ ht⟩
    · cases q
  · cases q
theorem fn_of_head {K : Frag} (h1 : initCell K = true) (h2 : initW K = valI) :
    ∃ (oc kV doc pm ct : Value) (od an : Option Addr) (cda cc : Addr) (osl : Array (Option Value)) (ccl cl : Value) (cdd cld : Option Addr) (vs : Array Value) (ccs csl : Array (Option Value)) (tf : Tok),
    K.lookup (fI K) = some ⟨oc, od, .func (ksFn "__init__" "InvalidText.__init__" iP (defBody sInit) iSc .none kV doc pm an (.ref cda) ct cc), osl⟩ ∧ codeIn K (.ref cda) "InvalidText.__init__" = true ∧
    K.lookup cda = some ⟨ccl, cdd, .fields vs, ccs⟩ ∧ (vs[2]? : Option Value) = some (.str Pr.main.file tf) ∧ K.lookup cc = some ⟨cl, cld, .cell (some (.ref (gI K))), csl⟩ := by
  unfold initCell at h1
  unfold initW at h2
  split at h1
  · rename_i oc od fd osl ho
    rw [ho] at h2
    dsimp only at h2
    obtain ⟨h34, h56⟩ := Bool.and_eq_true_iff.mp h1
    obtain ⟨h3, h4⟩ := Bool.and_eq_true_iff.mp h34
    obtain ⟨h5, h6⟩ := Bool.and_eq_true_iff.mp h56
    clear h34 h56 h1
    split at h3
    · rename_i c hc
      split at h3
      · rename_i ccl cdd vs ccs hcl
        split at h3
        · rename_i file tf hv
          split at h4
          · rename_i x cc hcc
            obtain ⟨h7, h8⟩ := ds h4
            split at h8
            · rename_i cl cld D csl hcell
              have eD := of_decide_eq_true h8
              split at h6
              · rename_i hdv
                obtain ⟨fn, fq, fp, fb, fs, fg, fcl, fdv, fkv, fdoc, fpm, fan, fcd, fct, fbl⟩ := fd
                have e := Option.some.inj h2
                dsimp only at e hc hcc hdv h5
                injection e with e1 e
                injection e with e2 e
                injection e with e3 e
                injection e with e4 e
                injection e with e5 e
                injection e with e6 e7
                rw [hc] at h5
                subst h7 eD hdv hc hcc e1 e2 e3 e4 e5 e6 e7
                exact ⟨oc, fkv, fdoc, fpm, fct, od, fan, c, cc, osl, ccl, cl, cdd, cld, vs, ccs, csl, tf, ho, h5, hcl, by rw [hv, of_decide_eq_true h3], hcell⟩
              · cases h6
            · cases h8
          · cases h4
        · cases h3
      · cases h3
    · cases h3
  · cases h1
theorem it_head {K : Frag} (h : exB K = true) (h2 : initW K = valI) : ItT K (gI K) (fI K) ∧ IsT K (gI K) ∧ (∀ p ∈ isiN, kitOne K (.ref (gI K)) (.ref (He.ga K p.1)) = some p.2) ∧ kitOne K (.ref (gI K)) (.type "ValueError") = some true ∧ exmOne K (.ref (gI K)) (.ref (He.ga K "GroupError")) = some true := by
  unfold exB at h
  obtain ⟨ha, hb⟩ := Bool.and_eq_true_iff.mp h
  obtain ⟨a1, ha⟩ := Bool.and_eq_true_iff.mp ha
  obtain ⟨a2, ha⟩ := Bool.and_eq_true_iff.mp ha
  obtain ⟨a3, a4⟩ := Bool.and_eq_true_iff.mp ha
  obtain ⟨b1, hb⟩ := Bool.and_eq_true_iff.mp hb
  obtain ⟨b2, hb⟩ := ds hb
  obtain ⟨b3, hb⟩ := ds hb
  obtain ⟨hc, hb⟩ := Bool.and_eq_true_iff.mp hb
  obtain ⟨hd, he⟩ := Bool.and_eq_true_iff.mp hb
  obtain ⟨c1, hc⟩ := ds hc
  obtain ⟨c2, hc⟩ := ds hc
  obtain ⟨c3, hc⟩ := ds hc
  obtain ⟨c4, hc⟩ := ds hc
  obtain ⟨c5, hc⟩ := ds hc
  obtain ⟨c6, hc⟩ := ds hc
  obtain ⟨c7, hc⟩ := ds hc
  have c8 := of_decide_eq_true hc
  obtain ⟨d1, hd⟩ := ds hd
  obtain ⟨d2, hd⟩ := ds hd
  obtain ⟨d3, hd⟩ := ds hd
  obtain ⟨d4, hd⟩ := ds hd
  obtain ⟨d5, hd⟩ := ds hd
  obtain ⟨d6, hd⟩ := ds hd
  obtain ⟨d7, hd⟩ := ds hd
  have d8 := of_decide_eq_true hd
  exact ⟨⟨row_of a1 a2, d1, c1, c2, d2, d3, d4, d5, a3, c3, c4, of_decide_eq_true a4, a2, d6, d7, d8, fn_of_head he h2⟩, ⟨c5, c6, c7, c8⟩, fun p hp => of_decide_eq_true (List.all_eq_true.mp b1 p hp), b2, b3⟩
end K12
/-! The plain law: texts of counts, read and written. -/
namespace K12
open PySem TL SX
abbrev Cnt : Type := List (Int × Int)
def dig (c : Nat) : Bool := decide (48 ≤ c) && decide (c ≤ 57)
/-- the number that a word writes -/
def numOk (w : List Nat) : Bool := decide (1 ≤ w.length) && decide (w.length ≤ 60) && w.all dig && (decide (w = [48]) || decide (w.head? ≠ some 48))
def numW (w : List Nat) : Option Int := if numOk w = true then some ((NumText.digitsVal w : Nat) : Int) else none
/-- a prime below 10000 -/
def noDiv (n : Int) : Bool := (List.range 98).all fun i => !(decide (((i : Int) + 2) < n) && decide (n.fmod ((i : Int) + 2) = 0))
def isPr (n : Int) : Bool := decide (1 < n) && decide (n < 10000) && noDiv n
def isPw (n : Int) : Bool := decide (1 ≤ n) && decide (n ≤ 6)
/-- a word as a pair, behind the prime lst -/
def aft (lst : Option Int) (a : Int) : Bool := match lst with
  | none => true
  | some m => decide (m < a)
def pairP (ps : List (Option Int)) (lst : Option Int) : Option (Int × Int) := match ps with
  | [some a, some b] => if (isPr a && isPw b && aft lst a) = true then some (a, b) else none
  | _ => none
def pairO (w : List Nat) (lst : Option Int) : Option (Int × Int) := pairP ((spl [94] 0 [] w).map numW) lst
def lastP (f : Cnt) : Option Int := f.getLast?.map (·.1)
def go : Nat → Cnt → List (List Nat) → Except Nat Cnt
  | _, f, [] => .ok f
  | k, f, w :: ws => match pairO w (lastP f) with
    | none => .error k
    | some p => go (k + 1) (f ++ [p]) ws
def readW (ws : List (List Nat)) : Except Nat Cnt := if ws.head? = some [49] then (if ws.length = 1 then .ok [] else .error 1) else go 0 [] ws
def readL (l : List Nat) : Except Nat Cnt := readW (spl [32] 0 [] l)
def wordP (p : Int × Int) : List Nat := numL p.1.toNat ++ (94 :: numL p.2.toNat)
def render (c : Cnt) : List Nat := if c = [] then [49] else joinL [32] (c.map wordP)
def okP (p : Int × Int) : Prop := isPr p.1 = true ∧ isPw p.2 = true
def Valid (c : Cnt) : Prop := (∀ p ∈ c, okP p) ∧ c.Pairwise fun a b => a.1 < b.1
/-! ### splitting and joining -/
theorem pre1 (s c : Nat) (r : List Nat) : pre [s] (c :: r) = (c == s) := by
  show ([c] == [s]) = (c == s)
  by_cases h : c = s
  · rw [h]
    simp
  · have e1 : (c == s) = false := beq_eq_false_iff_ne.mpr h
    rw [e1, beq_eq_false_iff_ne]
    intro z
    injection z with z1
    exact h z1
theorem spl_ne (s : Nat) : ∀ (l acc : List Nat), spl [s] 0 acc l ≠ []
  | [], acc => by
    rw [spl_nil]
    simp
  | c :: r, acc => by
    cases e : pre [s] (c :: r) with
    | true =>
      rw [spl_hit e]
      simp
    | false =>
      rw [spl_miss e]
      exact spl_ne s r _
theorem joinL_cons {s : Nat} {a : List Nat} {r : List (List Nat)} (h : r ≠ []) : joinL [s] (a :: r) = a ++ (s :: joinL [s] r) := by
  cases r with
  | nil => exact absurd rfl h
  | cons q r => rfl
/-- split, then joined -/
theorem join_spl (s : Nat) : ∀ (l acc : List Nat), joinL [s] (spl [s] 0 acc l) = acc ++ l
  | [], acc => by
    rw [spl_nil]
    show acc = acc ++ []
    rw [List.append_nil]
  | c :: r, acc => by
    have e0 := pre1 s c r
    cases e : pre [s] (c :: r) with
    | true =>
      rw [e0] at e
      rw [spl_hit (e0.trans e), show ([s] : List Nat).length - 1 = 0 from rfl, joinL_cons (spl_ne s r []), join_spl s r [], beq_iff_eq.mp e]
      rfl
    | false =>
      rw [spl_miss e, join_spl s r, List.append_assoc]
      rfl
/-! ### numbers -/
theorem dig_all {w : List Nat} (h : w.all dig = true) : NumText.AllDigits w := fun c hc => by
  have z := List.all_eq_true.mp h c hc
  unfold dig at z
  obtain ⟨a, b⟩ := Bool.and_eq_true_iff.mp z
  exact ⟨of_decide_eq_true a, of_decide_eq_true b⟩
theorem numOk_iff {w : List Nat} : numOk w = true ↔ 1 ≤ w.length ∧ w.length ≤ 60 ∧ w.all dig = true ∧ (w = [48] ∨ w.head? ≠ some 48) := by
  unfold numOk
  simp only [Bool.and_eq_true, Bool.or_eq_true, decide_eq_true_eq]
  exact ⟨fun ⟨⟨⟨a, b⟩, c⟩, d⟩ => ⟨a, b, c, d⟩, fun ⟨a, b, c, d⟩ => ⟨⟨⟨a, b⟩, c⟩, d⟩⟩
theorem map_ofNat_toNat {w : List Nat} (h : NumText.AllDigits w) : (w.map Char.ofNat).map Char.toNat = w := by
  induction w with
  | nil => rfl
  | cons c r ih =>
    have hc := h.head
    rw [List.map_cons, List.map_cons, ih h.tail]
    have e : (Char.ofNat c).toNat = c := by
      have key : ∀ d : Nat, d < 10 → (Char.ofNat (48 + d)).toNat = 48 + d := by decide
      have z := key (c - 48) (by omega)
      rw [show 48 + (c - 48) = c by omega] at z
      exact z
    rw [e]
/-- a word without leading zeros is the writing of its number -/
theorem num_back {w : List Nat} (h : numOk w = true) : numL (NumText.digitsVal w) = w := by
  obtain ⟨h1, h2, h3, h4⟩ := numOk_iff.mp h
  have hd := dig_all h3
  rcases h4 with rfl | h4
  · decide
  · have e := NumText.toDigits_digitsVal (w.length - 1) w (by omega) hd (by
      cases w with
      | nil => simp at h1
      | cons c r =>
        right
        refine ⟨c, r, rfl, ?_⟩
        have hc := hd.head
        have : c ≠ 48 := fun z => h4 (by rw [z]; rfl)
        omega)
    unfold numL
    rw [e]
    exact map_ofNat_toNat hd
theorem numW_some {w : List Nat} {n : Int} (h : numW w = some n) : 0 ≤ n ∧ numL n.toNat = w := by
  unfold numW at h
  cases e : numOk w with
  | false => rw [e] at h; cases h
  | true =>
    rw [e] at h
    have e2 : ((NumText.digitsVal w : Nat) : Int) = n := Option.some.inj h
    rw [← e2]
    exact ⟨by omega, by rw [Int.toNat_natCast]; exact num_back e⟩
theorem numL_head {n : Nat} (h : n ≠ 0) : (numL n).head? ≠ some 48 := by
  induction n using Nat.strongRecOn with
  | _ n ih =>
    by_cases h10 : n < 10
    · rw [numL_lt h10]
      intro z
      injection z with z
      omega
    · rw [numL_step (by omega)]
      have z := ih (n / 10) (by omega) (by omega)
      have ne := numL_ne (n / 10)
      cases q : numL (n / 10) with
      | nil => exact absurd q ne
      | cons x y =>
        rw [q] at z
        exact z
theorem numL_dig (n : Nat) : (numL n).all dig = true := List.all_eq_true.mpr fun c hc => by
  have z := numL_digits n c hc
  unfold dig
  rw [decide_eq_true z.1, decide_eq_true z.2]
  rfl
theorem numW_num {n : Nat} (h : n < 10 ^ 60) : numW (numL n) = some (n : Int) := by
  have e : numOk (numL n) = true := numOk_iff.mpr ⟨List.length_pos_iff.mpr (numL_ne n), numL_len (by decide) h, numL_dig n, by
    by_cases h0 : n = 0
    · left
      rw [h0]
      decide
    · right
      exact numL_head h0⟩
  unfold numW
  rw [e, if_pos rfl, numL_val]
/-! ### pairs -/
theorem isPr_iff {n : Int} : isPr n = true ↔ 1 < n ∧ n < 10000 ∧ noDiv n = true := by
  unfold isPr
  simp only [Bool.and_eq_true, decide_eq_true_eq]
  exact ⟨fun ⟨⟨a, b⟩, c⟩ => ⟨a, b, c⟩, fun ⟨a, b, c⟩ => ⟨⟨a, b⟩, c⟩⟩
theorem isPw_iff {n : Int} : isPw n = true ↔ 1 ≤ n ∧ n ≤ 6 := by
  unfold isPw
  simp only [Bool.and_eq_true, decide_eq_true_eq]
theorem pairO_some {w : List Nat} {lst : Option Int} {p : Int × Int} (h : pairO w lst = some p) : okP p ∧ wordP p = w ∧ (∀ m, lst = some m → m < p.1) := by
  unfold pairO at h
  generalize e : (spl [94] 0 [] w).map numW = qs at h
  unfold pairP at h
  split at h
  · rename_i a b
    split at h
    · rename_i hc
      have ep : (a, b) = p := Option.some.inj h
      obtain ⟨hab, hl⟩ := Bool.and_eq_true_iff.mp hc
      obtain ⟨ha, hb⟩ := Bool.and_eq_true_iff.mp hab
      have hj := join_spl 94 w []
      generalize spl [94] 0 [] w = ps at e hj
      obtain ⟨x, y, eps⟩ : ∃ x y, ps = [x, y] := by
        have hl : ps.length = 2 := by
          have z := congrArg List.length e
          rw [List.length_map] at z
          exact z
        cases ps with
        | nil => simp at hl
        | cons x r =>
          cases r with
          | nil => simp at hl
          | cons y r =>
            cases r with
            | nil => exact ⟨x, y, rfl⟩
            | cons z r => simp at hl
      · subst eps
        rw [List.map_cons, List.map_cons, List.map_nil] at e
        injection e with e1 e2
        injection e2 with e2 _
        obtain ⟨_, hx⟩ := numW_some e1
        obtain ⟨_, hy⟩ := numW_some e2
        refine ⟨by rw [← ep]; exact ⟨ha, hb⟩, ?_, fun m hm => ?_⟩
        · rw [← ep]
          show numL a.toNat ++ (94 :: numL b.toNat) = w
          rw [hx, hy]
          exact hj
        · rw [hm] at hl
          rw [← ep]
          exact of_decide_eq_true hl
    · cases h
  · cases h
theorem free94 (n : Nat) : 94 ∉ numL n := numL_free (.inr (by decide))
theorem free32 (p : Int × Int) : 32 ∉ wordP p := fun h => by
  rcases List.mem_append.mp h with h | h
  · exact numL_free (.inl (by decide)) h
  · rcases List.mem_cons.mp h with h | h
    · cases h
    · exact numL_free (.inl (by decide)) h
theorem spl_word (p : Int × Int) : spl [94] 0 [] (wordP p) = [numL p.1.toNat, numL p.2.toNat] :=
  spl_join (c := 94) (sep := []) (parts := [numL p.1.toNat, numL p.2.toNat]) (by simp) fun x hx => by
    rcases List.mem_cons.mp hx with h | h
    · rw [h]; exact free94 _
    · rw [List.mem_singleton.mp h]; exact free94 _
theorem pairO_word {p : Int × Int} {lst : Option Int} (h : okP p) (hl : ∀ m, lst = some m → m < p.1) : pairO (wordP p) lst = some p := by
  obtain ⟨h1, h2⟩ := h
  obtain ⟨a1, a2, _⟩ := isPr_iff.mp h1
  obtain ⟨b1, b2⟩ := isPw_iff.mp h2
  have n1 : numW (numL p.1.toNat) = some p.1 := by
    rw [numW_num (by omega), Int.toNat_of_nonneg (by omega)]
  have n2 : numW (numL p.2.toNat) = some p.2 := by
    rw [numW_num (by omega), Int.toNat_of_nonneg (by omega)]
  unfold pairO
  rw [spl_word, List.map_cons, List.map_cons, List.map_nil, n1, n2]
  show (if (isPr p.1 && isPw p.2 && aft lst p.1) = true then some (p.1, p.2) else none) = some p
  have h3 : aft lst p.1 = true := by
    cases lst with
    | none => rfl
    | some m => exact decide_eq_true (hl m rfl)
  rw [h1, h2, h3]
  rfl
/-! ### the whole text -/
theorem valid_snoc {f : Cnt} {p : Int × Int} (h : Valid f) (hp : okP p) (hl : ∀ m, lastP f = some m → m < p.1) : Valid (f ++ [p]) := by
  refine ⟨fun q hq => ?_, List.pairwise_append.mpr ⟨h.2, List.pairwise_singleton _ _, fun a ha b hb => ?_⟩⟩
  · rcases List.mem_append.mp hq with hq | hq
    · exact h.1 q hq
    · rw [List.mem_singleton.mp hq]; exact hp
  · rw [List.mem_singleton.mp hb]
    have hne : f ≠ [] := fun z => by rw [z] at ha; cases ha
    have e := List.dropLast_concat_getLast hne
    have el : f.getLast? = some (f.getLast hne) := List.getLast?_eq_some_getLast hne
    have hlast : (f.getLast hne).1 < p.1 := hl _ (by unfold lastP; rw [el]; rfl)
    have h2 := h.2
    rw [← e] at ha h2
    rcases List.mem_append.mp ha with ha | ha
    · have z := (List.pairwise_append.mp h2).2.2 a ha (f.getLast hne) (List.mem_singleton.mpr rfl)
      omega
    · rw [List.mem_singleton.mp ha]
      exact hlast
theorem go_ok : ∀ (ws : List (List Nat)) (k : Nat) (f c : Cnt), Valid f → go k f ws = .ok c → Valid c ∧ c.map wordP = f.map wordP ++ ws
  | [], k, f, c, hf, h => by
    have e : f = c := Except.ok.inj h
    rw [← e, List.append_nil]
    exact ⟨hf, rfl⟩
  | w :: ws, k, f, c, hf, h => by
    unfold go at h
    cases e : pairO w (lastP f) with
    | none => rw [e] at h; cases h
    | some p =>
      rw [e] at h
      obtain ⟨h1, h2, h3⟩ := pairO_some e
      obtain ⟨v, m⟩ := go_ok ws (k + 1) (f ++ [p]) c (valid_snoc hf h1 h3) h
      refine ⟨v, ?_⟩
      rw [m, List.map_append, List.map_cons, List.map_nil, h2, List.append_assoc]
      rfl
/-- what is read is a count, and writes the line again -/
theorem read_ok {l : List Nat} {c : Cnt} (h : readL l = .ok c) : Valid c ∧ render c = l := by
  have hj := join_spl 32 l []
  have hne := spl_ne 32 l []
  unfold readL readW at h
  generalize spl [32] 0 [] l = ws at h hj hne
  split at h
  · rename_i hh
    split at h
    · rename_i hl
      have e : ([] : Cnt) = c := Except.ok.inj h
      match ws, hl with
      | [w], _ =>
        injection hh with hh
        rw [← e]
        refine ⟨⟨fun p hp => (List.not_mem_nil hp).elim, List.Pairwise.nil⟩, ?_⟩
        show [49] = l
        rw [← hh]
        exact hj
    · cases h
  · obtain ⟨v, m⟩ := go_ok ws 0 [] c ⟨fun p hp => (List.not_mem_nil hp).elim, List.Pairwise.nil⟩ h
    refine ⟨v, ?_⟩
    rw [List.map_nil, List.nil_append] at m
    unfold render
    rw [if_neg (fun z => hne (by rw [← m, z]; rfl)), m]
    exact hj
theorem go_words : ∀ (r f : Cnt) (k : Nat), Valid (f ++ r) → go k f (r.map wordP) = .ok (f ++ r)
  | [], f, k, _ => by
    rw [List.append_nil]
    rfl
  | p :: r, f, k, h => by
    have hp : okP p := h.1 p (List.mem_append_right _ (List.mem_cons_self ..))
    have e : pairO (wordP p) (lastP f) = some p := pairO_word hp fun m hm => by
      unfold lastP at hm
      cases q : f.getLast? with
      | none => rw [q] at hm; cases hm
      | some z =>
        rw [q] at hm
        have e2 : z.1 = m := Option.some.inj hm
        have hz : z ∈ f := List.mem_of_getLast? q
        have := (List.pairwise_append.mp h.2).2.2 z hz p (List.mem_cons_self ..)
        omega
    rw [List.map_cons]
    unfold go
    rw [e]
    show go (k + 1) (f ++ [p]) (r.map wordP) = _
    have e3 : f ++ p :: r = (f ++ [p]) ++ r := by rw [List.append_assoc]; rfl
    rw [e3]
    exact go_words r (f ++ [p]) (k + 1) (by rw [← e3]; exact h)
/-- what is written is read -/
theorem read_render {c : Cnt} (h : Valid c) : readL (render c) = .ok c := by
  unfold render
  by_cases hc : c = []
  · rw [hc, if_pos rfl]
    rfl
  · rw [if_neg hc]
    have hne : c.map wordP ≠ [] := fun z => hc (List.map_eq_nil_iff.mp z)
    unfold readL
    rw [spl_join (c := 32) (sep := []) hne (fun p hp => by
      obtain ⟨q, _, rfl⟩ := List.mem_map.mp hp
      exact free32 q)]
    unfold readW
    rw [if_neg (fun z => by
      cases c with
      | nil => exact hc rfl
      | cons p r =>
        have z2 : wordP p = [49] := Option.some.inj z
        have z3 : 94 ∈ wordP p := List.mem_append_right _ (List.mem_cons_self ..)
        rw [z2] at z3
        simp at z3)]
    exact go_words c [] 0 (by rw [List.nil_append]; exact h)
theorem valid_nil : Valid [] := ⟨fun p hp => (List.not_mem_nil hp).elim, List.Pairwise.nil⟩
end K12
/-! the facts of the module, by name; a def by its place -/
namespace K12
open PySem PySem.Spec PyProof.Rows L2
/-- what the module's names hold -/
structure Fx (K : PySem.W.Frag) (mg : Str → Option Value) : Prop where
  glo : ∀ p ∈ fnN, mg p.1 = some (.ref (He.ga K p.1))
  cls : ∀ x ∈ clsN, mg x = some (.ref (He.ga K x))
  free : ∀ x ∈ freeN, mg x = none
  fd : ∀ (i : Nat) (d : He.DefD), fn[i]? = some d → ∃ fd, FunD K d.name d.qual d.params d.body d.scope (d.dvs K) (d.kws K) (He.fAd K d.at_) fd
  mtop : ∃ t, mg "TOP" = some (.int 10000 t)
  mpow : ∃ t, mg "MOST_POWER" = some (.int 6 t)
  mdig : ∃ t, mg "MOST_DIGITS" = some (.int 60 t)
  mark : ∃ t, mg "MARK" = some (.str "^" t)
  mnone : ∃ t, mg "NONE" = some (.str "1" t)
  digs : ∃ t, mg "DIGITS" = some (.str "0123456789" t)
abbrev Dff (K : PySem.W.Frag) (x : Str) (n : Nat) (dfl : List He.Dv) (fd : FuncData) : Prop := FunD K x x (defArgs (top n)) (defBody (top n)) (defScope (top n)) (dfl.map (He.Dv.v K)) [] (He.ga K x) fd
theorem Fx.def_ {K : PySem.W.Frag} {mg : Str → Option Value} (T : Fx K mg) (i : Nat) {x : Str} {n : Nat} {dfl : List He.Dv} (h : fnN[i]? = some (x, n, dfl) := by rfl) : ∃ fd, Dff K x n dfl fd ∧ mg x = some (.ref (He.ga K x)) := by
  have e : fn[i]? = some (mkD x n dfl) := by
    unfold fn
    rw [List.getElem?_map, h]
    rfl
  obtain ⟨fd, F⟩ := T.fd i _ e
  exact ⟨fd, F, T.glo _ (List.mem_of_getElem? h)⟩
section
variable {P : Program} {w : World} {K : PySem.W.Frag} {mg : Str → Option Value} {base : Heap} {k : Nat} {sp : Sp} {N ps : List Str} {x : Str} {n : Nat}
/-- a def that raises nothing, by its body -/
theorem cal0_of (T : Fx K mg) (i : Nat) (h : fnN[i]? = some (x, n, [])) (S : FnScope N ps (defScope (top n))) (len : ∀ vs H Q E, sp vs H Q E → vs.length = ps.length)
    (hb : ∀ (kV doc pm : Value) (an : Option Addr) (cdv ct : Value) (us : List Value), us.length = ps.length → bindArgs (PySem.W.fnOf x x (defArgs (top n)) (defBody (top n)) (defScope (top n)) .none kV doc pm an cdv ct) ⟨us, []⟩ = pure (ps.zip us))
    (hbody : ∀ (cdv : Value) (A : Around) (outer : List Env) (s : Shared) (H : Hp) (vs : List V) (Q : VK) (E : XK), Room k (A.deeper (envOfC x (defScope (top n)) s.heap.objs.size (He.ga K x) cdv)) → sp vs H Q E →
      ∃ t, PSs (cxOf CX0 P w K mg base N x (defScope (top n)) (He.ga K x) cdv A outer s H E).nox (defBody (top n)) t ∧ t { nx := fun _ H' => Q .non H', rt := Q } (start N vs) H) :
    CalX P w K mg base CX0 (k + 1) x sp [] := by
  obtain ⟨fd, F, hm⟩ := T.def_ i h
  refine ⟨He.ga K x, fd, ps, [], F.ok S len fun cdv A outer s H vs Q E hr hsp => ?_, hm, F.kp, FunD.bindsN F hb, .nil⟩
  obtain ⟨t, ht, q⟩ := hbody cdv A outer s H vs Q E hr hsp
  exact ⟨t, ht.nox, q⟩
/-- a def that may raise -/
theorem calX_of {CX : CXT} (T : Fx K mg) (i : Nat) (h : fnN[i]? = some (x, n, [])) (S : FnScope N ps (defScope (top n))) (len : ∀ vs H Q E, sp vs H Q E → vs.length = ps.length)
    (hb : ∀ (kV doc pm : Value) (an : Option Addr) (cdv ct : Value) (us : List Value), us.length = ps.length → bindArgs (PySem.W.fnOf x x (defArgs (top n)) (defBody (top n)) (defScope (top n)) .none kV doc pm an cdv ct) ⟨us, []⟩ = pure (ps.zip us))
    (hbody : ∀ (cdv : Value) (A : Around) (outer : List Env) (s : Shared) (H : Hp) (vs : List V) (Q : VK) (E : XK), Room k (A.deeper (envOfC x (defScope (top n)) s.heap.objs.size (He.ga K x) cdv)) → sp vs H Q E →
      ∃ t, PSs (cxOf CX P w K mg base N x (defScope (top n)) (He.ga K x) cdv A outer s H E) (defBody (top n)) t ∧ t { nx := fun _ H' => Q .non H', rt := Q } (start N vs) H) :
    CalX P w K mg base CX (k + 1) x sp [] := by
  obtain ⟨fd, F, hm⟩ := T.def_ i h
  exact ⟨He.ga K x, fd, ps, [], F.ok S len hbody, hm, F.kp, FunD.bindsN F hb, .nil⟩
/-- a def that wants to know that no repr is under way -/
theorem calG_of (T : Fx K mg) (i : Nat) (h : fnN[i]? = some (x, n, [])) (S : FnScope N ps (defScope (top n))) (len : ∀ vs H Q E, sp vs H Q E → vs.length = ps.length)
    (hb : ∀ (kV doc pm : Value) (an : Option Addr) (cdv ct : Value) (us : List Value), us.length = ps.length → bindArgs (PySem.W.fnOf x x (defArgs (top n)) (defBody (top n)) (defScope (top n)) .none kV doc pm an cdv ct) ⟨us, []⟩ = pure (ps.zip us))
    (hbody : ∀ (cdv : Value) (A : Around) (outer : List Env) (s : Shared) (H : Hp) (vs : List V) (Q : VK) (E : XK),
      A.guards = some [] → Room k (A.deeper (envOfC x (defScope (top n)) s.heap.objs.size (He.ga K x) cdv)) → PySem.W.codeIn K cdv x = true → (∀ g, K.lookup (He.ga K x) = some g → ∀ fd', g.data = .func fd' → fd'.code = cdv) → sp vs H Q E →
      ∃ t, PSs (cxOf CX0 P w K mg base N x (defScope (top n)) (He.ga K x) cdv A outer s H E).nox (defBody (top n)) t ∧ t { nx := fun _ H' => Q .non H', rt := Q } (start N vs) H) :
    CalG P w K mg base (k + 1) x sp := by
  obtain ⟨fd, F, hm⟩ := T.def_ i h
  exact ⟨He.ga K x, fd, ps, fnG_of F S len hbody, hm, F.kp, FunD.bindsN F hb⟩
end
section
variable {K : PySem.W.Frag} {mg : Str → Option Value}
theorem Fx.n_isinstance (T : Fx K mg) : mg "isinstance" = none := T.free _ (by decide +kernel)
theorem Fx.n_int (T : Fx K mg) : mg "int" = none := T.free _ (by decide +kernel)
theorem Fx.n_bool (T : Fx K mg) : mg "bool" = none := T.free _ (by decide +kernel)
theorem Fx.n_str (T : Fx K mg) : mg "str" = none := T.free _ (by decide +kernel)
theorem Fx.n_tuple (T : Fx K mg) : mg "tuple" = none := T.free _ (by decide +kernel)
theorem Fx.n_len (T : Fx K mg) : mg "len" = none := T.free _ (by decide +kernel)
theorem Fx.n_all (T : Fx K mg) : mg "all" = none := T.free _ (by decide +kernel)
theorem Fx.n_range (T : Fx K mg) : mg "range" = none := T.free _ (by decide +kernel)
theorem Fx.n_enumerate (T : Fx K mg) : mg "enumerate" = none := T.free _ (by decide +kernel)
theorem Fx.n_super (T : Fx K mg) : mg "super" = none := T.free _ (by decide +kernel)
theorem Fx.n_repr (T : Fx K mg) : mg "repr" = none := T.free _ (by decide +kernel)
theorem Fx.n_sorted (T : Fx K mg) : mg "sorted" = none := T.free _ (by decide +kernel)
theorem Fx.n_ValueError (T : Fx K mg) : mg "ValueError" = none := T.free _ (by decide +kernel)
end
end K12
/-! kinds: is_prime_by .. is_power -/
namespace K12
open PySem PySem.Spec PyProof.Rows L2
section
variable {P : Program} {w : World} {K : PySem.W.Frag} {mg : Str → Option Value} {base : Heap}
/-! ### is_prime_by -/
theorem scPB : FnScope ["number", "part"] ["number"] (defScope (top 11)) := ⟨rfl, rfl, rfl, by decide +kernel, rfl, by decide +kernel, by decide +kernel⟩
def spPB : Sp := fun vs H Q _ => ∃ n : Int, vs = [.int n] ∧ ∀ H', Same H H' → Q (.bl (decide (1 < n) && noDiv n)) H'
/-- the bools that are told of the parts below m -/
def pbs (n : Int) (m : Nat) : List Bool := ((List.range m).filter fun i : Nat => decide (((i : Int) + 2) < n)).map fun i : Nat => decide (n.fmod ((i : Int) + 2) > 0)
theorem pbs_step (n : Int) (m : Nat) : pbs n (m + 1) = if decide (((m : Int) + 2) < n) = true then pbs n m ++ [decide (n.fmod ((m : Int) + 2) > 0)] else pbs n m := by
  unfold pbs
  rw [List.range_succ, List.filter_append, List.map_append]
  cases h : decide (((m : Int) + 2) < n) with
  | true => simp only [List.filter_cons, h, List.filter_nil, if_true, List.map_cons, List.map_nil]
  | false => simp only [List.filter_cons, h, List.filter_nil, Bool.false_eq_true, if_false, List.map_nil, List.append_nil]
theorem pbs_len (n : Int) (m : Nat) : (pbs n m).length ≤ m := by
  unfold pbs
  rw [List.length_map]
  exact Nat.le_trans (List.length_filter_le _ _) (by rw [List.length_range]; exact Nat.le_refl _)
theorem fmod_pos {n d : Int} (hd : 0 < d) : decide (n.fmod d > 0) = !decide (n.fmod d = 0) := by
  have := Int.fmod_nonneg_of_pos n hd
  by_cases h : n.fmod d = 0
  · rw [decide_eq_true h, decide_eq_false (by omega)]
    rfl
  · rw [decide_eq_false h, decide_eq_true (by omega)]
    rfl
theorem pbs_all (n : Int) : (pbs n 98).all id = noDiv n := by
  unfold pbs noDiv
  rw [List.all_map, List.all_filter]
  congr 1
  funext i
  show (!decide (((i : Int) + 2) < n) || decide (n.fmod ((i : Int) + 2) > 0)) = _
  rw [fmod_pos (by omega), Bool.not_and]
theorem ok_PB (T : Fx K mg) : CalX P w K mg base CX0 1 "is_prime_by" spPB [] := by
  refine cal0_of T 0 rfl scPB (fun vs H Q E h => by obtain ⟨n, rfl, _⟩ := h; rfl) (fun _ _ _ _ _ _ us hl => match us, hl with | [_], _ => rfl) (fun cdv A outer s H vs Q E hr h => ⟨_,
    pss_one (ps_ret (pe_and (pe_cmpR op_gt (pv 0) pe_int (nomark _)) (pe_one (pe_callB (cr_all rfl) (by rfl) T.n_all (by decide +kernel) (pa_cons
      (pe_lc (own := [("part", 1)]) (g := gName 1) rfl scPB.nd (pi_range2 rfl T.n_range (pa_cons pe_int (pa_cons pe_int pa_nil))) (blkOk_by (N := ["number", "part"]) (sc := defScope (top 11)) (by decide +kernel))
        (fun _ _ _ _ _ => pg_name (i := 1) scPB.nd rfl (Or.inl rfl)) (fun _ _ _ _ _ => pts_one (pt_cmpR op_lt (pv 1) (pv 0) (nomark _))) (fun _ _ _ _ _ => pe_cmpR op_gt (pe_op op_modN (pv 0) (pv 1)) pe_int (nomark _))) pa_nil))))), ?_⟩)
  obtain ⟨n, rfl, q⟩ := h
  refine ⟨_, rfl, _, _, rfl, rfl, decide (1 < n), rfl, ?_⟩
  cases h1 : decide (1 < n) with
  | false =>
    rw [h1] at q
    exact q H (Same.refl H)
  | true =>
    refine ⟨2, 100, rfl, ⟨by decide, by decide, by decide, by decide⟩, fun D hD => ?_⟩
    refine lc_range (lo := 2) (n := 98) (fun i H' => ∃ H1, H' = upd H1 D (.lst ((pbs n i).map V.bl)) ∧ Same H H1) ⟨H, rfl, Same.refl H⟩ (fun i H' hi ⟨H1, e, sm⟩ => ?_) (fun H' ⟨H1, e, sm⟩ => ?_)
    · subst e
      refine ⟨rfl, _, rfl, _, rfl, _, _, rfl, rfl, decide (((2 : Int) + i) < n), rfl, ?_⟩
      rw [show ((2 : Int) + i) = ((i : Int) + 2) by omega]
      cases h2 : decide (((i : Int) + 2) < n) with
      | false =>
        exact ⟨H1, by rw [pbs_step, h2]; rfl, sm⟩
      | true =>
        refine ⟨_, rfl, _, rfl, _, _, rfl, rfl, by omega, _, _, rfl, rfl, _, upd_same, ?_, H1, ?_, sm⟩
        · rw [List.length_map, sizeLine_eq]
          have := pbs_len n i
          omega
        · rw [upd_upd, pbs_step, h2]
          simp
    · subst e
      refine ⟨D, pbs n 98, rfl, SqL.of upd_same, ?_⟩
      rw [pbs_all]
      rw [h1] at q
      refine q _ fun b o hb => ?_
      rw [upd_ne (ne_of_none hb hD)]
      exact sm b o hb
end
end K12
namespace K12
open PySem PySem.Spec PyProof.Rows L2
section
variable {P : Program} {w : World} {K : PySem.W.Frag} {mg : Str → Option Value} {base : Heap}
/-! ### is_integer, is_number, is_above_nought, is_index, is_power, is_prime -/
theorem scInt : FnScope ["thing"] ["thing"] (defScope (top 14)) := ⟨rfl, rfl, rfl, by decide +kernel, rfl, by decide +kernel, by decide +kernel⟩
def spInt : Sp := fun vs H Q _ => ∃ n : Int, vs = [.int n] ∧ Q (.bl true) H
theorem ok_Int (T : Fx K mg) : CalX P w K mg base CX0 1 "is_integer" spInt [] := by
  refine cal0_of T 1 rfl scInt (fun vs H Q E h => by obtain ⟨n, rfl, _⟩ := h; rfl) (fun _ _ _ _ _ _ us hl => match us, hl with | [_], _ => rfl) (fun cdv A outer s H vs Q E hr h => ⟨_,
    pss_one (ps_ret (pe_and (pe_callB call_isi (by rfl) T.n_isinstance (by decide +kernel) (pa_cons (pv 0) (pa_cons (pe_bltn (u := .type "int") (v := .ty "int") (by rfl) T.n_int (by decide +kernel) rfl) pa_nil)))
      (pe_one (pe_not (pe_callB call_isi (by rfl) T.n_isinstance (by decide +kernel) (pa_cons (pv 0) (pa_cons (pe_bltn (u := .type "bool") (v := .ty "bool") (by rfl) T.n_bool (by decide +kernel) rfl) pa_nil))))))), ?_⟩)
  obtain ⟨n, rfl, q⟩ := h
  refine ⟨_, rfl, _, _, _, _, true, rfl, .ty "int", .base (.int _), kit_ty (by decide +kernel), true, rfl, ?_⟩
  exact ⟨_, rfl, _, _, _, _, false, rfl, .ty "bool", .base (.int _), kit_ty (by decide +kernel), _, rfl, q⟩
theorem scNum : FnScope ["thing"] ["thing"] (defScope (top 15)) := ⟨rfl, rfl, rfl, by decide +kernel, rfl, by decide +kernel, by decide +kernel⟩
def spNum : Sp := fun vs H Q _ => ∃ n : Int, vs = [.int n] ∧ Q (.bl (decide (0 ≤ n))) H
theorem ok_Num (T : Fx K mg) : CalX P w K mg base CX0 2 "is_number" spNum [] := by
  refine cal0_of T 2 rfl scNum (fun vs H Q E h => by obtain ⟨n, rfl, _⟩ := h; rfl) (fun _ _ _ _ _ _ us hl => match us, hl with | [_], _ => rfl) (fun cdv A outer s H vs Q E hr h => ⟨_,
    pss_one (ps_ret (pe_and (pe_c0 (ok_Int T) hr (by decide) rfl (pa_cons (pv 0) pa_nil)) (pe_one (pe_cmpR op_ge (pv 0) pe_int (nomark _))))), ?_⟩)
  obtain ⟨n, rfl, q⟩ := h
  exact ⟨_, rfl, n, rfl, true, rfl, _, rfl, _, _, rfl, rfl, q⟩
theorem scAbv : FnScope ["thing"] ["thing"] (defScope (top 16)) := ⟨rfl, rfl, rfl, by decide +kernel, rfl, by decide +kernel, by decide +kernel⟩
def spAbv : Sp := fun vs H Q _ => ∃ n : Int, vs = [.int n] ∧ Q (.bl (decide (0 < n))) H
theorem ok_Abv (T : Fx K mg) : CalX P w K mg base CX0 2 "is_above_nought" spAbv [] := by
  refine cal0_of T 3 rfl scAbv (fun vs H Q E h => by obtain ⟨n, rfl, _⟩ := h; rfl) (fun _ _ _ _ _ _ us hl => match us, hl with | [_], _ => rfl) (fun cdv A outer s H vs Q E hr h => ⟨_,
    pss_one (ps_ret (pe_and (pe_c0 (ok_Int T) hr (by decide) rfl (pa_cons (pv 0) pa_nil)) (pe_one (pe_cmpR op_gt (pv 0) pe_int (nomark _))))), ?_⟩)
  obtain ⟨n, rfl, q⟩ := h
  exact ⟨_, rfl, n, rfl, true, rfl, _, rfl, _, _, rfl, rfl, q⟩
theorem scIdx : FnScope ["many", "thing"] ["many", "thing"] (defScope (top 17)) := ⟨rfl, rfl, rfl, by decide +kernel, rfl, by decide +kernel, by decide +kernel⟩
def spIdx : Sp := fun vs H Q _ => ∃ m n : Int, vs = [.int m, .int n] ∧ Q (.bl (decide (0 ≤ n) && decide (n < m))) H
theorem ok_Idx (T : Fx K mg) : CalX P w K mg base CX0 3 "is_index" spIdx [] := by
  refine cal0_of T 4 rfl scIdx (fun vs H Q E h => by obtain ⟨m, n, rfl, _⟩ := h; rfl) (fun _ _ _ _ _ _ us hl => match us, hl with | [_, _], _ => rfl) (fun cdv A outer s H vs Q E hr h => ⟨_,
    pss_one (ps_ret (pe_and (pe_c0 (ok_Num T) hr (by decide) rfl (pa_cons (pv 1) pa_nil)) (pe_one (pe_cmpR op_lt (pv 1) (pv 0) (nomark _))))), ?_⟩)
  obtain ⟨m, n, rfl, q⟩ := h
  refine ⟨_, rfl, n, rfl, decide (0 ≤ n), rfl, ?_⟩
  cases h1 : decide (0 ≤ n) with
  | false =>
    rw [h1] at q
    exact q
  | true =>
    rw [h1] at q
    exact ⟨_, rfl, _, rfl, _, _, rfl, rfl, q⟩
theorem scPow : FnScope ["thing"] ["thing"] (defScope (top 18)) := ⟨rfl, rfl, rfl, by decide +kernel, rfl, by decide +kernel, by decide +kernel⟩
def spPow : Sp := fun vs H Q _ => ∃ n : Int, vs = [.int n] ∧ Q (.bl (isPw n)) H
theorem ok_Pow (T : Fx K mg) : CalX P w K mg base CX0 3 "is_power" spPow [] := by
  obtain ⟨tk, hM⟩ := T.mpow
  refine cal0_of T 5 rfl scPow (fun vs H Q E h => by obtain ⟨n, rfl, _⟩ := h; rfl) (fun _ _ _ _ _ _ us hl => match us, hl with | [_], _ => rfl) (fun cdv A outer s H vs Q E hr h => ⟨_,
    pss_one (ps_ret (pe_and (pe_c0 (ok_Abv T) hr (by decide) rfl (pa_cons (pv 0) pa_nil)) (pe_one (pe_cmpR op_le (pv 0) (pe_glob (v := .int 6) rfl hM ⟨_, rfl⟩) (nomark _))))), ?_⟩)
  obtain ⟨n, rfl, q⟩ := h
  have e : isPw n = (decide (0 < n) && decide (n ≤ 6)) := by
    unfold isPw
    congr 1
  refine ⟨_, rfl, n, rfl, decide (0 < n), rfl, ?_⟩
  rw [e] at q
  cases h1 : decide (0 < n) with
  | false =>
    rw [h1] at q
    exact q
  | true =>
    rw [h1] at q
    exact ⟨_, rfl, _, _, rfl, rfl, q⟩
theorem scPri : FnScope ["thing"] ["thing"] (defScope (top 20)) := ⟨rfl, rfl, rfl, by decide +kernel, rfl, by decide +kernel, by decide +kernel⟩
def spPri : Sp := fun vs H Q _ => ∃ n : Int, vs = [.int n] ∧ ∀ H', Same H H' → Q (.bl (isPr n)) H'
theorem ok_Pri (T : Fx K mg) : CalX P w K mg base CX0 4 "is_prime" spPri [] := by
  obtain ⟨tk, hM⟩ := T.mtop
  refine cal0_of T 7 rfl scPri (fun vs H Q E h => by obtain ⟨n, rfl, _⟩ := h; rfl) (fun _ _ _ _ _ _ us hl => match us, hl with | [_], _ => rfl) (fun cdv A outer s H vs Q E hr h => ⟨_,
    pss_one (ps_ret (pe_and (pe_c0 (ok_Idx T) hr (by decide) rfl (pa_cons (pe_glob (v := .int 10000) rfl hM ⟨_, rfl⟩) (pa_cons (pv 0) pa_nil))) (pe_one (pe_c0 (ok_PB T) hr (by decide) rfl (pa_cons (pv 0) pa_nil))))), ?_⟩)
  obtain ⟨n, rfl, q⟩ := h
  refine ⟨_, rfl, 10000, n, rfl, decide (0 ≤ n) && decide (n < 10000), rfl, ?_⟩
  have e : isPr n = ((decide (0 ≤ n) && decide (n < 10000)) && (decide (1 < n) && noDiv n)) := by
    unfold isPr
    by_cases h1 : 1 < n
    · rw [decide_eq_true h1, decide_eq_true (show (0 : Int) ≤ n by omega)]
      simp
    · rw [decide_eq_false h1]
      simp
  cases h1 : decide (0 ≤ n) && decide (n < 10000) with
  | false =>
    rw [h1] at e
    have q2 := q H (Same.refl H)
    rw [e] at q2
    exact q2
  | true =>
    rw [h1] at e
    refine ⟨_, rfl, n, rfl, fun H' sm => ?_⟩
    have q2 := q H' sm
    rw [e] at q2
    exact q2
theorem scTup : FnScope ["thing", "size"] ["thing", "size"] (defScope (top 19)) := ⟨rfl, rfl, rfl, by decide +kernel, rfl, by decide +kernel, by decide +kernel⟩
def spTup : Sp := fun vs H Q _ => ∃ (a : Addr) (xs : List V) (n : Int), vs = [.ref a, .int n] ∧ H a = some (.tup xs) ∧ Q (.bl (decide ((xs.length : Int) = n))) H
theorem ok_Tup (T : Fx K mg) : CalX P w K mg base CX0 1 "is_tuple_of" spTup [] := by
  refine cal0_of T 6 rfl scTup (fun vs H Q E h => by obtain ⟨a, xs, n, rfl, _⟩ := h; rfl) (fun _ _ _ _ _ _ us hl => match us, hl with | [_, _], _ => rfl) (fun cdv A outer s H vs Q E hr h => ⟨_,
    pss_one (ps_ret (pe_and (pe_callB call_isi (by rfl) T.n_isinstance (by decide +kernel) (pa_cons (pv 0) (pa_cons (pe_bltn (u := .type "tuple") (v := .ty "tuple") (by rfl) T.n_tuple (by decide +kernel) rfl) pa_nil)))
      (pe_one (pe_cmp (pc_eqI (pe_callB call_len (by rfl) T.n_len PySem.boot_len (pa_cons (pv 0) pa_nil)) (pv 1)) rfl)))), ?_⟩)
  obtain ⟨a, xs, n, rfl, ha, q⟩ := h
  refine ⟨_, rfl, _, _, _, _, true, rfl, .ty "tuple", .base (.tup ha), kit_ty (by decide +kernel), true, rfl, ?_⟩
  exact ⟨_, rfl, _, xs.length, rfl, .inr ⟨_, SqT.of ha, rfl⟩, _, rfl, _, _, rfl, rfl, q⟩
end
end K12
namespace K12
open PySem PySem.Spec PyProof.Rows L2
/-! ### a count as an object -/
/-- at a: the count c, a tuple of tuples of two ints -/
def CntAt (H : Hp) (a : Addr) (c : Cnt) : Prop := ∃ bs : List Addr, H a = some (.tup (bs.map V.ref)) ∧ bs.length = c.length ∧ ∀ (i : Nat) (b : Addr) (p : Int × Int), bs[i]? = some b → c[i]? = some p → H b = some (.tup [.int p.1, .int p.2])
/-- tuples stay -/
def KT (H H' : Hp) : Prop := ∀ b xs, H b = some (.tup xs) → H' b = some (.tup xs)
theorem CntAt.kt {H H' : Hp} {a : Addr} {c : Cnt} (h : CntAt H a c) (k : KT H H') : CntAt H' a c := by
  obtain ⟨bs, h1, h2, h3⟩ := h
  exact ⟨bs, k _ _ h1, h2, fun i b p hb hp => k _ _ (h3 i b p hb hp)⟩
theorem KT.same {H H' : Hp} (h : Same H H') : KT H H' := fun b xs e => h b _ e
theorem KT.trans {H H1 H2 : Hp} (a : KT H H1) (b : KT H1 H2) : KT H H2 := fun c xs e => b c xs (a c xs e)
theorem KT.refl (H : Hp) : KT H H := fun _ _ e => e
theorem same_new {H : Hp} {D : Addr} {o : HO} (hD : H D = none) : Same H (upd H D o) := fun b u e => by
  rw [upd_ne (ne_of_none e hD)]
  exact e
theorem same_upd {H H1 : Hp} {D : Addr} {o : HO} (h : Same H H1) (hD : H D = none) : Same H (upd H1 D o) := fun b u e => by
  rw [upd_ne (ne_of_none e hD)]
  exact h b u e
def cntD (c : Cnt) : PyData := .tuple (c.map fun p => .tuple [.int p.1, .int p.2])
theorem cnt_all {K : PySem.W.Frag} {H : Hp} : ∀ (bs : List Addr) (c : Cnt), bs.length = c.length → (∀ (i : Nat) (b : Addr) (p : Int × Int), bs[i]? = some b → c[i]? = some p → H b = some (.tup [.int p.1, .int p.2])) → DpAll K H (bs.map V.ref) (c.map fun p => .tuple [.int p.1, .int p.2])
  | [], [], _, _ => .nil
  | b :: bs, p :: c, hl, h => .cons (.tup (SqT.of (h 0 b p rfl rfl)) (.cons (.int _) (.cons (.int _) .nil))) (cnt_all bs c (Nat.succ.inj hl) fun i b' p' hb hp => h (i + 1) b' p' hb hp)
theorem CntAt.dp {K : PySem.W.Frag} {H : Hp} {a : Addr} {c : Cnt} (h : CntAt H a c) : Dp K H (.ref a) (cntD c) := by
  obtain ⟨bs, h1, h2, h3⟩ := h
  exact .tup (SqT.of h1) (cnt_all bs c h2 h3)
theorem valid_step {c : Cnt} (v : Valid c) {i : Nat} {p q : Int × Int} (hp : c[i]? = some p) (hq : c[i + 1]? = some q) : p.1 < q.1 := by
  obtain ⟨hi, ep⟩ := List.getElem?_eq_some_iff.mp hp
  obtain ⟨hj, eq⟩ := List.getElem?_eq_some_iff.mp hq
  have z := List.pairwise_iff_getElem.mp v.2 i (i + 1) hi hj (by omega)
  rw [ep, eq] at z
  exact z
section
variable {P : Program} {w : World} {K : PySem.W.Frag} {mg : Str → Option Value} {base : Heap}
/-! ### count_fault, of a count -/
theorem scCF : FnScope ["thing", "k", "pair"] ["thing"] (defScope (top 21)) := ⟨rfl, rfl, rfl, by decide +kernel, rfl, by decide +kernel, by decide +kernel⟩
def spCF : Sp := fun vs H Q _ => ∃ (a : Addr) (c : Cnt), vs = [.ref a] ∧ CntAt H a c ∧ Valid c ∧ ∀ H', Same H H' → Q .non H'
theorem ok_CF (T : Fx K mg) : CalX P w K mg base CX0 5 "count_fault" spCF [] := by
  refine cal0_of T 8 rfl scCF (fun vs H Q E h => by obtain ⟨a, c, rfl, _⟩ := h; rfl) (fun _ _ _ _ _ _ us hl => match us, hl with | [_], _ => rfl) (fun cdv A outer s H vs Q E hr h => ⟨_,
    pss_cons (ps_if (pt_not (pt_val (pe_callB call_isi (by rfl) T.n_isinstance (by decide +kernel) (pa_cons (pv 0) (pa_cons (pe_bltn (u := .type "tuple") (v := .ty "tuple") (by rfl) T.n_tuple (by decide +kernel) rfl) pa_nil))))) pss_never pss_nil)
    (pss_cons (ps_for PassesOwn.never rfl (pi_enumT (by rfl) T.n_enumerate (pa_cons (pv 0) pa_nil)) (pg_tup rfl (pgs_cons (pg_name (i := 1) scCF.nd rfl (.inl rfl)) (pgs_cons (pg_name (i := 2) scCF.nd rfl (.inl rfl)) pgs_nil)))
      (pss_cons (ps_if (pt_not (pt_val (pe_c0 (ok_Tup T) hr (by decide) rfl (pa_cons (pv 2) (pa_cons pe_int pa_nil))))) pss_never pss_nil)
      (pss_cons (ps_if (pt_not (pt_val (pe_c0 (ok_Pri T) hr (by decide) rfl (pa_cons (pe_ix ix_tup (pv 2) pe_int (fun _ _ => rfl)) pa_nil)))) pss_never pss_nil)
      (pss_cons (ps_if (PW.pt (pw_and (pt_cmpR op_gt (pv 1) pe_int (nomark _)) (pw_and1 (pt_cmpR op_le (pe_ix ix_tup (pv 2) pe_int (fun _ _ => rfl)) (pe_ix ix_tup (pe_ix ix_tup (pv 0) (pe_op op_sub (pv 1) pe_int) (fun _ _ => rfl)) pe_int (fun _ _ => rfl)) (nomark _))))) pss_never pss_nil)
      (pss_one (ps_if (pt_not (pt_val (pe_c0 (ok_Pow T) hr (by decide) rfl (pa_cons (pe_ix ix_tup (pv 2) pe_int (fun _ _ => rfl)) pa_nil)))) pss_never pss_nil))))))
    (pss_one (ps_ret pe_non))), ?_⟩)
  obtain ⟨a, c, rfl, hc, v, q⟩ := h
  obtain ⟨bs, h1, h2, h3⟩ := id hc
  refine ⟨_, rfl, _, _, _, _, true, rfl, .ty "tuple", .base (.tup h1), kit_ty (by decide +kernel), true, rfl, ?_⟩
  refine iteF ?_
  refine ⟨_, rfl, a, _, rfl, SqT.of h1, ?_⟩
  refine for_it walk_enumT (fun i σ H' => (∃ k0 p0, σ = [some (.ref a), k0, p0]) ∧ Same H H') ⟨⟨_, _, rfl⟩, Same.refl H⟩ (fun i σ H' hi ⟨_, sm⟩ => SqT.of (sm _ _ h1)) (fun i x σ H1 H' hi ⟨⟨k0, p0, es⟩, sm⟩ y => ?_) (fun σ H' ⟨_, sm⟩ => q H' sm)
  subst es
  obtain ⟨Tt, x1, x2, rfl, hT, rfl, e1, e2⟩ := y
  have e1' : V.int (i : Nat) = x1 := Option.some.inj e1
  subst e1'
  rw [List.length_map] at hi
  have hi2 : i < c.length := by rw [← h2]; exact hi
  have e2' : x2 = .ref bs[i] := by
    have e3 : (bs.map V.ref)[i]? = some x2 := e2
    rw [List.getElem?_map, List.getElem?_eq_getElem hi] at e3
    exact (Option.some.inj e3).symm
  subst e2'
  have hb := h3 i bs[i] c[i] (List.getElem?_eq_getElem hi) (List.getElem?_eq_getElem hi2)
  obtain ⟨p1, p2⟩ := v.1 c[i] (List.getElem_mem hi2)
  have sm1 : Same H (upd H1 Tt (.tup [.int (i : Nat), .ref bs[i]])) := sm.trans (same_new hT)
  refine ⟨Tt, _, rfl, SqT.of upd_same, rfl, _, _, rfl, _, _, rfl, rfl, ?_⟩
  have hb1 := sm1 _ _ hb
  refine ⟨_, rfl, _, _, _, rfl, hb1, _, rfl, ?_⟩
  refine iteF ?_
  refine ⟨_, rfl, _, _, _, _, rfl, rfl, SqT.of hb1, rfl, _, rfl, fun H2 sm2 => ⟨_, rfl, ?_⟩⟩
  rw [p1]
  refine iteF ?_
  have sm3 := sm1.trans sm2
  have hb2 := sm3 _ _ hb
  have last : ∀ D : Ends, D.nx [some (.ref a), some (.int (i : Nat)), some (.ref bs[i])] H2 → tIfS (tNot (tB (tCall spPow [] E0 (tCons (tOp (rIxT K) (tVar 2) (tC (.int 1))) tNil)))) tNever tNext D [some (.ref a), some (.int (i : Nat)), some (.ref bs[i])] H2 := fun D h => by
    refine ⟨_, rfl, _, _, _, _, rfl, rfl, SqT.of hb2, rfl, _, rfl, _, rfl, ?_⟩
    rw [p2]
    exact iteF h
  refine ⟨_, rfl, _, _, rfl, rfl, _, rfl, ?_⟩
  by_cases h0 : (0 : Int) < (i : Nat)
  · rw [decide_eq_true h0]
    refine iteT ?_
    have hj : i - 1 < c.length := by omega
    have hjb : i - 1 < bs.length := by omega
    have hb0 := sm3 _ _ (h3 (i - 1) bs[i - 1] c[i - 1] (List.getElem?_eq_getElem hjb) (List.getElem?_eq_getElem hj))
    refine ⟨_, rfl, _, _, _, _, rfl, rfl, SqT.of hb2, rfl, _, rfl, _, rfl, _, _, rfl, rfl, _, _, _, .ref bs[i - 1], rfl, rfl, SqT.of (sm3 _ _ h1), ?_, _, _, _, _, rfl, rfl, SqT.of hb0, rfl, _, _, rfl, rfl, _, rfl, ?_⟩
    · rw [show ((i : Nat) : Int) - 1 = ((i - 1 : Nat) : Int) by omega]
      refine atI_nat ?_
      rw [List.getElem?_map, List.getElem?_eq_getElem hjb]
      rfl
    · have z := valid_step v (i := i - 1) (List.getElem?_eq_getElem hj) (q := c[i]) (by rw [show i - 1 + 1 = i by omega]; exact List.getElem?_eq_getElem hi2)
      rw [decide_eq_false (by omega)]
      exact iteF (last _ ⟨⟨_, _, rfl⟩, sm3⟩)
  · rw [decide_eq_false h0]
    exact iteF (iteF (last _ ⟨⟨_, _, rfl⟩, sm3⟩))
/-! ### is_count, want, want_count -/
theorem scIC : FnScope ["thing"] ["thing"] (defScope (top 22)) := ⟨rfl, rfl, rfl, by decide +kernel, rfl, by decide +kernel, by decide +kernel⟩
def spIC : Sp := fun vs H Q _ => ∃ (a : Addr) (c : Cnt), vs = [.ref a] ∧ CntAt H a c ∧ Valid c ∧ ∀ H', Same H H' → Q (.bl true) H'
theorem ok_IC (T : Fx K mg) : CalX P w K mg base CX0 6 "is_count" spIC [] := by
  refine cal0_of T 9 rfl scIC (fun vs H Q E h => by obtain ⟨a, c, rfl, _⟩ := h; rfl) (fun _ _ _ _ _ _ us hl => match us, hl with | [_], _ => rfl) (fun cdv A outer s H vs Q E hr h => ⟨_,
    pss_one (ps_ret (pe_cmp (pc_isN (pe_c0 (ok_CF T) hr (by decide) rfl (pa_cons (pv 0) pa_nil))) rfl)), ?_⟩)
  obtain ⟨a, c, rfl, hc, v, q⟩ := h
  exact ⟨_, rfl, a, c, rfl, hc, v, fun H' sm => q H' sm⟩
end
end K12
namespace K12
open PySem PySem.Spec PyProof.Rows L2 TL SX
theorem small_log {i : Int} (h : 0 ≤ i) (h2 : i < 1048576) : i.natAbs.log2 < 1920 := by
  by_cases h0 : i.natAbs = 0
  · rw [h0]
    decide
  · refine Nat.lt_of_lt_of_le ((Nat.log2_lt h0).mpr (show i.natAbs < 2 ^ 20 by omega)) (by decide)
theorem num_text {i : Int} (h : 0 ≤ i) : Str.ofString (toString i) = S (numL i.toNat) := by
  rw [← num_S, Int.toNat_of_nonneg h]
theorem len_num {i : Int} (h : 0 ≤ i) (h2 : i < 10000) : (numL i.toNat).length ≤ 4 := numL_len (by decide) (by omega)
theorem len_word {p : Int × Int} (h : okP p) : (wordP p).length ≤ 9 := by
  obtain ⟨a1, a2, _⟩ := isPr_iff.mp h.1
  obtain ⟨b1, b2⟩ := isPw_iff.mp h.2
  have e1 := len_num (i := p.1) (by omega) a2
  have e2 := len_num (i := p.2) (by omega) (by omega)
  unfold wordP
  rw [List.length_append, List.length_cons]
  omega
theorem valid_get {c : Cnt} (v : Valid c) : ∀ (i : Nat) (p : Int × Int), c[i]? = some p → (i : Int) + 2 ≤ p.1
  | 0, p, h => by
    obtain ⟨a1, _, _⟩ := isPr_iff.mp (v.1 p (List.mem_of_getElem? h)).1
    omega
  | i + 1, p, h => by
    obtain ⟨hi, e⟩ := List.getElem?_eq_some_iff.mp h
    have z := valid_get v i c[i] (List.getElem?_eq_getElem (by omega))
    have y := valid_step v (i := i) (List.getElem?_eq_getElem (by omega)) h
    omega
theorem valid_len {c : Cnt} (v : Valid c) : c.length < 10000 := by
  cases h : c.length with
  | zero => decide
  | succ n =>
    have hn : n < c.length := by omega
    have z := valid_get v n c[n] (List.getElem?_eq_getElem hn)
    obtain ⟨_, a2, _⟩ := isPr_iff.mp (v.1 c[n] (List.getElem_mem hn)).1
    omega
theorem sum_le {α : Type} (f : α → Nat) (B : Nat) : ∀ l : List α, (∀ x ∈ l, f x ≤ B) → (l.map f).sum ≤ B * l.length
  | [], _ => by simp
  | x :: l, h => by
    have h1 := h x (List.mem_cons_self ..)
    have h2 := sum_le f B l fun y hy => h y (List.mem_cons_of_mem _ hy)
    rw [List.map_cons, List.sum_cons, List.length_cons, Nat.mul_succ]
    omega
section
variable {P : Program} {w : World} {K : PySem.W.Frag} {mg : Str → Option Value} {base : Heap}
theorem ofS1 : (Str.ofString "^") = S [94] := rfl
theorem ofSp : (Str.ofString " ") = S [32] := rfl
theorem ofOne : (Str.ofString "1") = S [49] := rfl
/-- f'..', as one reading -/
def tJ (ts : List TE) : TE := fun σ H Q => tJs ts Str.empty σ H fun out H1 => Q (.str out) H1
theorem pe_joinedJ {X : Cx} {v1 v2 : Expr} {rest : List Expr} {ts : List TE} {pos : Pos} (h : PJ X (v1 :: v2 :: rest) ts) : PE X (.JoinedStr (v1 :: v2 :: rest) pos) (tJ ts) := pe_joined h
/-! ### words_of_count -/
theorem scWC : FnScope ["count", "prime", "power"] ["count"] (defScope (top 29)) := ⟨rfl, rfl, rfl, by decide +kernel, rfl, by decide +kernel, by decide +kernel⟩
def spWC : Sp := fun vs H Q _ => ∃ (a : Addr) (c : Cnt), vs = [.ref a] ∧ CntAt H a c ∧ Valid c ∧ ∀ H', Same H H' → Q (.str (S (render c))) H'
/-- the words so far -/
def wds (c : Cnt) : List V := c.map fun p => V.str (S (wordP p))
theorem ok_WC (T : Fx K mg) : CalX P w K mg base CX0 1 "words_of_count" spWC [] := by
  obtain ⟨t1, hMark⟩ := T.mark
  obtain ⟨t2, hNone⟩ := T.mnone
  refine cal0_of T 12 rfl scWC (fun vs H Q E h => by obtain ⟨a, c, rfl, _⟩ := h; rfl) (fun _ _ _ _ _ _ us hl => match us, hl with | [_], _ => rfl) (fun cdv A outer s H vs Q E hr h => ⟨_,
    pss_one (ps_ret (pe_ifExp (pt_cmpR op_gt (pe_callB call_len (by rfl) T.n_len PySem.boot_len (pa_cons (pv 0) pa_nil)) pe_int (nomark _))
      (pe_join pe_str (pe_lc (own := [("prime", 1), ("power", 2)]) (g := gTup K 2 (gCons (gName 1) (gCons (gName 2) gNil))) rfl scWC.nd (pi_tup (pv 0)) (blkOk_by (N := ["count", "prime", "power"]) (sc := defScope (top 29)) (by decide +kernel))
        (fun _ _ _ _ _ => pg_tup rfl (pgs_cons (pg_name (i := 1) scWC.nd rfl (.inl rfl)) (pgs_cons (pg_name (i := 2) scWC.nd rfl (.inl rfl)) pgs_nil))) (fun _ _ _ _ _ => pts_nil)
        (fun _ _ _ _ _ => pe_joinedJ (.cons (pe_fmt (pv 1)) (.cons (pe_fmt (pe_glob (v := .str "^") rfl hMark ⟨_, rfl⟩)) (.cons (pe_fmt (pv 2)) .nil))))))
      (pe_glob (v := .str "1") rfl hNone ⟨_, rfl⟩))), ?_⟩)
  obtain ⟨a, c, rfl, hc, v, q⟩ := h
  obtain ⟨bs, h1, h2, h3⟩ := id hc
  have hlc := valid_len v
  refine ⟨_, rfl, _, (bs.map V.ref).length, rfl, .inr ⟨_, SqT.of h1, rfl⟩, _, _, rfl, rfl, _, rfl, ?_⟩
  rw [List.length_map, h2]
  by_cases h0 : c = []
  · have e := q H (Same.refl H)
    rw [h0] at e ⊢
    rw [decide_eq_false (by simp)]
    exact iteF e
  · rw [decide_eq_true (by
      have : 0 < c.length := List.length_pos_iff.mpr h0
      omega)]
    refine iteT ⟨⟨_, rfl⟩, _, rfl, a, rfl, ⟨_, SqT.of h1⟩, fun D hD => ?_⟩
    refine lc_tup (K := K) (a := a) (xs := bs.map V.ref) (fun i H' => ∃ H1, H' = upd H1 D (.lst (wds (c.take i))) ∧ Same H H1) ⟨H, rfl, Same.refl H⟩ (fun i H' hi ⟨H1, e, sm⟩ => SqT.of (by rw [e]; exact same_upd sm hD _ _ h1)) (fun i x H' hx ⟨H1, e, sm⟩ => ?_) (fun H' ⟨H1, e, sm⟩ => ?_)
    · subst e
      rw [List.getElem?_map] at hx
      cases hb : bs[i]? with
      | none => rw [hb] at hx; cases hx
      | some b =>
        rw [hb] at hx
        have ex : V.ref b = x := Option.some.inj hx
        subst ex
        obtain ⟨hi, eb⟩ := List.getElem?_eq_some_iff.mp hb
        have hi2 : i < c.length := by rw [← h2]; exact hi
        have hp := h3 i b c[i] hb (List.getElem?_eq_getElem hi2)
        have okc := v.1 c[i] (List.getElem_mem hi2)
        obtain ⟨a1, a2, _⟩ := isPr_iff.mp okc.1
        obtain ⟨b1, b2⟩ := isPw_iff.mp okc.2
        have sz := sizeLine_eq
        have l1 := len_num (i := c[i].1) (by omega) a2
        have l2 := len_num (i := c[i].2) (by omega) (by omega)
        refine ⟨b, _, rfl, SqT.of (same_upd sm hD _ _ hp), rfl, _, _, rfl, _, _, rfl, rfl, rfl, ?_⟩
        refine ⟨_, rfl, .inr ⟨c[i].1, rfl, small_log (by omega) (by omega), _, rfl, ?_, ?_⟩⟩
        · show (Str.empty ++ Str.ofString (toString c[i].1)).length ≤ sizeLine
          rw [num_text (by omega), show (Str.empty : Str) = S [] from rfl, S_cat, S_len, List.nil_append]
          omega
        refine .inl ⟨_, rfl, by decide, _, rfl, ?_, ?_⟩
        · show (Str.empty ++ Str.ofString (toString c[i].1) ++ Str.ofString "^").length ≤ sizeLine
          have ea : Str.empty ++ Str.ofString (toString c[i].1) ++ Str.ofString "^" = S (numL c[i].1.toNat ++ [94]) := by
            rw [num_text (by omega), show (Str.empty : Str) = S [] from rfl, ofS1, S_cat, S_cat]
            rfl
          rw [ea, S_len, List.length_append]
          have : ([94] : List Nat).length = 1 := rfl
          omega
        have etext : Str.empty ++ Str.ofString (toString c[i].1) ++ Str.ofString "^" ++ Str.ofString (toString c[i].2) = S (wordP c[i]) := by
          rw [num_text (by omega), num_text (show 0 ≤ c[i].2 by omega), show (Str.empty : Str) = S [] from rfl, ofS1, S_cat, S_cat, S_cat, List.nil_append, List.append_assoc]
          rfl
        refine ⟨_, rfl, .inr ⟨c[i].2, rfl, small_log (by omega) (by omega), _, rfl, ?_, ?_⟩⟩
        · show (Str.empty ++ Str.ofString (toString c[i].1) ++ Str.ofString "^" ++ Str.ofString (toString c[i].2)).length ≤ sizeLine
          rw [etext, S_len]
          have := len_word okc
          omega
        show ∃ acc, _
        refine ⟨_, upd_same, ?_, H1, ?_, sm⟩
        · unfold wds
          rw [List.length_map, List.length_take]
          omega
        · show upd (upd H1 D _) D (.lst (wds (c.take i) ++ [V.str (Str.empty ++ Str.ofString (toString c[i].1) ++ Str.ofString "^" ++ Str.ofString (toString c[i].2))])) = _
          rw [upd_upd, etext, List.take_add_one, List.getElem?_eq_getElem hi2]
          unfold wds
          rw [List.map_append]
          rfl
    · subst e
      rw [List.length_map, h2, List.take_length]
      refine ⟨S [32], D, c.map fun p => S (wordP p), rfl, rfl, .inl (SqL.of ?_), ?_, ?_⟩
      · rw [upd_same]
        unfold wds
        rw [List.map_map]
        rfl
      · rw [List.map_map, List.length_map]
        have z := sum_le ((fun x : Str => x.length) ∘ fun p => S (wordP p)) 9 c fun p hp => by
          show (S (wordP p)).length ≤ 9
          rw [S_len]
          exact len_word (v.1 p hp)
        have : (S [32]).length = 1 := rfl
        rw [this]
        omega
      · have e : Txt.join (S [32]) (c.map fun p => S (wordP p)) = S (render c) := by
          have z := join_S [32] (c.map wordP)
          rw [List.map_map] at z
          unfold render
          rw [if_neg h0]
          exact z
        rw [e]
        exact q _ (same_upd sm hD)
end
end K12
namespace K12
open PySem PySem.Spec PyProof.Rows L2 TL SX
section
variable {P : Program} {w : World} {K : PySem.W.Frag} {mg : Str → Option Value} {base : Heap} {k : Nat} {sp : Sp} {N ps : List Str} {x : Str} {n : Nat} {CX : CXT}
/-- a def called with its one parameter as a keyword -/
structure CalKw (P : Program) (w : World) (K : PySem.W.Frag) (mg : Str → Option Value) (base : Heap) (CX : CXT) (k : Nat) (x : Str) (sp : Sp) (ks : List Str) : Prop where
  ex : ∃ (f : Addr) (fd : FuncData), FnOk P w K mg base CX k f fd ks sp ∧ mg x = some (.ref f) ∧ PySem.W.keepIn K (.ref f) = true ∧ ∀ (s : Shared) (ws : List Value), ws.length = ks.length → BindsTo s fd ⟨[], ks.zip ws⟩ (ks.zip ws)
theorem pe_ck {X : Cx} {E : XK} {j : Nat} {p pos : Pos} {ks : List Str} {kws : List Keyword} {tk : TA} (c : CalKw X.prog X.w X.K X.mg X.base CX k x sp ks) (hr : Room j X.A) (hk : k ≤ j) (hg : Gl X x) (hx : Passes CX X E) (hkw : PK X kws tk)
    (hall : (backToKw pos (keywordEach kws X.env)).all (·.1.isSome) = true := by rfl) (hks : (backToKw pos (keywordEach kws X.env)).filterMap (·.1) = ks := by rfl)
    (hdb : (x == ("__debug__" : Str)) = false := by decide)
    (hpl : ((backTo pos (starEach [] X.env)).any (·.1) || (backToKw pos (keywordEach kws X.env)).any (·.1.isNone)) = false := by rfl) :
    PE X (.Call (.Name x p) [] kws pos) (tCallK0 sp E tk) := by
  obtain ⟨f, fd, F, hm, kp, hb⟩ := c.ex
  exact pe_kw0 F (hr.mono hk) hg hm kp hb hx hkw hall hks hdb hpl
/-- a def without defaults, both ways -/
theorem both_of (T : Fx K mg) (i : Nat) (h : fnN[i]? = some (x, n, [])) (S : FnScope N ps (defScope (top n))) (len : ∀ vs H Q E, sp vs H Q E → vs.length = ps.length)
    (hb : ∀ (kV doc pm : Value) (an : Option Addr) (cdv ct : Value) (us : List Value), us.length = ps.length → bindArgs (PySem.W.fnOf x x (defArgs (top n)) (defBody (top n)) (defScope (top n)) .none kV doc pm an cdv ct) ⟨us, []⟩ = pure (ps.zip us))
    (hk : ∀ (kV doc pm : Value) (an : Option Addr) (cdv ct : Value) (us : List Value), us.length = ps.length → bindArgs (PySem.W.fnOf x x (defArgs (top n)) (defBody (top n)) (defScope (top n)) .none kV doc pm an cdv ct) ⟨[], ps.zip us⟩ = pure (ps.zip us))
    (hbody : ∀ (cdv : Value) (A : Around) (outer : List Env) (s : Shared) (H : Hp) (vs : List V) (Q : VK) (E : XK), Room k (A.deeper (envOfC x (defScope (top n)) s.heap.objs.size (He.ga K x) cdv)) → sp vs H Q E →
      ∃ t, PSs (cxOf CX P w K mg base N x (defScope (top n)) (He.ga K x) cdv A outer s H E) (defBody (top n)) t ∧ t { nx := fun _ H' => Q .non H', rt := Q } (start N vs) H) :
    CalX P w K mg base CX (k + 1) x sp [] ∧ CalKw P w K mg base CX (k + 1) x sp ps := by
  obtain ⟨fd, F, hm⟩ := T.def_ i h
  have G : FnOk P w K mg base CX (k + 1) (He.ga K x) fd ps sp := F.ok S len hbody
  refine ⟨⟨He.ga K x, fd, ps, [], G, hm, F.kp, FunD.bindsN F hb, .nil⟩, ⟨He.ga K x, fd, G, hm, F.kp, fun s ws hl => ?_⟩⟩
  obtain ⟨oc, od, dV, kV, doc, pm, an, cdv, ct, osl, rfl, lk, hcd, hD, hK⟩ := F.ex
  rcases hD with ⟨_, rfl⟩ | ⟨e, _⟩
  · exact .of_eq (hk kV doc pm an cdv ct ws hl)
  · exact absurd rfl e
/-! ### want, want_count -/
theorem scWa : FnScope ["is_right", "name", "place"] ["is_right", "name", "place"] (defScope (top 24)) := ⟨rfl, rfl, rfl, by decide +kernel, rfl, by decide +kernel, by decide +kernel⟩
def spWa : Sp := fun vs H Q _ => ∃ (x y : V), vs = [.bl true, x, y] ∧ Q .non H
theorem ok_Wa (T : Fx K mg) : CalX P w K mg base CX0 1 "want" spWa [.int (-1)] := by
  obtain ⟨fd, F, hm⟩ := T.def_ 10 (x := "want") (n := 24) (dfl := [.int (-1)])
  obtain ⟨ds, rd, hb⟩ := FunD.binds1 (ps := ["is_right", "name", "place"]) F 2 0 (by intro z; cases z) rfl (fun Tt kV doc pm an cdv ct us its h1 h2 => match us, its, h1, h2 with | [_, _], [_], _, _ => ⟨_, rfl, rfl⟩)
  refine ⟨He.ga K "want", fd, _, ds, F.ok scWa (fun vs H Q E h => by obtain ⟨x, y, rfl, _⟩ := h; rfl) fun cdv A outer s H vs Q E hr h => ⟨_, PSs.nox (pss_one (ps_if (pt_not (pt_val (pv 0))) pss_never pss_nil)), ?_⟩, hm, F.kp, hb, rd⟩
  obtain ⟨x, y, rfl, q⟩ := h
  exact ⟨_, rfl, true, rfl, iteF q⟩
theorem scWn : FnScope ["thing", "name"] ["thing", "name"] (defScope (top 25)) := ⟨rfl, rfl, rfl, by decide +kernel, rfl, by decide +kernel, by decide +kernel⟩
def spWn : Sp := fun vs H Q _ => ∃ (a : Addr) (c : Cnt) (x : V), vs = [.ref a, x] ∧ CntAt H a c ∧ Valid c ∧ ∀ H', Same H H' → Q .non H'
theorem ok_Wn (T : Fx K mg) : CalX P w K mg base CX0 7 "want_count" spWn [.str "count"] := by
  obtain ⟨fd, F, hm⟩ := T.def_ 11 (x := "want_count") (n := 25) (dfl := [.str "count"])
  obtain ⟨ds, rd, hb⟩ := FunD.binds1 (ps := ["thing", "name"]) F 1 0 (by intro z; cases z) rfl (fun Tt kV doc pm an cdv ct us its h1 h2 => match us, its, h1, h2 with | [_], [_], _, _ => ⟨_, rfl, rfl⟩)
  refine ⟨He.ga K "want_count", fd, _, ds, F.ok scWn (fun vs H Q E h => by obtain ⟨a, c, x, rfl, _⟩ := h; rfl) fun cdv A outer s H vs Q E hr h => ⟨_, PSs.nox (pss_one (ps_expr (pe_c0 (ok_Wa T) hr (by decide) rfl (pa_cons (pe_c0 (ok_IC T) hr (by decide) rfl (pa_cons (pv 0) pa_nil)) (pa_cons (pv 1) pa_nil))))), ?_⟩, hm, F.kp, hb, rd⟩
  obtain ⟨a, c, x, rfl, hc, v, q⟩ := h
  exact ⟨_, rfl, a, c, rfl, hc, v, fun H' sm => ⟨_, rfl, _, _, rfl, q H' sm⟩⟩
/-! ### count_text -/
theorem scCT : FnScope ["count"] ["count"] (defScope (top 30)) := ⟨rfl, rfl, rfl, by decide +kernel, rfl, by decide +kernel, by decide +kernel⟩
theorem ok_CT (T : Fx K mg) : CalX P w K mg base CX0 8 "count_text" spWC [] ∧ CalKw P w K mg base CX0 8 "count_text" spWC ["count"] := by
  refine both_of T 13 rfl scCT (fun vs H Q E h => by obtain ⟨a, c, rfl, _⟩ := h; rfl) (fun _ _ _ _ _ _ us hl => match us, hl with | [_], _ => rfl) (fun _ _ _ _ _ _ us hl => match us, hl with | [_], _ => rfl) (fun cdv A outer s H vs Q E hr h => ⟨_,
    PSs.nox (pss_cons (ps_expr (pe_c0 (ok_Wn T) hr (by decide) rfl (pa_cons (pv 0) pa_nil))) (pss_one (ps_ret (pe_c0 (ok_WC T) hr (by decide) rfl (pa_cons (pv 0) pa_nil))))), ?_⟩)
  obtain ⟨a, c, rfl, hc, v, q⟩ := h
  exact ⟨_, rfl, a, c, _, rfl, hc, v, fun H1 sm => ⟨_, rfl, a, c, rfl, hc.kt (.same sm), v, fun H2 sm2 => q H2 (sm.trans sm2)⟩⟩
end
end K12
namespace K12
open PySem PySem.Spec PyProof.Rows L2 TL SX
theorem str_dec (a b : List Nat) : decide (V.str (S a) = V.str (S b)) = decide (a = b) := by
  by_cases h : a = b
  · rw [h, decide_eq_true rfl, decide_eq_true rfl]
  · rw [decide_eq_false h, decide_eq_false fun z => h (S_inj (V.str.inj z))]
def numV : Option Int → V
  | none => .non
  | some n => .int n
theorem digs_tl : (Str.ofString "0123456789").cps.toList = [48, 49, 50, 51, 52, 53, 54, 55, 56, 57] := rfl
theorem dig_in (c : Nat) : decide (c ∈ (Str.ofString "0123456789").cps.toList) = dig c := by
  rw [digs_tl]
  unfold dig
  by_cases h : 48 ≤ c ∧ c ≤ 57
  · rw [decide_eq_true h.1, decide_eq_true h.2]
    refine decide_eq_true ?_
    have key : ∀ d : Nat, d < 10 → 48 + d ∈ [48, 49, 50, 51, 52, 53, 54, 55, 56, 57] := by decide
    have z := key (c - 48) (by omega)
    rw [show 48 + (c - 48) = c by omega] at z
    exact z
  · have e : (decide (48 ≤ c) && decide (c ≤ 57)) = false := by
      rw [Bool.and_eq_false_iff]
      rcases Nat.lt_or_ge c 48 with h1 | h1
      · exact .inl (decide_eq_false (by omega))
      · exact .inr (decide_eq_false (by omega))
    rw [e]
    refine decide_eq_false fun hm => h ?_
    have key : ∀ d ∈ ([48, 49, 50, 51, 52, 53, 54, 55, 56, 57] : List Nat), 48 ≤ d ∧ d ≤ 57 := by decide
    exact key c hm
section
variable {P : Program} {w : World} {K : PySem.W.Frag} {mg : Str → Option Value} {base : Heap}
/-! ### number_of -/
theorem scNO : FnScope ["word", "sign"] ["word"] (defScope (top 34)) := ⟨rfl, rfl, rfl, by decide +kernel, rfl, by decide +kernel, by decide +kernel⟩
def spNO : Sp := fun vs H Q _ => ∃ l : List Nat, vs = [.str (S l)] ∧ l.length ≤ 1000000 ∧ ∀ H', Same H H' → Q (numV (numW l)) H'
theorem int_w {l : List Nat} (h1 : 1 ≤ l.length) (h2 : l.length ≤ 60) (h3 : l.all dig = true) : intText? (S l) = some ((NumText.digitsVal l : Nat) : Int) := int_S h3 (fun z => by rw [z] at h1; simp at h1) (by omega)
theorem numW_no {l : List Nat} (h : numOk l = false) : numW l = none := by
  unfold numW
  rw [h]
  rfl
theorem numW_yes {l : List Nat} (h : numOk l = true) : numW l = some ((NumText.digitsVal l : Nat) : Int) := by
  unfold numW
  rw [h]
  rfl
theorem not_numOk {l : List Nat} (h : ¬ (1 ≤ l.length ∧ l.length ≤ 60 ∧ l.all dig = true ∧ (l = [48] ∨ l.head? ≠ some 48))) : numOk l = false := by
  cases e : numOk l with
  | false => rfl
  | true => exact absurd (numOk_iff.mp e) h
theorem ok_NO (T : Fx K mg) : CalX P w K mg base CX0 1 "number_of" spNO [] := by
  obtain ⟨t1, hMd⟩ := T.mdig
  obtain ⟨t2, hDs⟩ := T.digs
  refine cal0_of T 14 rfl scNO (fun vs H Q E h => by obtain ⟨l, rfl, _⟩ := h; rfl) (fun _ _ _ _ _ _ us hl => match us, hl with | [_], _ => rfl) (fun cdv A outer s H vs Q E hr h => ⟨_,
    pss_cons (ps_if (PW.pt (pw_or (pt_not (pt_chain op_le op_le pe_int (pe_callB call_len_str (by rfl) T.n_len PySem.boot_len (pa_cons (pv 0) pa_nil)) (pe_glob (v := .int 60) rfl hMd ⟨_, rfl⟩)))
      (pw_or1 (pt_not (pt_val (pe_callB (cr_all rfl) (by rfl) T.n_all (by decide +kernel) (pa_cons (pe_lc (own := [("sign", 1)]) (g := gName 1) rfl scNO.nd (pi_str (pv 0)) (blkOk_by (N := ["word", "sign"]) (sc := defScope (top 34)) (by decide +kernel))
        (fun _ _ _ _ _ => pg_name (i := 1) scNO.nd rfl (Or.inl rfl)) (fun _ _ _ _ _ => pts_nil) (fun _ _ _ _ _ => pe_cmpR op_in_sign (pv 1) (pe_glob (v := .str "0123456789") rfl hDs ⟨_, rfl⟩) (by rfl))) pa_nil)))))))
      (pss_one (ps_ret pe_non)) pss_nil)
    (pss_one (ps_ret (pe_ifExp (PW.pt (pw_or (pt_cmpR op_eq (pv 0) pe_str (nomark _)) (pw_or1 (pt_cmpR op_ne (pe_ix ix_str (pv 0) pe_int (fun _ _ => rfl)) pe_str (nomark _)))))
      (pe_callTy call_int_str (by rfl) T.n_int (by decide +kernel) (pa_cons (pv 0) pa_nil)) pe_non))), ?_⟩)
  obtain ⟨l, rfl, hl, q⟩ := h
  have sz := sizeLine_eq
  refine ⟨_, rfl, _, rfl, by rw [S_len]; omega, _, _, rfl, rfl, _, rfl, ?_⟩
  rw [S_len]
  by_cases h1 : 1 ≤ l.length
  · rw [decide_eq_true (show (1 : Int) ≤ (l.length : Int) by omega)]
    refine iteT ⟨_, _, rfl, rfl, _, rfl, ?_⟩
    by_cases h2 : l.length ≤ 60
    · rw [decide_eq_true (show (l.length : Int) ≤ 60 by omega)]
      refine ⟨_, rfl, _, rfl, fun D hD => ?_⟩
      refine lc_it (walk_str (z := S l)) (fun i H' => ∃ H1, H' = upd H1 D (.lst (((l.take i).map dig).map V.bl)) ∧ Same H H1) ⟨H, rfl, Same.refl H⟩ (fun _ _ _ _ => trivial) (fun i x H0 H' hi ⟨H1, e, sm⟩ y => ?_) (fun H' ⟨H1, e, sm⟩ => ?_)
      · obtain ⟨rfl, c, hc, rfl⟩ := y
        subst e
        have hi2 : i < l.length := by
          have z : i < (S l).cps.size := hi
          simpa using z
        have ec : l[i]? = some c := by
          have z : l.toArray[i]? = some c := hc
          simpa using z
        refine ⟨rfl, _, rfl, c, _, rfl, rfl, _, upd_same, ?_, H1, ?_, sm⟩
        · rw [List.length_map, List.length_map, List.length_take]
          omega
        · rw [upd_upd, dig_in, List.take_add_one, ec]
          simp
      · subst e
        have e1 : (S l).cps.size = l.length := by simp [S]
        rw [e1, List.take_length]
        refine ⟨D, l.map dig, rfl, SqL.of upd_same, _, rfl, ?_⟩
        have e2 : (l.map dig).all id = l.all dig := by
          rw [List.all_map]
          rfl
        rw [e2]
        have sm1 := same_upd (o := .lst ((l.map dig).map V.bl)) sm hD
        cases h3 : l.all dig with
        | false =>
          refine iteT ?_
          have z := q _ sm1
          rw [numW_no (not_numOk fun z => by rw [h3] at z; exact absurd z.2.2.1 (by decide))] at z
          exact z
        | true =>
          refine iteF ?_
          refine ⟨_, rfl, rfl, _, rfl, ?_⟩
          rw [show (Str.ofString "0") = S [48] from rfl, str_dec]
          have hint : ∀ H', Same H H' → numOk l = true → Q (.int ((NumText.digitsVal l : Nat) : Int)) H' := fun H' sm' ho => by
            have z := q H' sm'
            rw [numW_yes ho] at z
            exact z
          by_cases h4 : l = [48]
          · rw [decide_eq_true h4]
            refine iteT (iteT ⟨_, rfl, _, _, rfl, int_w h1 h2 h3, by rw [S_len]; omega, hint _ sm1 (numOk_iff.mpr ⟨h1, h2, h3, .inl h4⟩)⟩)
          · rw [decide_eq_false h4]
            refine iteF ?_
            obtain ⟨c0, r, el⟩ : ∃ c r, l = c :: r := by
              cases l with
              | nil => simp at h1
              | cons c r => exact ⟨c, r, rfl⟩
            refine ⟨_, rfl, _, _, c0, rfl, rfl, by rw [S_len]; omega, by rw [el]; exact atI_nat (xs := c0 :: r) (j := 0) rfl, rfl, _, rfl, ?_⟩
            rw [show (V.str ⟨#[c0]⟩) = V.str (S [c0]) from rfl, str_dec]
            by_cases h5 : c0 = 48
            · rw [h5, decide_eq_true rfl]
              refine iteF ?_
              have z := q _ sm1
              rw [numW_no (not_numOk fun z => by
                rcases z.2.2.2 with z | z
                · exact h4 z
                · rw [el, h5] at z
                  exact z rfl)] at z
              exact z
            · rw [decide_eq_false (show ¬ ([c0] = [48]) from fun z => h5 (List.cons.inj z).1)]
              refine iteT ⟨_, rfl, _, _, rfl, int_w h1 h2 h3, by rw [S_len]; omega, hint _ sm1 (numOk_iff.mpr ⟨h1, h2, h3, .inr fun z => h5 (by
                rw [el] at z
                exact Option.some.inj z)⟩)⟩
    · rw [decide_eq_false (show ¬ (l.length : Int) ≤ 60 by omega)]
      have z := q H (Same.refl H)
      rw [numW_no (not_numOk fun z => h2 z.2.1)] at z
      exact z
  · rw [decide_eq_false (show ¬ (1 : Int) ≤ (l.length : Int) by omega)]
    have z := q H (Same.refl H)
    rw [numW_no (not_numOk fun z => h1 z.1)] at z
    exact ⟨_, rfl, z⟩
end
end K12
namespace K12
open PySem PySem.Spec PyProof.Rows L2 TL SX
theorem spl_bound (s : Nat) : ∀ (l acc : List Nat), (spl [s] 0 acc l).length ≤ l.length + 1 ∧ ∀ w ∈ spl [s] 0 acc l, w.length ≤ acc.length + l.length
  | [], acc => by
    rw [spl_nil]
    exact ⟨Nat.le_refl _, fun w hw => by rw [List.mem_singleton.mp hw]; simp⟩
  | c :: r, acc => by
    have e0 := pre1 s c r
    cases e : pre [s] (c :: r) with
    | true =>
      rw [spl_hit e, show ([s] : List Nat).length - 1 = 0 from rfl]
      obtain ⟨h1, h2⟩ := spl_bound s r []
      refine ⟨by rw [List.length_cons, List.length_cons]; omega, fun w hw => ?_⟩
      rcases List.mem_cons.mp hw with z | z
      · rw [z]
        omega
      · have := h2 w z
        rw [List.length_cons]
        simp only [List.length_nil] at this
        omega
    | false =>
      rw [spl_miss e]
      obtain ⟨h1, h2⟩ := spl_bound s r (acc ++ [c])
      refine ⟨by rw [List.length_cons]; omega, fun w hw => ?_⟩
      have := h2 w hw
      rw [List.length_append, List.length_singleton] at this
      rw [List.length_cons]
      omega
theorem split_s {s : Nat} (hs : s < 256) (l : List Nat) : Txt.split (S l) (S [s]) = (spl [s] 0 [] l).map S :=
  split_S (by simp) (by simp [hs])
theorem pairP_none {qs : List (Option Int)} {o : Option Int} (h : ∀ a b, qs ≠ [some a, some b]) : pairP qs o = none := by
  unfold pairP
  split
  · rename_i a b
    exact absurd rfl (h a b)
  · rfl
theorem pairO_one (l : List Nat) : pairO l (some 1) = pairO l none := by
  unfold pairO pairP
  split
  · rename_i a b e
    cases ha : isPr a with
    | false => rfl
    | true =>
      have h1 := (isPr_iff.mp ha).1
      show (if (true && isPw b && decide (1 < a)) = true then some (a, b) else none) = if (true && isPw b && true) = true then some (a, b) else none
      rw [decide_eq_true h1]
  · rfl
theorem map_at {α β : Type} (f : α → β) {l : List α} {i : Nat} {y : β} (h : (l.map f)[i]? = some y) : ∃ x, l[i]? = some x ∧ y = f x := by
  rw [List.getElem?_map] at h
  cases e : l[i]? with
  | none => rw [e] at h; cases h
  | some x =>
    rw [e] at h
    exact ⟨x, rfl, (Option.some.inj h).symm⟩
section
variable {P : Program} {w : World} {K : PySem.W.Frag} {mg : Str → Option Value} {base : Heap}
/-! ### pair_of -/
theorem scPO : FnScope ["word", "least", "parts", "part"] ["word", "least"] (defScope (top 38)) := ⟨rfl, rfl, rfl, by decide +kernel, rfl, by decide +kernel, by decide +kernel⟩
/-- the answer: None, or a new pair -/
def givesP (o : Option (Int × Int)) (Q : VK) (H' : Hp) : Prop := match o with
  | none => Q .non H'
  | some pr => ∀ p, H' p = none → Q (.ref p) (upd H' p (.tup [.int pr.1, .int pr.2]))
def spPO : Sp := fun vs H Q _ => ∃ (l : List Nat) (m : Int), vs = [.str (S l), .int m] ∧ l.length ≤ 1000000 ∧ ∀ H', Same H H' → givesP (pairO l (some m)) Q H'
theorem ok_PO (T : Fx K mg) : CalX P w K mg base CX0 5 "pair_of" spPO [] := by
  obtain ⟨t1, hMark⟩ := T.mark
  refine cal0_of T 17 rfl scPO (fun vs H Q E h => by obtain ⟨l, m, rfl, _⟩ := h; rfl) (fun _ _ _ _ _ _ us hl => match us, hl with | [_, _], _ => rfl) (fun cdv A outer s H vs Q E hr h => ⟨_,
    pss_cons (ps_setLc (i := 2) (own := [("part", 3)]) (g := gName 3) (by rfl) scPO.nd rfl rfl (sw_true rfl rfl rfl (by decide +kernel)) (pi_list (pe_split (pv 0) (pe_glob (v := .str "^") rfl hMark ⟨_, rfl⟩)))
      (blkOk_by (N := ["word", "least", "parts", "part"]) (sc := defScope (top 38)) (by decide +kernel)) (fun _ _ _ _ _ => pg_name (i := 3) scPO.nd rfl (Or.inl rfl)) (fun _ _ _ _ _ => pts_nil) (fun _ _ _ _ _ => pe_c0 (ok_NO T) hr (by decide) rfl (pa_cons (pv 3) pa_nil)))
    (pss_cons (ps_if (PW.pt (pw_or (pt_cmpR op_ne (pe_callB call_len (by rfl) T.n_len PySem.boot_len (pa_cons (pv 2) pa_nil)) pe_int (nomark _)) (pw_or (pt_cmp (pc_isN (pe_ix ix_list (pv 2) pe_int (fun _ _ => rfl))) rfl) (pw_or1 (pt_cmp (pc_isN (pe_ix ix_list (pv 2) pe_int (fun _ _ => rfl))) rfl)))))
      (pss_one (ps_ret pe_non)) pss_nil)
    (pss_cons (ps_if (PW.pt (pw_or (pt_not (pt_val (pe_c0 (ok_Pri T) hr (by decide) rfl (pa_cons (pe_ix ix_list (pv 2) pe_int (fun _ _ => rfl)) pa_nil)))) (pw_or (pt_not (pt_val (pe_c0 (ok_Pow T) hr (by decide) rfl (pa_cons (pe_ix ix_list (pv 2) pe_int (fun _ _ => rfl)) pa_nil)))) (pw_or1 (pt_cmpR op_le (pe_ix ix_list (pv 2) pe_int (fun _ _ => rfl)) (pv 1) (nomark _))))))
      (pss_one (ps_ret pe_non)) pss_nil)
    (pss_one (ps_ret (pe_tup (pa_cons (pe_ix ix_list (pv 2) pe_int (fun _ _ => rfl)) (pa_cons (pe_ix ix_list (pv 2) pe_int (fun _ _ => rfl)) pa_nil))))))), ?_⟩)
  obtain ⟨l, m, rfl, hl, q⟩ := h
  have sz := sizeLine_eq
  obtain ⟨b1, b2⟩ := spl_bound 94 l []
  refine ⟨_, rfl, ⟨_, rfl⟩, _, _, rfl, rfl, by decide, by rw [S_len]; omega, fun p hp => ⟨p, rfl, ⟨_, SqL.of upd_same⟩, fun D hD => ?_⟩⟩
  rw [show (Str.ofString "^") = S [94] from rfl, split_s (by decide)]
  rw [show (Str.ofString "^") = S [94] from rfl, split_s (by decide)] at hD
  have epO : pairO l (some m) = pairP ((spl [94] 0 [] l).map numW) (some m) := rfl
  generalize spl [94] 0 [] l = ps at b1 b2 hD epO
  rw [epO] at q
  have hpD : p ≠ D := fun z => by rw [z, upd_same] at hD; cases hD
  have hD0 : H D = none := by rw [upd_ne (Ne.symm hpD)] at hD; exact hD
  refine lc_list (K := K) (a := p) (xs := (ps.map S).map V.str) (fun i H' => ∃ H1, H' = upd H1 D (.lst (((ps.take i).map numW).map numV)) ∧ Same (upd H p (.lst ((ps.map S).map V.str))) H1) ⟨_, rfl, Same.refl _⟩ (fun i H' hi ⟨H1, e, sm⟩ => SqL.of (by rw [e, upd_ne hpD]; exact sm _ _ upd_same)) (fun i x H' hx ⟨H1, e, sm⟩ => ?_) (fun H' ⟨H1, e, sm⟩ => ?_)
  · subst e
    obtain ⟨y, hy, rfl⟩ := map_at V.str hx
    obtain ⟨wd, hw, rfl⟩ := map_at S hy
    have hwl := b2 wd (List.mem_of_getElem? hw)
    simp only [List.length_nil] at hwl
    refine ⟨rfl, _, rfl, wd, rfl, by omega, fun H2 sm2 => ⟨_, sm2 _ _ upd_same, ?_, upd H2 D (.lst []), ?_, ?_⟩⟩
    · rw [List.length_map, List.length_map, List.length_take]
      omega
    · rw [upd_upd, List.take_add_one, hw]
      simp
    · intro b o hb
      have hbD : b ≠ D := fun z => by rw [z, hD] at hb; cases hb
      rw [upd_ne hbD]
      refine sm2 b o ?_
      rw [upd_ne hbD]
      exact sm b o hb
  · subst e
    rw [List.length_map, List.length_map, List.take_length]
    have sm0 : Same H (upd H1 D (.lst ((ps.map numW).map numV))) := same_upd ((same_new hp).trans sm) hD0
    have hD2 : (upd H1 D (.lst ((ps.map numW).map numV))) D = some (.lst ((ps.map numW).map numV)) := upd_same
    have hql : (ps.map numW).length = ps.length := List.length_map ..
    generalize upd H1 D (.lst ((ps.map numW).map numV)) = H2 at sm0 hD2 ⊢
    generalize ps.map numW = qs at hD2 q hql ⊢
    have q2 := q H2 sm0
    refine ⟨_, rfl, _, (qs.map numV).length, rfl, .inl ⟨_, SqL.of hD2, rfl⟩, rfl, _, rfl, ?_⟩
    rw [List.length_map]
    by_cases h2 : qs.length = 2
    · obtain ⟨x, y, eqs⟩ : ∃ x y, qs = [x, y] := by
        cases qs with
        | nil => cases h2
        | cons x r =>
          cases r with
          | nil => cases h2
          | cons y r =>
            cases r with
            | nil => exact ⟨x, y, rfl⟩
            | cons z r => simp at h2
      subst eqs
      refine iteF ?_
      refine ⟨_, rfl, _, _, _, numV x, rfl, rfl, SqL.of hD2, atI_nat (j := 0) rfl, _, rfl, ?_⟩
      cases x with
      | none =>
        refine iteT (iteT ?_)
        rw [pairP_none (fun a b z => by cases z)] at q2
        exact q2
      | some a =>
        refine iteF ?_
        refine ⟨_, rfl, _, _, _, numV y, rfl, rfl, SqL.of hD2, atI_nat (j := 1) rfl, _, rfl, ?_⟩
        cases y with
        | none =>
          refine iteT ?_
          rw [pairP_none (fun a b z => by cases z)] at q2
          exact q2
        | some b =>
          refine iteF ?_
          have e : pairP [some a, some b] (some m) = if (isPr a && isPw b && decide (m < a)) = true then some (a, b) else none := rfl
          rw [e] at q
          refine ⟨_, rfl, _, _, _, .int a, rfl, rfl, SqL.of hD2, atI_nat (j := 0) rfl, a, rfl, fun H3 sm3 => ⟨_, rfl, ?_⟩⟩
          have q3 := q H3 (sm0.trans sm3)
          have hD3 := sm3 _ _ hD2
          cases h1 : isPr a with
          | false =>
            refine iteT (iteT ?_)
            rw [h1] at q3
            exact q3
          | true =>
            refine iteF ?_
            refine ⟨_, rfl, _, _, _, .int b, rfl, rfl, SqL.of hD3, atI_nat (j := 1) rfl, b, rfl, _, rfl, ?_⟩
            cases h4 : isPw b with
            | false =>
              refine iteT (iteT ?_)
              rw [h1, h4] at q3
              exact q3
            | true =>
              refine iteF ?_
              refine ⟨_, rfl, _, _, _, .int a, rfl, rfl, SqL.of hD3, atI_nat (j := 0) rfl, _, rfl, _, _, rfl, rfl, _, rfl, ?_⟩
              rw [h1, h4] at q3
              by_cases h5 : m < a
              · rw [decide_eq_true h5] at q3
                rw [decide_eq_false (by omega)]
                refine iteF ?_
                refine ⟨_, rfl, _, _, _, .int a, rfl, rfl, SqL.of hD3, atI_nat (j := 0) rfl, _, rfl, _, _, _, .int b, rfl, rfl, SqL.of hD3, atI_nat (j := 1) rfl, by show 2 ≤ sizeLine; decide, fun p hp => q3 p hp⟩
              · rw [decide_eq_false h5] at q3
                rw [decide_eq_true (by omega)]
                exact iteT q3
    · rw [decide_eq_false (show ¬ (V.int (qs.length : Int) = V.int 2) from fun z => h2 (by
        have z2 := V.int.inj z
        omega))]
      refine iteT (iteT ?_)
      rw [pairP_none (fun a b z => h2 (by rw [z]; rfl))] at q2
      exact q2
end
end K12
namespace K12
open PySem PySem.Spec PyProof.Rows L2 TL SX
section
variable {P : Program} {w : World} {K : PySem.W.Frag} {mg : Str → Option Value} {base : Heap}
abbrev CXe (P : Program) (w : World) : CXT := L2.CX P w
theorem Fx.gI (T : Fx K mg) : mg "InvalidText" = some (.ref (K12.gI K)) := T.cls _ (by decide +kernel)
/-! ### finish_at, word_at -/
theorem scFA : FnScope ["words", "line", "spot"] ["words", "line", "spot"] (defScope (top 36)) := ⟨rfl, rfl, rfl, by decide +kernel, rfl, by decide +kernel, by decide +kernel⟩
def spFA (K : PySem.W.Frag) : Sp := fun vs H Q E => ∃ (a : Addr) (xs : List V) (n : Int), vs = [.ref a, .int 0, .int n] ∧ H a = some (.lst xs) ∧
  if n < (xs.length : Int) then (∀ d, H d = none → E (.ref (gI K)) (some d) (upd H d (.xd (fsI (.int 0) (.int n))))) else Q .non H
theorem ok_FA (T : Fx K mg) (It : ItT K (gI K) (fI K)) (PT : PrT P) : CalX P w K mg base (CXe P w) 1 "finish_at" (spFA K) [] := by
  refine calX_of T 16 rfl scFA (fun vs H Q E h => by obtain ⟨a, xs, n, rfl, _⟩ := h; rfl) (fun _ _ _ _ _ _ us hl => match us, hl with | [_, _, _], _ => rfl) (fun cdv A outer s H vs Q E hr h => ⟨_,
    pss_one (ps_if (pt_cmpR op_gt (pe_callB call_len (by rfl) T.n_len PySem.boot_len (pa_cons (pv 0) pa_nil)) (pv 2) (nomark _))
      (pss_one (ps_raise rfl (takes_of rfl rfl rfl rfl) (pmk_it It PT T.gI T.n_super hr (pa_cons (pv 1) (pa_cons (pv 2) pa_nil))))) pss_nil), ?_⟩)
  obtain ⟨a, xs, n, rfl, ha, q⟩ := h
  refine ⟨_, rfl, _, xs.length, rfl, .inl ⟨_, SqL.of ha, rfl⟩, _, rfl, _, _, rfl, rfl, _, rfl, ?_⟩
  by_cases hn : n < (xs.length : Int)
  · rw [if_pos hn] at q
    rw [decide_eq_true hn]
    exact iteT ⟨_, rfl, _, rfl, _, _, rfl, q⟩
  · rw [if_neg hn] at q
    rw [decide_eq_false hn]
    exact iteF q
theorem scWA : FnScope ["words", "line", "spot"] ["words", "line", "spot"] (defScope (top 35)) := ⟨rfl, rfl, rfl, by decide +kernel, rfl, by decide +kernel, by decide +kernel⟩
def spWA : Sp := fun vs H Q _ => ∃ (a : Addr) (xs : List V) (n : Nat) (v : V), vs = [.ref a, .int 0, .int (n : Int)] ∧ H a = some (.lst xs) ∧ xs[n]? = some v ∧ Q v H
theorem ok_WA (T : Fx K mg) : CalX P w K mg base CX0 1 "word_at" spWA [] := by
  refine cal0_of T 15 rfl scWA (fun vs H Q E h => by obtain ⟨a, xs, n, v, rfl, _⟩ := h; rfl) (fun _ _ _ _ _ _ us hl => match us, hl with | [_, _, _], _ => rfl) (fun cdv A outer s H vs Q E hr h => ⟨_,
    pss_cons (ps_if (pt_cmpR op_ge (pv 2) (pe_callB call_len (by rfl) T.n_len PySem.boot_len (pa_cons (pv 0) pa_nil)) (nomark _)) pss_never pss_nil)
      (pss_one (ps_ret (pe_ix ix_list (pv 0) (pv 2) (fun _ _ => rfl)))), ?_⟩)
  obtain ⟨a, xs, n, v, rfl, ha, hv, q⟩ := h
  have hn : n < xs.length := (List.getElem?_eq_some_iff.mp hv).1
  refine ⟨_, rfl, _, rfl, _, xs.length, rfl, .inl ⟨_, SqL.of ha, rfl⟩, _, _, rfl, rfl, _, rfl, ?_⟩
  rw [decide_eq_false (by omega)]
  refine iteF ?_
  exact ⟨_, rfl, _, rfl, _, _, _, v, rfl, rfl, SqL.of ha, atI_nat hv, q⟩
/-! ### count_of_words -/
theorem scCW : FnScope ["words", "line", "start", "found", "spot", "pair"] ["words", "line", "start"] (defScope (top 39)) := ⟨rfl, rfl, rfl, by decide +kernel, rfl, by decide +kernel, by decide +kernel⟩
/-- the answer, or the error -/
def toldX (C : Addr) (H : Hp) (Q : VK) (E : XK) (r : Except Nat Cnt) : Prop := match r with
  | .ok c => ∀ H' p, Same H H' → CntAt H' p c → Q (.ref p) H'
  | .error k => ∀ H' d, Same H H' → H' d = some (.xd (fsI (.int 0) (.int (k : Nat)))) → E (.ref C) (some d) H'
def spCW (K : PySem.W.Frag) : Sp := fun vs H Q E => ∃ (a : Addr) (ws : List (List Nat)), vs = [.ref a, .int 0, .int 0] ∧ H a = some (.lst ((ws.map S).map V.str)) ∧ ws ≠ [] ∧ ws.length ≤ 1000000 ∧ (∀ x ∈ ws, x.length ≤ 1000000) ∧ toldX (gI K) H Q E (readW ws)
/-- found, as it stands -/
def FndAt (H : Hp) (F : Addr) (f : Cnt) : Prop := ∃ bs : List Addr, H F = some (.lst (bs.map V.ref)) ∧ bs.length = f.length ∧ ∀ (i : Nat) (b : Addr) (p : Int × Int), bs[i]? = some b → f[i]? = some p → H b = some (.tup [.int p.1, .int p.2])
theorem go_cons {k : Nat} {f : Cnt} {x : List Nat} {ws : List (List Nat)} : go k f (x :: ws) = match pairO x (lastP f) with
    | none => .error k
    | some p => go (k + 1) (f ++ [p]) ws := rfl
theorem last_or {F : Addr} {H : Hp} {f : Cnt} {σ : L2.St} (h3 : σ[3]? = some (some (.ref F))) (hf : FndAt H F f) (Q' : VK) (q : Q' (.int ((lastP f).getD 1)) H) :
    tIf (tTest (tOp (rI0 fun i j => V.bl (decide (j < i))) (tCB (fun xs H Q => ∃ x n, xs = [x] ∧ LenV K x H n ∧ Q (V.int n) H) (tCons (tVar 3) tNil)) (tC (V.int 0)))) (tOp (rIxT K) (tOp (rIxL K) (tVar 3) (tUn (rU fun i => V.int (-i)) (tC (V.int 1)))) (tC (V.int 0))) (tC (V.int 1)) σ H Q' := by
  obtain ⟨bs, f1, f2, f3⟩ := hf
  refine ⟨_, h3, _, _, rfl, .inl ⟨_, SqL.of f1, rfl⟩, _, _, rfl, rfl, _, rfl, ?_⟩
  rw [List.length_map]
  rcases List.eq_nil_or_concat f with e | ⟨g, p, e⟩
  · subst e
    rw [show bs.length = 0 from f2]
    exact iteF q
  · rcases List.eq_nil_or_concat bs with eb | ⟨cs, b, eb⟩
    · rw [eb, e] at f2
      simp at f2
    · rw [List.concat_eq_append] at e eb
      subst e eb
      have hcs : cs.length = g.length := by
        rw [List.length_append, List.length_append] at f2
        simp at f2
        exact f2
      have hb : H b = some (.tup [.int p.1, .int p.2]) := f3 cs.length b p (by simp) (by rw [hcs]; simp)
      have e : lastP (g ++ [p]) = some p.1 := by
        unfold lastP
        rw [List.getLast?_concat]
        rfl
      rw [e] at q
      rw [decide_eq_true (by rw [List.length_append]; simp)]
      refine iteT ⟨_, h3, 1, rfl, _, _, _, .ref b, rfl, rfl, SqL.of f1, ?_, _, _, _, .int p.1, rfl, rfl, SqT.of hb, atI_nat (j := 0) rfl, q⟩
      rw [List.map_append]
      exact atI_last _ _
theorem pairO_or (x : List Nat) (f : Cnt) : pairO x (some ((lastP f).getD 1)) = pairO x (lastP f) := by
  cases lastP f with
  | none => exact pairO_one x
  | some m => rfl
theorem ok_CW (T : Fx K mg) (It : ItT K (gI K) (fI K)) (PT : PrT P) : CalX P w K mg base (CXe P w) 6 "count_of_words" (spCW K) [] := by
  obtain ⟨t1, hNone⟩ := T.mnone
  refine calX_of T 18 rfl scCW (fun vs H Q E h => by obtain ⟨a, ws, rfl, _⟩ := h; rfl) (fun _ _ _ _ _ _ us hl => match us, hl with | [_, _, _], _ => rfl) (fun cdv A outer s H vs Q E hr h => ⟨_,
    pss_cons (ps_if (pt_cmpR op_eq (pe_c0 (ok_WA T) hr (by decide) rfl (pa_cons (pv 0) (pa_cons (pv 1) (pa_cons (pv 2) pa_nil)))) (pe_glob (v := .str "1") rfl hNone ⟨_, rfl⟩) (nomark _))
      (pss_cons (ps_expr (pe_cx (E := E) (ok_FA T It PT) hr (by decide) (passes_call (takes_of rfl rfl rfl rfl) (fun _ _ _ _ h => h)) rfl (pa_cons (pv 0) (pa_cons (pv 1) (pa_cons (pe_op op_add (pv 2) pe_int) pa_nil)))))
        (pss_one (ps_ret (pe_tup pa_nil)))) pss_nil)
    (pss_cons (ps_set (i := 3) scCW.nd rfl (.inl rfl) (pe_lst pa_nil))
    (pss_cons (ps_for (passes_of rfl) rfl (pi_range2 (by rfl) T.n_range (pa_cons (pv 2) (pa_cons (pe_callB call_len (by rfl) T.n_len PySem.boot_len (pa_cons (pv 0) pa_nil)) pa_nil))) (pg_name (i := 4) scCW.nd rfl (.inl rfl))
      (pss_cons (ps_set (i := 5) scCW.nd rfl (.inl rfl) (pe_c0 (ok_PO T) hr (by decide) rfl (pa_cons (pe_ix ix_list (pv 0) (pv 4) (fun _ _ => rfl)) (pa_cons
        (pe_ifExp (pt_cmpR op_gt (pe_callB call_len (by rfl) T.n_len PySem.boot_len (pa_cons (pv 3) pa_nil)) pe_int (nomark _)) (pe_ix ix_tup (pe_ix ix_list (pv 3) (pe_un un_neg pe_int) (fun _ _ => rfl)) pe_int (fun _ _ => rfl)) pe_int) pa_nil))))
      (pss_cons (ps_if (pt_cmp (pc_isN (pv 5)) rfl) (pss_one (ps_raise rfl (takes_of rfl rfl rfl rfl) (pmk_it It PT T.gI T.n_super hr (pa_cons (pv 1) (pa_cons (pv 4) pa_nil))))) pss_nil)
      (pss_one (ps_expr (pe_bm PySem.F.plainAttrs_list PySem.F.slot_list_append PySem.F.type_list_append mt_append (pv 3) (pa_cons (pv 5) pa_nil)))))))
    (pss_one (ps_ret (pe_callTy call_tuple_of (by rfl) T.n_tuple (by decide +kernel) (pa_cons (pv 3) pa_nil)))))), ?_⟩)
  obtain ⟨a, ws, rfl, ha, hne, hlen, hwl, q⟩ := h
  obtain ⟨w0, wr, ew⟩ : ∃ w0 wr, ws = w0 :: wr := by
    cases ws with
    | nil => exact absurd rfl hne
    | cons x r => exact ⟨x, r, rfl⟩
  have sz := sizeLine_eq
  refine ⟨_, rfl, _, rfl, _, rfl, a, _, 0, .str (S w0), rfl, ha, by rw [ew]; rfl, rfl, _, rfl, ?_⟩
  rw [ofOne, str_dec]
  by_cases h0 : w0 = [49]
  · rw [decide_eq_true h0]
    have hh : ws.head? = some [49] := by rw [ew, h0]; rfl
    unfold readW at q
    rw [if_pos hh] at q
    refine iteT ⟨_, rfl, _, rfl, _, rfl, _, _, rfl, rfl, a, _, 1, rfl, ha, ?_⟩
    rw [List.length_map, List.length_map]
    by_cases h1 : ws.length = 1
    · rw [if_pos h1] at q
      rw [if_neg (by omega)]
      refine ⟨by show 0 ≤ sizeLine; exact Nat.zero_le _, fun t ht => q _ t (same_new ht) ⟨[], upd_same, rfl, fun i b p hb _ => by simp at hb⟩⟩
    · rw [if_neg h1] at q
      have hl : 0 < ws.length := by rw [ew]; exact Nat.succ_pos _
      rw [if_pos (by omega)]
      exact fun d hd => q _ d (same_new hd) upd_same
  · rw [decide_eq_false h0]
    refine iteF ⟨by show 0 ≤ sizeLine; exact Nat.zero_le _, fun F hF => ?_⟩
    have hq : readW ws = go 0 [] ws := by
      unfold readW
      rw [if_neg (fun z => h0 (by rw [ew] at z; exact Option.some.inj z))]
    rw [hq] at q
    refine ⟨_, rfl, _, rfl, _, ws.length, rfl, .inl ⟨_, SqL.of (same_new hF _ _ ha), by rw [List.length_map, List.length_map]⟩, 0, _, rfl, ⟨by decide, by decide, by omega, by omega⟩, ?_⟩
    rw [show ((ws.length : Int) - 0).toNat = ws.length by omega]
    refine for_range (lo := 0) (n := ws.length) (fun i σ H' => (∃ s4 s5, σ = [some (.ref a), some (.int 0), some (.int 0), some (.ref F), s4, s5]) ∧ ∃ f, FndAt H' F f ∧ Same H H' ∧ f.length ≤ i ∧ go i f (ws.drop i) = go 0 [] ws)
      ⟨⟨_, _, rfl⟩, [], ⟨[], upd_same, rfl, fun i b p hb _ => by simp at hb⟩, same_new hF, Nat.zero_le _, rfl⟩ (fun i σ H1 hi ⟨⟨s4, s5, es⟩, f, hf, sm, hfl, hg⟩ => ?_) (fun σ H1 ⟨⟨s4, s5, es⟩, f, hf, sm, hfl, hg⟩ => ?_)
    · subst es
      obtain ⟨bs, f1, f2, f3⟩ := hf
      have hx : ws[i]? = some ws[i] := List.getElem?_eq_getElem hi
      have hdrop : ws.drop i = ws[i] :: ws.drop (i + 1) := List.drop_eq_getElem_cons hi
      rw [hdrop, go_cons] at hg
      have hxl := hwl ws[i] (List.getElem_mem hi)
      generalize ws[i] = x at hx hg hxl hdrop
      have hsx : ((ws.map S).map V.str)[i]? = some (.str (S x)) := by
        rw [List.getElem?_map, List.getElem?_map, hx]
        rfl
      refine ⟨_, rfl, _, rfl, _, _, _, .str (S x), rfl, rfl, SqL.of (sm _ _ ha), by rw [Int.zero_add]; exact atI_nat hsx, ?_⟩
      refine last_or (f := f) rfl ⟨bs, f1, f2, f3⟩ _ ?_
      refine ⟨x, _, rfl, hxl, fun H2 sm2 => ?_⟩
      rw [pairO_or]
      have smH2 := sm.trans sm2
      cases e : pairO x (lastP f) with
      | none =>
        rw [e] at hg
        have hg2 : Except.error i = go 0 [] ws := hg
        rw [← hg2] at q
        refine ⟨_, rfl, _, rfl, iteT ⟨_, rfl, _, rfl, _, _, rfl, fun d hd => ?_⟩⟩
        rw [Int.zero_add]
        exact q _ d (same_upd smH2 (smH2.free hd)) upd_same
      | some pr =>
        rw [e] at hg
        have hg2 : go (i + 1) (f ++ [pr]) (ws.drop (i + 1)) = go 0 [] ws := hg
        intro p hp
        have sm3 : Same H1 (upd H2 p (.tup [.int pr.1, .int pr.2])) := sm2.trans (same_new hp)
        refine ⟨_, rfl, _, rfl, iteF ?_⟩
        refine ⟨_, rfl, .inl ⟨rfl, _, SqL.of (sm3 _ _ f1)⟩, _, rfl, F, _, _, rfl, rfl, sm3 _ _ f1, ?_, ⟨_, _, rfl⟩, f ++ [pr], ⟨bs ++ [p], ?_, ?_, ?_⟩, ?_, ?_, hg2⟩
        · rw [List.length_map, f2]
          omega
        · rw [upd_same, List.map_append]
          rfl
        · rw [List.length_append, List.length_append, f2]
          rfl
        · intro j b pp hb hpp
          have hbF : ∀ o : HO, (upd H2 p (.tup [.int pr.1, .int pr.2])) b = some o → (∀ ys, o ≠ .lst ys) → b ≠ F := fun o ho hno z => by
            rw [z, sm3 _ _ f1] at ho
            exact hno _ (Option.some.inj ho).symm
          by_cases hj : j < f.length
          · rw [List.getElem?_append_left (by omega)] at hb hpp
            have z := sm3 _ _ (f3 j b pp hb hpp)
            rw [upd_ne (hbF _ z fun ys y => by cases y)]
            exact z
          · have hj2 : j = f.length := by
              have := (List.getElem?_eq_some_iff.mp hpp).1
              rw [List.length_append] at this
              simp at this
              omega
            have e1 : b = p := by
              rw [hj2, ← f2] at hb
              simp at hb
              exact hb.symm
            have e2 : pp = pr := by
              rw [hj2] at hpp
              simp at hpp
              exact hpp.symm
            rw [e1, e2]
            rw [e1] at hbF
            rw [upd_ne (hbF _ upd_same fun ys y => by cases y)]
            exact upd_same
        · intro b o hb
          rw [upd_ne (ne_of_none hb hF)]
          exact sm3 b o (sm b o hb)
        · rw [List.length_append]
          simp
          exact hfl
    · subst es
      obtain ⟨bs, f1, f2, f3⟩ := hf
      rw [List.drop_length] at hg
      have hg2 : Except.ok f = go 0 [] ws := hg
      rw [← hg2] at q
      refine ⟨_, rfl, F, _, rfl, .inl ⟨SqL.of f1, fun t ht => q _ t (same_upd sm (sm.free ht)) ⟨bs, upd_same, f2, fun i b p hb hp => ?_⟩⟩⟩
      rw [upd_ne (ne_of_none (f3 i b p hb hp) ht)]
      exact f3 i b p hb hp
end
end K12
namespace K12
open PySem PySem.Spec PyProof.Rows L2 TL SX
section
variable {P : Program} {w : World} {K : PySem.W.Frag} {mg : Str → Option Value} {base : Heap}
/-! ### count_read -/
theorem scCR : FnScope ["text"] ["text"] (defScope (top 40)) := ⟨rfl, rfl, rfl, by decide +kernel, rfl, by decide +kernel, by decide +kernel⟩
def spCR (K : PySem.W.Frag) : Sp := fun vs H Q E => ∃ l : List Nat, vs = [.str (S l)] ∧ l.length ≤ 900000 ∧ toldX (gI K) H Q E (readL l)
theorem toldX.same {C : Addr} {H H1 : Hp} {Q : VK} {E : XK} {r : Except Nat Cnt} (h : toldX C H Q E r) (sm : Same H H1) : toldX C H1 Q E r := by
  cases r with
  | ok c => exact fun H' p s2 hc => h H' p (sm.trans s2) hc
  | error k => exact fun H' d s2 hd => h H' d (sm.trans s2) hd
theorem ok_CR (T : Fx K mg) (It : ItT K (gI K) (fI K)) (PT : PrT P) : CalX P w K mg base (CXe P w) 7 "count_read" (spCR K) [] ∧ CalKw P w K mg base (CXe P w) 7 "count_read" (spCR K) ["text"] := by
  refine both_of T 19 rfl scCR (fun vs H Q E h => by obtain ⟨l, rfl, _⟩ := h; rfl) (fun _ _ _ _ _ _ us hl => match us, hl with | [_], _ => rfl) (fun _ _ _ _ _ _ us hl => match us, hl with | [_], _ => rfl) (fun cdv A outer s H vs Q E hr h => ⟨_,
    pss_cons (ps_expr (pe_c0 (ok_Wa T) hr (by decide) rfl (pa_cons (pe_callB call_isi (by rfl) T.n_isinstance (by decide +kernel) (pa_cons (pv 0) (pa_cons (pe_bltn (u := .type "str") (v := .ty "str") (by rfl) T.n_str (by decide +kernel) rfl) pa_nil))) (pa_cons pe_str pa_nil))))
    (pss_one (ps_ret (pe_cx (E := E) (ok_CW T It PT) hr (by decide) (passes_call (takes_of rfl rfl rfl rfl) (fun _ _ _ _ h => h)) rfl (pa_cons (pe_split (pv 0) pe_str) (pa_cons pe_int (pa_cons pe_int pa_nil)))))), ?_⟩)
  obtain ⟨l, rfl, hl, q⟩ := h
  have sz := sizeLine_eq
  obtain ⟨b1, b2⟩ := spl_bound 32 l []
  refine ⟨_, rfl, _, _, _, _, true, rfl, .ty "str", .base (.str _), kit_ty (by decide +kernel), _, _, rfl, ?_⟩
  refine ⟨_, rfl, ⟨_, rfl⟩, _, _, rfl, rfl, by decide, by rw [S_len]; omega, fun p hp => ?_⟩
  rw [ofSp, split_s (by decide)]
  refine ⟨p, spl [32] 0 [] l, rfl, upd_same, spl_ne 32 l [], by omega, fun x hx => ?_, q.same (same_new hp)⟩
  have := b2 x hx
  simp only [List.length_nil] at this
  omega
end
end K12
namespace K12
open PySem PySem.Spec PyProof.Rows L2
theorem canLay_all : ∀ ds : List PyData, (∀ d ∈ ds, d.canLay0 = true) → PyData.canLayAll0 ds = true
  | [], _ => rfl
  | d :: ds, h => by
    simp only [PyData.canLayAll0, h d (List.mem_cons_self ..), canLay_all ds fun e he => h e (List.mem_cons_of_mem _ he), Bool.and_self]
theorem depth_all (n : Nat) : ∀ ds : List PyData, (∀ d ∈ ds, d.depth ≤ n) → PyData.depthAll ds ≤ n
  | [], _ => by simp only [PyData.depthAll]; exact Nat.zero_le _
  | d :: ds, h => by
    simp only [PyData.depthAll]
    exact Nat.max_le.mpr ⟨h d (List.mem_cons_self ..), depth_all n ds fun e he => h e (List.mem_cons_of_mem _ he)⟩
theorem shaped_list {ds : List PyData} (h : ∀ d ∈ ds, d.canLay0 = true ∧ d.depth ≤ 60) : SeqAt.shaped (.list ds) = true := by
  have e1 := canLay_all ds fun d hd => (h d hd).1
  have e2 := depth_all 60 ds fun d hd => (h d hd).2
  have e3 : (PyData.list ds).canLay0 = true := by simp only [PyData.canLay0, e1]
  have e4 : (PyData.list ds).depth ≤ 64 := by
    simp only [PyData.depth]
    omega
  unfold SeqAt.shaped
  rw [e3, decide_eq_true e4]
  rfl
theorem shaped_tup {ds : List PyData} (h : ∀ d ∈ ds, d.canLay0 = true ∧ d.depth ≤ 60) : SeqAt.shaped (.tuple ds) = true := by
  have e1 := canLay_all ds fun d hd => (h d hd).1
  have e2 := depth_all 60 ds fun d hd => (h d hd).2
  have e3 : (PyData.tuple ds).canLay0 = true := by simp only [PyData.canLay0, e1]
  have e4 : (PyData.tuple ds).depth ≤ 64 := by
    simp only [PyData.depth]
    omega
  unfold SeqAt.shaped
  rw [e3, decide_eq_true e4]
  rfl
theorem eqv_nilL (ds : List PyData) : PyData.eqv (.list ds) (.list []) = decide (ds = []) := by
  cases ds with
  | nil => simp [PyData.eqv, PyData.eqvAll]
  | cons d ds => simp [PyData.eqv, PyData.eqvAll]
theorem eqv_nilT (ds : List PyData) : PyData.eqv (.tuple ds) (.tuple []) = decide (ds = []) := by
  cases ds with
  | nil => simp [PyData.eqv, PyData.eqvAll]
  | cons d ds => simp [PyData.eqv, PyData.eqvAll]
theorem int_sh (i : Int) : (PyData.int i).canLay0 = true ∧ (PyData.int i).depth ≤ 60 := by
  simp [PyData.canLay0, PyData.depth]
theorem pair_sh (i j : Int) : (PyData.tuple [.int i, .int j]).canLay0 = true ∧ (PyData.tuple [.int i, .int j]).depth ≤ 60 := by
  simp [PyData.canLay0, PyData.canLayAll0, PyData.depth, PyData.depthAll]
theorem shaped_nilL : SeqAt.shaped (.list []) = true := shaped_list fun d hd => by cases hd
theorem shaped_nilT : SeqAt.shaped (.tuple []) = true := shaped_tup fun d hd => by cases hd
end K12
namespace K12
open PySem PySem.Spec PyProof.Rows L2
/-! ### the law's own test of primes -/
def smalls : List Int := [2, 3, 5, 7, 11, 13, 17, 19, 23, 29, 31, 37, 41, 43, 47, 53, 59, 61, 67, 71, 73, 79, 83, 89, 97]
def hits (n p : Int) : Bool := decide (p < n) && decide (n.fmod p = 0)
def hitL (n : Int) (l : List Int) : List Int := l.filter (hits n)
theorem small_cover : ∀ i : Nat, i < 98 → ∃ p ∈ smalls, p ≤ (i : Int) + 2 ∧ ((i : Int) + 2) % p = 0 ∧ 0 < p := by decide
theorem small_in : ∀ p ∈ smalls, ∃ i : Nat, i < 98 ∧ p = (i : Int) + 2 := by decide
theorem fmod_zero {n d : Int} (hd : 0 < d) : n.fmod d = 0 ↔ d ∣ n := by
  rw [Int.fmod_eq_emod_of_nonneg n (by omega)]
  exact ⟨Int.dvd_of_emod_eq_zero, Int.emod_eq_zero_of_dvd⟩
theorem noDiv_small (n : Int) : noDiv n = decide (hitL n smalls = []) := by
  cases h : noDiv n with
  | true =>
    symm
    refine decide_eq_true (List.filter_eq_nil_iff.mpr fun p hp hh => ?_)
    obtain ⟨i, hi, rfl⟩ := small_in p hp
    have z := List.all_eq_true.mp h i (List.mem_range.mpr hi)
    unfold hits at hh
    rw [hh] at z
    cases z
  | false =>
    symm
    refine decide_eq_false fun hn => ?_
    have hn2 : noDiv n = true := by
      refine List.all_eq_true.mpr fun i hi => ?_
      have hi' := List.mem_range.mp hi
      rw [Bool.not_eq_true']
      by_cases h1 : ((i : Int) + 2) < n
      · by_cases h2 : n.fmod ((i : Int) + 2) = 0
        · obtain ⟨p, hp, h3, h4, h5⟩ := small_cover i hi'
          have z := List.filter_eq_nil_iff.mp hn p hp
          refine absurd ?_ z
          unfold hits
          rw [decide_eq_true (by omega), decide_eq_true ((fmod_zero h5).mpr (Int.dvd_trans (Int.dvd_of_emod_eq_zero h4) ((fmod_zero (by omega)).mp h2)))]
          rfl
        · rw [decide_eq_false h2, Bool.and_false]
      · rw [decide_eq_false h1, Bool.false_and]
    rw [hn2] at h
    cases h
theorem ints_all {K : PySem.W.Frag} {H : Hp} : ∀ l : List Int, DpAll K H (l.map V.int) (l.map PyData.int)
  | [] => .nil
  | i :: l => .cons (.int i) (ints_all l)
section
variable {P : Program} {w : World} {K : PySem.W.Frag} {mg : Str → Option Value} {base : Heap}
theorem scLW : FnScope ["_law_item"] ["_law_item"] (defScope (top 47)) := ⟨rfl, rfl, rfl, by decide +kernel, rfl, by decide +kernel, by decide +kernel⟩
theorem ok_LW (T : Fx K mg) : CalX P w K mg base CX0 1 "_law_is_whole" spInt [] := by
  refine cal0_of T 25 rfl scLW (fun vs H Q E h => by obtain ⟨n, rfl, _⟩ := h; rfl) (fun _ _ _ _ _ _ us hl => match us, hl with | [_], _ => rfl) (fun cdv A outer s H vs Q E hr h => ⟨_,
    pss_one (ps_ret (pe_and (pe_callB call_isi (by rfl) T.n_isinstance (by decide +kernel) (pa_cons (pv 0) (pa_cons (pe_bltn (u := .type "int") (v := .ty "int") (by rfl) T.n_int (by decide +kernel) rfl) pa_nil)))
      (pe_one (pe_not (pe_callB call_isi (by rfl) T.n_isinstance (by decide +kernel) (pa_cons (pv 0) (pa_cons (pe_bltn (u := .type "bool") (v := .ty "bool") (by rfl) T.n_bool (by decide +kernel) rfl) pa_nil))))))), ?_⟩)
  obtain ⟨n, rfl, q⟩ := h
  refine ⟨_, rfl, _, _, _, _, true, rfl, .ty "int", .base (.int _), kit_ty (by decide +kernel), true, rfl, ?_⟩
  exact ⟨_, rfl, _, _, _, _, false, rfl, .ty "bool", .base (.int _), kit_ty (by decide +kernel), _, rfl, q⟩
theorem scLP : FnScope ["_law_item", "_law_small", "_law_p"] ["_law_item"] (defScope (top 48)) := ⟨rfl, rfl, rfl, by decide +kernel, rfl, by decide +kernel, by decide +kernel⟩
theorem ok_LP (T : Fx K mg) : CalX P w K mg base CX0 2 "_law_is_prime" spPri [] := by
  refine cal0_of T 26 rfl scLP (fun vs H Q E h => by obtain ⟨n, rfl, _⟩ := h; rfl) (fun _ _ _ _ _ _ us hl => match us, hl with | [_], _ => rfl) (fun cdv A outer s H vs Q E hr h => ⟨_,
    pss_cons (ps_if (PW.pt (pw_or (pt_not (pt_val (pe_c0 (ok_LW T) hr (by decide) rfl (pa_cons (pv 0) pa_nil)))) (pw_or (pt_cmpR op_lt (pv 0) pe_int (nomark _)) (pw_or1 (pt_cmpR op_ge (pv 0) pe_int (nomark _)))))) (pss_one (ps_ret pe_bl)) pss_nil)
    (pss_cons (ps_set (i := 1) scLP.nd rfl (.inl rfl) (pe_lst
      (pa_cons pe_int (pa_cons pe_int (pa_cons pe_int (pa_cons pe_int (pa_cons pe_int (pa_cons pe_int (pa_cons pe_int (pa_cons pe_int (pa_cons pe_int (pa_cons pe_int (pa_cons pe_int (pa_cons pe_int (pa_cons pe_int (pa_cons pe_int (pa_cons pe_int (pa_cons pe_int (pa_cons pe_int
      (pa_cons pe_int (pa_cons pe_int (pa_cons pe_int (pa_cons pe_int (pa_cons pe_int (pa_cons pe_int (pa_cons pe_int (pa_cons pe_int pa_nil)))))))))))))))))))))))))))
    (pss_one (ps_ret (pe_cmpR (op_eqD hr.units) (pe_lc (own := [("_law_p", 2)]) (g := gName 2) rfl scLP.nd (pi_list (pv 1)) (blkOk_by (N := ["_law_item", "_law_small", "_law_p"]) (sc := defScope (top 48)) (by decide +kernel))
      (fun _ _ _ _ _ => pg_name (i := 2) scLP.nd rfl (Or.inl rfl)) (fun _ _ _ _ _ => pts_one (PW.pt (pw_and (pt_cmpR op_lt (pv 2) (pv 0) (nomark _)) (pw_and1 (pt_cmpR op_eq (pe_op op_modN (pe_callTy call_int1 (by rfl) T.n_int (by decide +kernel) (pa_cons (pv 0) pa_nil)) (pv 2)) pe_int (nomark _))))))
      (fun _ _ _ _ _ => pv 2)) (pe_lst pa_nil) (nomark _))))), ?_⟩)
  obtain ⟨n, rfl, q⟩ := h
  refine ⟨_, rfl, n, rfl, true, rfl, ?_⟩
  refine iteF ⟨_, rfl, _, _, rfl, rfl, _, rfl, ?_⟩
  by_cases h1 : n < 2
  · rw [decide_eq_true h1]
    refine iteT (iteT ?_)
    have z := q H (Same.refl H)
    rw [show isPr n = false from by
      cases e : isPr n with
      | false => rfl
      | true =>
        have := (isPr_iff.mp e).1
        omega] at z
    exact z
  rw [decide_eq_false h1]
  refine iteF ⟨_, rfl, _, _, rfl, rfl, _, rfl, ?_⟩
  by_cases h2 : n ≥ 10000
  · rw [decide_eq_true (show (10000 : Int) ≤ n from h2)]
    refine iteT ?_
    have z := q H (Same.refl H)
    rw [show isPr n = false from by
      cases e : isPr n with
      | false => rfl
      | true =>
        have := (isPr_iff.mp e).2.1
        omega] at z
    exact z
  rw [decide_eq_false (show ¬ (10000 : Int) ≤ n from h2)]
  refine iteF ?_
  refine ⟨by show 25 ≤ sizeLine; rw [sizeLine_eq]; decide, fun l hl => ?_⟩
  refine ⟨_, rfl, l, rfl, ⟨_, SqL.of upd_same⟩, fun D hD => ?_⟩
  have hlD : l ≠ D := fun z => by rw [z, upd_same] at hD; cases hD
  have hD0 : H D = none := by rw [upd_ne (Ne.symm hlD)] at hD; exact hD
  refine lc_list (K := K) (a := l) (xs := smalls.map V.int) (fun i H' => ∃ H1, H' = upd H1 D (.lst ((hitL n (smalls.take i)).map V.int)) ∧ Same (upd H l (.lst (smalls.map V.int))) H1) ⟨_, rfl, Same.refl _⟩ (fun i H' hi ⟨H1, e, sm⟩ => SqL.of (by rw [e, upd_ne hlD]; exact sm _ _ upd_same)) (fun i x H' hx ⟨H1, e, sm⟩ => ?_) (fun H' ⟨H1, e, sm⟩ => ?_)
  · subst e
    rw [List.getElem?_map] at hx
    cases hp : smalls[i]? with
    | none => rw [hp] at hx; cases hx
    | some p =>
      rw [hp] at hx
      have ex : V.int p = x := Option.some.inj hx
      subst ex
      have hpm := List.mem_of_getElem? hp
      obtain ⟨j, _, hj⟩ := small_in p hpm
      have step : hitL n (smalls.take (i + 1)) = if hits n p = true then hitL n (smalls.take i) ++ [p] else hitL n (smalls.take i) := by
        rw [List.take_add_one, hp]
        unfold hitL
        rw [List.filter_append]
        cases e : hits n p with
        | true => simp [List.filter_cons, e]
        | false => simp [List.filter_cons, e]
      refine ⟨rfl, _, rfl, _, rfl, _, _, rfl, rfl, _, rfl, ?_⟩
      by_cases h3 : p < n
      · rw [decide_eq_true h3]
        refine iteT ⟨_, rfl, .inl ⟨n, rfl, _, rfl, _, _, rfl, rfl, by omega, rfl, _, rfl, ?_⟩⟩
        rw [show decide (V.int (n.fmod p) = V.int 0) = decide (n.fmod p = 0) from decide_eq_decide.mpr ⟨fun z => V.int.inj z, fun z => by rw [z]⟩]
        by_cases h4 : n.fmod p = 0
        · have hh : hits n p = true := by
            unfold hits
            rw [decide_eq_true h3, decide_eq_true h4]
            rfl
          rw [decide_eq_true h4]
          refine iteT ⟨_, rfl, _, upd_same, ?_, H1, ?_, sm⟩
          · rw [List.length_map, sizeLine_eq]
            have : (hitL n (smalls.take i)).length ≤ (smalls.take i).length := List.length_filter_le _ _
            have h6 : (smalls.take i).length ≤ 25 := by rw [List.length_take]; exact Nat.min_le_right _ _
            omega
          · rw [upd_upd, step, if_pos hh, List.map_append]
            rfl
        · have hh : hits n p = false := by
            unfold hits
            rw [decide_eq_false h4, Bool.and_false]
          rw [decide_eq_false h4]
          refine iteF ⟨H1, ?_, sm⟩
          rw [step, hh, if_neg Bool.false_ne_true]
      · have hh : hits n p = false := by
          unfold hits
          rw [decide_eq_false h3, Bool.false_and]
        rw [decide_eq_false h3]
        refine iteF (iteF ⟨H1, ?_, sm⟩)
        rw [step, hh, if_neg Bool.false_ne_true]
  · subst e
    rw [List.length_map, List.take_length]
    refine ⟨by show 0 ≤ sizeLine; exact Nat.zero_le _, fun F hF => ?_⟩
    have hDF : D ≠ F := fun z => by rw [← z, upd_same] at hF; cases hF
    refine ⟨.list ((hitL n smalls).map PyData.int), .list [], .lst (SqL.of (by rw [upd_ne hDF]; exact upd_same)) (ints_all _), .lst (SqL.of upd_same) .nil, shaped_list (fun d hd => ?_), shaped_nilL, ?_⟩
    · obtain ⟨i, _, rfl⟩ := List.mem_map.mp hd
      exact int_sh i
    · rw [eqv_nilL]
      have sm2 : Same H (upd (upd H1 D (.lst ((hitL n smalls).map V.int))) F (.lst [])) := (same_upd ((same_new hl).trans sm) hD0).trans (same_new hF)
      have z := q _ sm2
      have e : isPr n = decide ((hitL n smalls).map PyData.int = []) := by
        unfold isPr
        rw [decide_eq_true (show (1 : Int) < n by omega), decide_eq_true (show n < 10000 by omega), noDiv_small]
        show decide (hitL n smalls = []) = _
        exact decide_eq_decide.mpr List.map_eq_nil_iff.symm
      rw [e] at z
      exact z
end
end K12
namespace K12
open PySem PySem.Spec PyProof.Rows L2 TL SX
def asc (l : List Nat) : Prop := ∀ c ∈ l, c < 128
theorem str1_sh {c : Nat} (h : c < 128) : (PyData.str ⟨#[c]⟩).canLay0 = true ∧ (PyData.str ⟨#[c]⟩).depth ≤ 60 := by
  refine ⟨?_, by simp [PyData.depth]⟩
  simp only [PyData.canLay0]
  show (#[c] : Array Nat).all (· < 0x110000) = true
  simp
  omega
theorem strs_all {K : PySem.W.Frag} {H : Hp} : ∀ l : List Nat, DpAll K H (l.map fun c => V.str ⟨#[c]⟩) (l.map fun c => PyData.str ⟨#[c]⟩)
  | [] => .nil
  | i :: l => .cons (.str _) (strs_all l)
section
variable {P : Program} {w : World} {K : PySem.W.Frag} {mg : Str → Option Value} {base : Heap}
/-! ### _law_number -/
theorem scLN : FnScope ["_law_word", "_law_sign"] ["_law_word"] (defScope (top 51)) := ⟨rfl, rfl, rfl, by decide +kernel, rfl, by decide +kernel, by decide +kernel⟩
def spLN : Sp := fun vs H Q _ => ∃ l : List Nat, vs = [.str (S l)] ∧ l.length ≤ 1000000 ∧ asc l ∧ ∀ H', Same H H' → Q (numV (numW l)) H'
theorem nodig_nil (l : List Nat) : decide (l.filter (fun c => !dig c) = []) = l.all dig := by
  cases h : l.all dig with
  | true =>
    refine decide_eq_true (List.filter_eq_nil_iff.mpr fun c hc => ?_)
    rw [List.all_eq_true.mp h c hc]
    decide
  | false =>
    refine decide_eq_false fun z => ?_
    have : l.all dig = true := List.all_eq_true.mpr fun c hc => by
      have y := List.filter_eq_nil_iff.mp z c hc
      simpa using y
    rw [this] at h
    cases h
theorem ok_LN (T : Fx K mg) : CalX P w K mg base CX0 1 "_law_number" spLN [] := by
  refine cal0_of T 29 rfl scLN (fun vs H Q E h => by obtain ⟨l, rfl, _⟩ := h; rfl) (fun _ _ _ _ _ _ us hl => match us, hl with | [_], _ => rfl) (fun cdv A outer s H vs Q E hr h => ⟨_,
    pss_cons (ps_if (PW.pt (pw_or (pt_cmpR op_eq (pv 0) pe_str (nomark _)) (pw_or (pt_cmpR op_gt (pe_callB call_len_str (by rfl) T.n_len PySem.boot_len (pa_cons (pv 0) pa_nil)) pe_int (nomark _))
      (pw_or1 (pt_cmpR (op_neD hr.units) (pe_lc (own := [("_law_sign", 1)]) (g := gName 1) rfl scLN.nd (pi_str (pv 0)) (blkOk_by (N := ["_law_word", "_law_sign"]) (sc := defScope (top 51)) (by decide +kernel))
        (fun _ _ _ _ _ => pg_name (i := 1) scLN.nd rfl (Or.inl rfl)) (fun _ _ _ _ _ => pts_one (pt_cmpR op_notIn_sign (pv 1) pe_str (by rfl))) (fun _ _ _ _ _ => pv 1)) (pe_lst pa_nil) (nomark _))))))
      (pss_one (ps_ret pe_non)) pss_nil)
    (pss_one (ps_ret (pe_ifExp (PW.pt (pw_or (pt_cmpR op_eq (pv 0) pe_str (nomark _)) (pw_or1 (pt_cmpR op_ne (pe_ix ix_str (pv 0) pe_int (fun _ _ => rfl)) pe_str (nomark _)))))
      (pe_callTy call_int_str (by rfl) T.n_int (by decide +kernel) (pa_cons (pv 0) pa_nil)) pe_non))), ?_⟩)
  obtain ⟨l, rfl, hl, hasc, q⟩ := h
  have sz := sizeLine_eq
  refine ⟨_, rfl, rfl, _, rfl, ?_⟩
  rw [show (Str.ofString "") = S [] from rfl, str_dec]
  by_cases h1 : l = []
  · rw [decide_eq_true h1]
    have z := q H (Same.refl H)
    rw [numW_no (not_numOk fun z => by rw [h1] at z; exact absurd z.1 (by decide))] at z
    exact iteT (iteT z)
  have h1' : 1 ≤ l.length := List.length_pos_iff.mpr h1
  rw [decide_eq_false h1]
  refine iteF ⟨_, rfl, _, rfl, by rw [S_len]; omega, _, _, rfl, rfl, _, rfl, ?_⟩
  rw [S_len]
  by_cases h2 : l.length ≤ 60
  · rw [decide_eq_false (show ¬ (60 : Int) < (l.length : Int) by omega)]
    refine iteF ⟨_, rfl, _, rfl, fun D hD => ?_⟩
    refine lc_it (walk_str (z := S l)) (fun i H' => ∃ H1, H' = upd H1 D (.lst (((l.take i).filter fun c => !dig c).map fun c => V.str ⟨#[c]⟩)) ∧ Same H H1) ⟨H, rfl, Same.refl H⟩ (fun _ _ _ _ => trivial) (fun i x H0 H' hi ⟨H1, e, sm⟩ y => ?_) (fun H' ⟨H1, e, sm⟩ => ?_)
    · obtain ⟨rfl, c, hc, rfl⟩ := y
      subst e
      have hi2 : i < l.length := by
        have z : i < (S l).cps.size := hi
        simpa using z
      have ec : l[i]? = some c := by
        have z : l.toArray[i]? = some c := hc
        simpa using z
      refine ⟨rfl, _, rfl, c, _, rfl, rfl, _, rfl, ?_⟩
      rw [dig_in]
      have step : (l.take (i + 1)).filter (fun c => !dig c) = if (!dig c) = true then (l.take i).filter (fun c => !dig c) ++ [c] else (l.take i).filter (fun c => !dig c) := by
        rw [List.take_add_one, ec, List.filter_append]
        cases e : dig c with
        | true => simp [List.filter_cons, e]
        | false => simp [List.filter_cons, e]
      cases e : (!dig c) with
      | false =>
        refine iteF ⟨H1, ?_, sm⟩
        rw [step, e, if_neg Bool.false_ne_true]
      | true =>
        refine iteT ⟨_, rfl, _, upd_same, ?_, H1, ?_, sm⟩
        · rw [List.length_map]
          have := List.length_filter_le (fun c => !dig c) (l.take i)
          rw [List.length_take] at this
          omega
        · rw [upd_upd, step, e, if_pos rfl, List.map_append]
          rfl
    · subst e
      have e1 : (S l).cps.size = l.length := by simp [S]
      rw [e1, List.take_length]
      refine ⟨by show 0 ≤ sizeLine; exact Nat.zero_le _, fun F hF => ?_⟩
      have hDF : D ≠ F := fun z => by rw [← z, upd_same] at hF; cases hF
      refine ⟨.list ((l.filter fun c => !dig c).map fun c => PyData.str ⟨#[c]⟩), .list [], .lst (SqL.of (by rw [upd_ne hDF]; exact upd_same)) (strs_all _), .lst (SqL.of upd_same) .nil, shaped_list (fun d hd => ?_), shaped_nilL, _, rfl, ?_⟩
      · obtain ⟨c, hc, rfl⟩ := List.mem_map.mp hd
        exact str1_sh (hasc c (List.mem_filter.mp hc).1)
      rw [eqv_nilL, show decide ((l.filter fun c => !dig c).map (fun c => PyData.str ⟨#[c]⟩) = []) = decide ((l.filter fun c => !dig c) = []) from decide_eq_decide.mpr List.map_eq_nil_iff, nodig_nil]
      have sm1 : Same H (upd (upd H1 D (.lst ((l.filter fun c => !dig c).map fun c => V.str ⟨#[c]⟩))) F (.lst [])) := (same_upd sm hD).trans (same_new hF)
      cases h3 : l.all dig with
      | false =>
        refine iteT ?_
        have z := q _ sm1
        rw [numW_no (not_numOk fun z => by rw [h3] at z; exact absurd z.2.2.1 (by decide))] at z
        exact z
      | true =>
        refine iteF ?_
        refine ⟨_, rfl, rfl, _, rfl, ?_⟩
        rw [show (Str.ofString "0") = S [48] from rfl, str_dec]
        have hint : ∀ H', Same H H' → numOk l = true → Q (.int ((NumText.digitsVal l : Nat) : Int)) H' := fun H' sm' ho => by
          have z := q H' sm'
          rw [numW_yes ho] at z
          exact z
        by_cases h4 : l = [48]
        · rw [decide_eq_true h4]
          refine iteT (iteT ⟨_, rfl, _, _, rfl, int_w h1' h2 h3, by rw [S_len]; omega, hint _ sm1 (numOk_iff.mpr ⟨h1', h2, h3, .inl h4⟩)⟩)
        · rw [decide_eq_false h4]
          refine iteF ?_
          obtain ⟨c0, r, el⟩ : ∃ c r, l = c :: r := by
            cases l with
            | nil => exact absurd rfl h1
            | cons c r => exact ⟨c, r, rfl⟩
          refine ⟨_, rfl, _, _, c0, rfl, rfl, by rw [S_len]; omega, by rw [el]; exact atI_nat (xs := c0 :: r) (j := 0) rfl, rfl, _, rfl, ?_⟩
          rw [show (V.str ⟨#[c0]⟩) = V.str (S [c0]) from rfl, str_dec]
          by_cases h5 : c0 = 48
          · rw [h5, decide_eq_true rfl]
            refine iteF ?_
            have z := q _ sm1
            rw [numW_no (not_numOk fun z => by
              rcases z.2.2.2 with z | z
              · exact h4 z
              · rw [el, h5] at z
                exact z rfl)] at z
            exact z
          · rw [decide_eq_false (show ¬ ([c0] = [48]) from fun z => h5 (List.cons.inj z).1)]
            refine iteT ⟨_, rfl, _, _, rfl, int_w h1' h2 h3, by rw [S_len]; omega, hint _ sm1 (numOk_iff.mpr ⟨h1', h2, h3, .inr fun z => h5 (by
              rw [el] at z
              exact Option.some.inj z)⟩)⟩
  · rw [decide_eq_true (show (60 : Int) < (l.length : Int) by omega)]
    have z := q H (Same.refl H)
    rw [numW_no (not_numOk fun z => h2 z.2.1)] at z
    exact iteT (iteT z)
/-! ### _law_line -/
theorem scLL : FnScope ["_law_heap_here", "_law_p", "_law_k"] ["_law_heap_here"] (defScope (top 52)) := ⟨rfl, rfl, rfl, by decide +kernel, rfl, by decide +kernel, by decide +kernel⟩
theorem ok_LL (T : Fx K mg) : CalX P w K mg base CX0 1 "_law_line" spWC [] := by
  refine cal0_of T 30 rfl scLL (fun vs H Q E h => by obtain ⟨a, c, rfl, _⟩ := h; rfl) (fun _ _ _ _ _ _ us hl => match us, hl with | [_], _ => rfl) (fun cdv A outer s H vs Q E hr h => ⟨_,
    pss_one (ps_ret (pe_ifExp (pt_cmpR (op_neD hr.units) (pv 0) (pe_tup pa_nil) (nomark _))
      (pe_join pe_str (pe_lc (own := [("_law_p", 1), ("_law_k", 2)]) (g := gTup K 2 (gCons (gName 1) (gCons (gName 2) gNil))) rfl scLL.nd (pi_tup (pv 0)) (blkOk_by (N := ["_law_heap_here", "_law_p", "_law_k"]) (sc := defScope (top 52)) (by decide +kernel))
        (fun _ _ _ _ _ => pg_tup rfl (pgs_cons (pg_name (i := 1) scLL.nd rfl (.inl rfl)) (pgs_cons (pg_name (i := 2) scLL.nd rfl (.inl rfl)) pgs_nil))) (fun _ _ _ _ _ => pts_nil)
        (fun _ _ _ _ _ => pe_op op_add_str (pe_op op_add_str (pe_callTy call_str_int (by rfl) T.n_str (by decide +kernel) (pa_cons (pv 1) pa_nil)) pe_str) (pe_callTy call_str_int (by rfl) T.n_str (by decide +kernel) (pa_cons (pv 2) pa_nil)))))
      pe_str)), ?_⟩)
  obtain ⟨a, c, rfl, hc, v, q⟩ := h
  obtain ⟨bs, h1, h2, h3⟩ := id hc
  have hlc := valid_len v
  refine ⟨_, rfl, by show 0 ≤ sizeLine; exact Nat.zero_le _, fun t ht => ?_⟩
  have smt : Same H (upd H t (.tup [])) := same_new ht
  have ht1 := smt _ _ h1
  refine ⟨_, .tuple [], (hc.kt (.same smt)).dp, .tup (SqT.of upd_same) .nil, shaped_tup (fun d hd => ?_), shaped_nilT, _, rfl, ?_⟩
  · obtain ⟨p, _, rfl⟩ := List.mem_map.mp hd
    exact pair_sh _ _
  rw [show PyData.eqv (cntD c) (.tuple []) = decide (c = []) from (eqv_nilT _).trans (decide_eq_decide.mpr List.map_eq_nil_iff)]
  by_cases h0 : c = []
  · have e := q _ smt
    rw [h0] at e
    rw [decide_eq_true h0]
    exact iteF e
  · rw [decide_eq_false h0]
    refine iteT ⟨⟨_, rfl⟩, _, rfl, a, rfl, ⟨_, SqT.of ht1⟩, fun D hD => ?_⟩
    have hD0 : H D = none := smt.free hD
    refine lc_tup (K := K) (a := a) (xs := bs.map V.ref) (fun i H' => ∃ H1, H' = upd H1 D (.lst (wds (c.take i))) ∧ Same H H1) ⟨_, rfl, smt⟩ (fun i H' hi ⟨H1, e, sm⟩ => SqT.of (by rw [e]; exact same_upd sm hD0 _ _ h1)) (fun i x H' hx ⟨H1, e, sm⟩ => ?_) (fun H' ⟨H1, e, sm⟩ => ?_)
    · subst e
      obtain ⟨b, hb, rfl⟩ := map_at V.ref hx
      obtain ⟨hi, eb⟩ := List.getElem?_eq_some_iff.mp hb
      have hi2 : i < c.length := by rw [← h2]; exact hi
      have hp := h3 i b c[i] hb (List.getElem?_eq_getElem hi2)
      have okc := v.1 c[i] (List.getElem_mem hi2)
      obtain ⟨a1, a2, _⟩ := isPr_iff.mp okc.1
      obtain ⟨b1, b2⟩ := isPw_iff.mp okc.2
      have sz := sizeLine_eq
      have l1 := len_num (i := c[i].1) (by omega) a2
      have l2 := len_num (i := c[i].2) (by omega) (by omega)
      have ea : Str.ofString (toString c[i].1) ++ Str.ofString "^" = S (numL c[i].1.toNat ++ [94]) := by
        rw [num_text (by omega), ofS1, S_cat]
      have etext : Str.ofString (toString c[i].1) ++ Str.ofString "^" ++ Str.ofString (toString c[i].2) = S (wordP c[i]) := by
        rw [ea, num_text (by omega), S_cat, List.append_assoc]
        rfl
      refine ⟨b, _, rfl, SqT.of (same_upd sm hD0 _ _ hp), rfl, _, _, rfl, _, _, rfl, rfl, rfl, ?_⟩
      refine ⟨_, rfl, c[i].1, rfl, small_log (by omega) (by omega), _, _, rfl, rfl, ?_, _, rfl, c[i].2, rfl, small_log (by omega) (by omega), _, _, rfl, rfl, ?_, ?_⟩
      · rw [num_text (by omega), S_len]
        have : (Str.ofString "^").length = 1 := rfl
        omega
      · rw [ea, num_text (by omega), S_len, S_len, List.length_append]
        have : ([94] : List Nat).length = 1 := rfl
        omega
      refine ⟨_, upd_same, ?_, H1, ?_, sm⟩
      · unfold wds
        rw [List.length_map, List.length_take]
        omega
      · rw [upd_upd, etext, List.take_add_one, List.getElem?_eq_getElem hi2]
        unfold wds
        rw [List.map_append]
        rfl
    · subst e
      rw [List.length_map, h2, List.take_length]
      refine ⟨S [32], D, c.map fun p => S (wordP p), rfl, rfl, .inl (SqL.of ?_), ?_, ?_⟩
      · rw [upd_same]
        unfold wds
        rw [List.map_map]
        rfl
      · rw [List.map_map, List.length_map]
        have z := sum_le ((fun x : Str => x.length) ∘ fun p => S (wordP p)) 9 c fun p hp => by
          show (S (wordP p)).length ≤ 9
          rw [S_len]
          exact len_word (v.1 p hp)
        have : (S [32]).length = 1 := rfl
        rw [this]
        omega
      · have e : Txt.join (S [32]) (c.map fun p => S (wordP p)) = S (render c) := by
          have z := join_S [32] (c.map wordP)
          rw [List.map_map] at z
          unfold render
          rw [if_neg h0]
          exact z
        rw [e]
        exact q _ (same_upd sm hD0)
end
end K12
namespace K12
open PySem PySem.Spec PyProof.Rows L2 TL SX
theorem spl_mem (s : Nat) : ∀ (l acc w : List Nat), w ∈ spl [s] 0 acc l → ∀ c ∈ w, c ∈ acc ∨ c ∈ l
  | [], acc, w, hw, c, hc => by
    rw [spl_nil] at hw
    rw [List.mem_singleton.mp hw] at hc
    exact .inl hc
  | d :: r, acc, w, hw, c, hc => by
    have e0 := pre1 s d r
    cases e : pre [s] (d :: r) with
    | true =>
      rw [spl_hit e, show ([s] : List Nat).length - 1 = 0 from rfl] at hw
      rcases List.mem_cons.mp hw with z | z
      · rw [z] at hc
        exact .inl hc
      · rcases spl_mem s r [] w z c hc with y | y
        · cases y
        · exact .inr (List.mem_cons_of_mem _ y)
    | false =>
      rw [spl_miss e] at hw
      rcases spl_mem s r (acc ++ [d]) w hw c hc with y | y
      · rcases List.mem_append.mp y with y | y
        · exact .inl y
        · rw [List.mem_singleton.mp y]
          exact .inr (List.mem_cons_self ..)
      · exact .inr (List.mem_cons_of_mem _ y)
theorem asc_spl {s : Nat} {l w : List Nat} (h : asc l) (hw : w ∈ spl [s] 0 [] l) : asc w := fun c hc => by
  rcases spl_mem s l [] w hw c hc with z | z
  · cases z
  · exact h c z
/-- what is due, as an object -/
def DueAt (H : Hp) (p : Addr) (r : Except Nat Cnt) : Prop := match r with
  | .ok c => ∃ b, H p = some (.tup [.str "told", .ref b]) ∧ CntAt H b c
  | .error k => H p = some (.tup [.str "text", .int 0, .int (k : Nat)])
theorem fnd_dp {K : PySem.W.Frag} {H : Hp} {F : Addr} {f : Cnt} (h : FndAt H F f) : Dp K H (.ref F) (.list (f.map fun p => .tuple [.int p.1, .int p.2])) := by
  obtain ⟨bs, f1, f2, f3⟩ := h
  exact .lst (SqL.of f1) (cnt_all bs f f2 f3)
theorem fnd_same {H H' : Hp} {F : Addr} {f : Cnt} (h : FndAt H F f) (s : Same H H') : FndAt H' F f := by
  obtain ⟨bs, f1, f2, f3⟩ := h
  exact ⟨bs, s _ _ f1, f2, fun i b p hb hp => s _ _ (f3 i b p hb hp)⟩
theorem map_ref_inj : ∀ {a b : List Addr}, a.map V.ref = b.map V.ref → a = b
  | [], [], _ => rfl
  | [], _ :: _, h => by cases h
  | _ :: _, [], h => by cases h
  | x :: a, y :: b, h => by
    rw [List.map_cons, List.map_cons] at h
    injection h with h1 h2
    rw [V.ref.inj h1, map_ref_inj h2]
theorem fnd_snoc {H : Hp} {F t : Addr} {f : Cnt} {p : Int × Int} (h : FndAt H F f) (ht : H t = none) (bs : List Addr) (hbs : H F = some (.lst (bs.map V.ref))) :
    FndAt (upd (upd H t (.tup [.int p.1, .int p.2])) F (.lst (bs.map V.ref ++ [.ref t]))) F (f ++ [p]) := by
  obtain ⟨bs', f1, f2, f3⟩ := h
  have e : bs' = bs := by
    rw [f1] at hbs
    have z := HO.lst.inj (Option.some.inj hbs)
    exact map_ref_inj z
  subst e
  have htF : t ≠ F := fun z => by rw [z, f1] at ht; cases ht
  refine ⟨bs' ++ [t], by rw [upd_same, List.map_append]; rfl, by rw [List.length_append, List.length_append, f2]; rfl, fun j b pp hb hpp => ?_⟩
  by_cases hj : j < f.length
  · rw [List.getElem?_append_left (by omega)] at hb hpp
    have z := f3 j b pp hb hpp
    have n1 : b ≠ F := fun y => by rw [y, f1] at z; cases z
    rw [upd_ne n1, upd_ne (ne_of_none z ht)]
    exact z
  · have hj2 : j = f.length := by
      have := (List.getElem?_eq_some_iff.mp hpp).1
      rw [List.length_append] at this
      simp at this
      omega
    have e1 : b = t := by
      rw [hj2, ← f2] at hb
      simp at hb
      exact hb.symm
    have e2 : pp = p := by
      rw [hj2] at hpp
      simp at hpp
      exact hpp.symm
    rw [e1, e2, upd_ne htF]
    exact upd_same
section
variable {P : Program} {w : World} {K : PySem.W.Frag} {mg : Str → Option Value} {base : Heap}
/-! ### _law_read -/
theorem scLR : FnScope ["_law_line_here", "_law_words", "_law_found", "_law_k", "_law_parts", "_law_part"] ["_law_line_here"] (defScope (top 53)) := ⟨rfl, rfl, rfl, by decide +kernel, rfl, by decide +kernel, by decide +kernel⟩
def spLR : Sp := fun vs H Q _ => ∃ l : List Nat, vs = [.str (S l)] ∧ l.length ≤ 900000 ∧ asc l ∧ ∀ H' p, Same H H' → DueAt H' p (readL l) → Q (.ref p) H'
theorem ok_LR (T : Fx K mg) : CalX P w K mg base CX0 3 "_law_read" spLR [] := by
  refine cal0_of T 31 rfl scLR (fun vs H Q E h => by obtain ⟨l, rfl, _⟩ := h; rfl) (fun _ _ _ _ _ _ us hl => match us, hl with | [_], _ => rfl) (fun cdv A outer s H vs Q E hr h => ⟨_,
    pss_cons (ps_par (i := 1) (j := 2) (by rfl) scLR.nd rfl rfl (by decide) rfl rfl (pa_cons (pe_split (pv 0) pe_str) (pa_cons (pe_lst pa_nil) pa_nil)) (by rfl))
    (pss_cons (ps_if (pt_cmpR op_eq (pe_ix ix_list (pv 1) pe_int (fun _ _ => rfl)) pe_str (nomark _))
      (pss_one (ps_ret (pe_ifExp (pt_cmpR op_eq (pe_callB call_len (by rfl) T.n_len PySem.boot_len (pa_cons (pv 1) pa_nil)) pe_int (nomark _)) (pe_tup (pa_cons pe_str (pa_cons (pe_tup pa_nil) pa_nil))) (pe_tup (pa_cons pe_str (pa_cons pe_int (pa_cons pe_int pa_nil))))))) pss_nil)
    (pss_cons (ps_for PassesOwn.never rfl (pi_range1 (by rfl) T.n_range (pa_cons (pe_callB call_len (by rfl) T.n_len PySem.boot_len (pa_cons (pv 1) pa_nil)) pa_nil)) (pg_name (i := 3) scLR.nd rfl (.inl rfl))
      (pss_cons (ps_setLc (i := 4) (own := [("_law_part", 5)]) (g := gName 5) (by rfl) scLR.nd rfl rfl (sw_true rfl rfl rfl (by decide +kernel)) (pi_list (pe_split (pe_ix ix_list (pv 1) (pv 3) (fun _ _ => rfl)) pe_str))
        (blkOk_by (N := ["_law_line_here", "_law_words", "_law_found", "_law_k", "_law_parts", "_law_part"]) (sc := defScope (top 53)) (by decide +kernel)) (fun _ _ _ _ _ => pg_name (i := 5) scLR.nd rfl (Or.inl rfl)) (fun _ _ _ _ _ => pts_nil) (fun _ _ _ _ _ => pe_c0 (ok_LN T) hr (by decide) rfl (pa_cons (pv 5) pa_nil)))
      (pss_cons (ps_if (PW.pt (pw_or (pt_cmpR op_ne (pe_callB call_len (by rfl) T.n_len PySem.boot_len (pa_cons (pv 4) pa_nil)) pe_int (nomark _)) (pw_or (pt_cmpR op_in_seq pe_non (pv 4) (by rfl))
          (pw_or (pt_not (pt_val (pe_c0 (ok_LP T) hr (by decide) rfl (pa_cons (pe_ix ix_list (pv 4) pe_int (fun _ _ => rfl)) pa_nil)))) (pw_or1 (pt_not (pt_chain op_le op_le pe_int (pe_ix ix_list (pv 4) pe_int (fun _ _ => rfl)) pe_int)))))))
        (pss_one (ps_ret (pe_tup (pa_cons pe_str (pa_cons pe_int (pa_cons (pv 3) pa_nil)))))) pss_nil)
      (pss_cons (ps_if (PW.pt (pw_and (pt_cmpR (op_neD hr.units) (pv 2) (pe_lst pa_nil) (nomark _)) (pw_and1 (pt_cmpR op_le (pe_ix ix_list (pv 4) pe_int (fun _ _ => rfl)) (pe_ix ix_tup (pe_ix ix_list (pv 2) (pe_un un_neg pe_int) (fun _ _ => rfl)) pe_int (fun _ _ => rfl)) (nomark _)))))
        (pss_one (ps_ret (pe_tup (pa_cons pe_str (pa_cons pe_int (pa_cons (pv 3) pa_nil)))))) pss_nil)
      (pss_one (ps_expr (pe_bm PySem.F.plainAttrs_list PySem.F.slot_list_append PySem.F.type_list_append mt_append (pv 2) (pa_cons (pe_tup (pa_cons (pe_ix ix_list (pv 4) pe_int (fun _ _ => rfl)) (pa_cons (pe_ix ix_list (pv 4) pe_int (fun _ _ => rfl)) pa_nil))) pa_nil))))))))
    (pss_one (ps_ret (pe_tup (pa_cons pe_str (pa_cons (pe_callTy call_tuple_of (by rfl) T.n_tuple (by decide +kernel) (pa_cons (pv 2) pa_nil)) pa_nil))))))), ?_⟩)
  obtain ⟨l, rfl, hl, hasc, q⟩ := h
  have sz := sizeLine_eq
  obtain ⟨b1, b2⟩ := spl_bound 32 l []
  have hne := spl_ne 32 l []
  refine ⟨_, rfl, ⟨_, rfl⟩, _, _, rfl, rfl, by decide, by rw [S_len]; omega, fun W hW => ?_⟩
  rw [ofSp, split_s (by decide)] at *
  refine ⟨by show 0 ≤ sizeLine; exact Nat.zero_le _, fun F hF => ?_⟩
  have hws : ∀ x ∈ spl [32] 0 [] l, asc x := fun x hx => asc_spl hasc hx
  have q' : ∀ H' p, Same H H' → DueAt H' p (readW (spl [32] 0 [] l)) → Q (.ref p) H' := q
  generalize spl [32] 0 [] l = ws at *
  have hWF : W ≠ F := fun z => by rw [← z, upd_same] at hF; cases hF
  have hF0 : H F = none := by rw [upd_ne (Ne.symm hWF)] at hF; exact hF
  have smWF : Same H (upd (upd H W (.lst ((ws.map S).map V.str))) F (.lst [])) := (same_new hW).trans (same_new hF)
  obtain ⟨w0, wr, ew⟩ : ∃ w0 wr, ws = w0 :: wr := by
    cases ws with
    | nil => exact absurd rfl hne
    | cons x r => exact ⟨x, r, rfl⟩
  have hW1 : ∀ H', Same (upd (upd H W (.lst ((ws.map S).map V.str))) F (.lst [])) H' → H' W = some (.lst ((ws.map S).map V.str)) := fun H' sm => sm _ _ (by rw [upd_ne hWF]; exact upd_same)
  refine ⟨_, _, rfl, ?_⟩
  refine ⟨_, rfl, _, _, _, .str (S w0), rfl, rfl, SqL.of (hW1 _ (Same.refl _)), by rw [ew]; exact atI_nat (j := 0) rfl, rfl, _, rfl, ?_⟩
  rw [ofOne, str_dec]
  by_cases h0 : w0 = [49]
  · rw [decide_eq_true h0]
    have hh : ws.head? = some [49] := by rw [ew, h0]; rfl
    unfold readW at q'
    rw [if_pos hh] at q'
    refine iteT ⟨_, rfl, _, ws.length, rfl, .inl ⟨_, SqL.of (hW1 _ (Same.refl _)), by rw [List.length_map, List.length_map]⟩, rfl, _, rfl, ?_⟩
    by_cases h1 : ws.length = 1
    · rw [if_pos h1] at q'
      rw [decide_eq_true (show V.int (ws.length : Int) = V.int 1 by rw [h1]; rfl)]
      refine iteT ⟨by show 0 ≤ sizeLine; exact Nat.zero_le _, fun t ht => ⟨by show 2 ≤ sizeLine; decide, fun u hu => ?_⟩⟩
      have htu : t ≠ u := fun z => by rw [← z, upd_same] at hu; cases hu
      refine q' _ u ((smWF.trans (same_new ht)).trans (same_new hu)) ⟨t, upd_same, [], ?_, rfl, fun i b p hb _ => by simp at hb⟩
      rw [upd_ne htu]
      exact upd_same
    · rw [if_neg h1] at q'
      rw [decide_eq_false (fun z => h1 (by
        have z2 := V.int.inj z
        omega))]
      exact iteF ⟨by show 3 ≤ sizeLine; decide, fun u hu => q' _ u (smWF.trans (same_new hu)) upd_same⟩
  · rw [decide_eq_false h0]
    refine iteF ⟨_, rfl, _, ws.length, rfl, .inl ⟨_, SqL.of (hW1 _ (Same.refl _)), by rw [List.length_map, List.length_map]⟩, _, rfl, by omega, by omega, ?_⟩
    have hq : readW ws = go 0 [] ws := by
      unfold readW
      rw [if_neg (fun z => h0 (by rw [ew] at z; exact Option.some.inj z))]
    rw [hq] at q'
    rw [Int.toNat_natCast]
    refine for_range (lo := 0) (n := ws.length) (fun i σ H' => (∃ s3 s4 s5, σ = [some (.str (S l)), some (.ref W), some (.ref F), s3, s4, s5]) ∧ ∃ f, FndAt H' F f ∧ H' W = some (.lst ((ws.map S).map V.str)) ∧ Same H H' ∧ f.length ≤ i ∧ go i f (ws.drop i) = go 0 [] ws)
      ⟨⟨_, _, _, rfl⟩, [], ⟨[], upd_same, rfl, fun i b p hb _ => by simp at hb⟩, hW1 _ (Same.refl _), smWF, Nat.zero_le _, rfl⟩ (fun i σ H1 hi ⟨⟨s3, s4, s5, es⟩, f, hf, hWl, sm, hfl, hg⟩ => ?_) (fun σ H1 ⟨⟨s3, s4, s5, es⟩, f, hf, hWl, sm, hfl, hg⟩ => ?_)
    · subst es
      have hx : ws[i]? = some ws[i] := List.getElem?_eq_getElem hi
      have hdrop : ws.drop i = ws[i] :: ws.drop (i + 1) := List.drop_eq_getElem_cons hi
      rw [hdrop, go_cons] at hg
      have hxa := hws ws[i] (List.getElem_mem hi)
      have hxl := b2 ws[i] (List.getElem_mem hi)
      simp only [List.length_nil] at hxl
      generalize ws[i] = x at hx hg hxl hdrop hxa
      have hsx : ((ws.map S).map V.str)[i]? = some (.str (S x)) := by
        rw [List.getElem?_map, List.getElem?_map, hx]
        rfl
      have fail : go 0 [] ws = .error i → ∀ H3 t, Same H H3 → H3 t = none → Q (.ref t) (upd H3 t (.tup [.str "text", .int 0, .int (0 + (i : Int))])) := fun e H3 t s3 ht => by
        rw [e] at q'
        refine q' _ t (same_upd s3 (s3.free ht)) ?_
        rw [Int.zero_add]
        exact upd_same
      obtain ⟨c1, c2⟩ := spl_bound 94 x []
      have epO : pairO x (lastP f) = pairP ((spl [94] 0 [] x).map numW) (lastP f) := rfl
      have hpa : ∀ y ∈ spl [94] 0 [] x, asc y := fun y hy => asc_spl hxa hy
      refine ⟨_, rfl, _, rfl, _, _, _, .str (S x), rfl, rfl, SqL.of hWl, by rw [Int.zero_add]; exact atI_nat hsx, ⟨_, rfl⟩, _, _, rfl, rfl, by decide, by rw [S_len]; omega, fun p hp => ⟨p, rfl, ⟨_, SqL.of upd_same⟩, fun D hD => ?_⟩⟩
      rw [ofS1, split_s (by decide)]
      rw [ofS1, split_s (by decide)] at hD
      generalize spl [94] 0 [] x = ps at c1 c2 hD epO hpa
      rw [epO] at hg
      have hpD : p ≠ D := fun z => by rw [z, upd_same] at hD; cases hD
      have hD0 : H1 D = none := by rw [upd_ne (Ne.symm hpD)] at hD; exact hD
      refine lc_list (K := K) (a := p) (xs := (ps.map S).map V.str) (fun j H' => ∃ H2, H' = upd H2 D (.lst (((ps.take j).map numW).map numV)) ∧ Same (upd H1 p (.lst ((ps.map S).map V.str))) H2) ⟨_, rfl, Same.refl _⟩ (fun j H' hj ⟨H2, e, s2⟩ => SqL.of (by rw [e, upd_ne hpD]; exact s2 _ _ upd_same)) (fun j y H' hy ⟨H2, e, s2⟩ => ?_) (fun H' ⟨H2, e, s2⟩ => ?_)
      · subst e
        obtain ⟨z, hz, rfl⟩ := map_at V.str hy
        obtain ⟨wd, hw, rfl⟩ := map_at S hz
        have hwm := List.mem_of_getElem? hw
        have hwl := c2 wd hwm
        simp only [List.length_nil] at hwl
        refine ⟨rfl, _, rfl, wd, rfl, by omega, hpa wd hwm, fun H3 s3' => ⟨_, s3' _ _ upd_same, ?_, upd H3 D (.lst []), ?_, ?_⟩⟩
        · rw [List.length_map, List.length_map, List.length_take]
          omega
        · rw [upd_upd, List.take_add_one, hw]
          simp
        · intro b o hb
          have hbD : b ≠ D := fun z => by rw [z, hD] at hb; cases hb
          rw [upd_ne hbD]
          refine s3' b o ?_
          rw [upd_ne hbD]
          exact s2 b o hb
      · subst e
        rw [List.length_map, List.length_map, List.take_length]
        have s0 : Same H1 (upd H2 D (.lst ((ps.map numW).map numV))) := same_upd ((same_new hp).trans s2) hD0
        have hD2 : (upd H2 D (.lst ((ps.map numW).map numV))) D = some (.lst ((ps.map numW).map numV)) := upd_same
        generalize upd H2 D (.lst ((ps.map numW).map numV)) = H3 at s0 hD2 ⊢
        generalize ps.map numW = qs at hD2 hg ⊢
        have sm3 := sm.trans s0
        refine ⟨_, rfl, _, (qs.map numV).length, rfl, .inl ⟨_, SqL.of hD2, rfl⟩, rfl, _, rfl, ?_⟩
        rw [List.length_map]
        have no : pairP qs (lastP f) = none → go 0 [] ws = .error i := fun e => by
          rw [e] at hg
          exact hg.symm
        by_cases h2 : qs.length = 2
        · obtain ⟨u, v, eqs⟩ : ∃ u v, qs = [u, v] := by
            cases qs with
            | nil => cases h2
            | cons x r =>
              cases r with
              | nil => cases h2
              | cons y r =>
                cases r with
                | nil => exact ⟨x, y, rfl⟩
                | cons z r => simp at h2
          subst eqs
          refine iteF ?_
          refine ⟨_, rfl, D, _, rfl, .inl (SqL.of hD2), rfl, by cases u <;> cases v <;> rfl, _, rfl, ?_⟩
          cases u with
          | none => exact iteT (iteT ⟨_, rfl, by show 3 ≤ sizeLine; decide, fun t ht => fail (no (pairP_none fun a b z => by cases z)) _ t sm3 ht⟩)
          | some a =>
            cases v with
            | none => exact iteT (iteT ⟨_, rfl, by show 3 ≤ sizeLine; decide, fun t ht => fail (no (pairP_none fun a b z => by cases z)) _ t sm3 ht⟩)
            | some b =>
              refine iteF ?_
              have e : pairP [some a, some b] (lastP f) = if (isPr a && isPw b && aft (lastP f) a) = true then some (a, b) else none := rfl
              refine ⟨_, rfl, _, _, _, .int a, rfl, rfl, SqL.of hD2, atI_nat (j := 0) rfl, a, rfl, fun H4 s4' => ⟨_, rfl, ?_⟩⟩
              have hD4 := s4' _ _ hD2
              have sm4 := sm3.trans s4'
              have s14 := s0.trans s4'
              cases h3 : isPr a with
              | false => exact iteT (iteT ⟨_, rfl, by show 3 ≤ sizeLine; decide, fun t ht => fail (no (by rw [e, h3]; rfl)) _ t sm4 ht⟩)
              | true =>
                refine iteF ⟨_, rfl, _, _, _, .int b, rfl, rfl, SqL.of hD4, atI_nat (j := 1) rfl, _, _, rfl, rfl, _, rfl, ?_⟩
                by_cases h4 : 1 ≤ b
                · rw [decide_eq_true h4]
                  refine iteT ⟨_, _, rfl, rfl, _, rfl, ?_⟩
                  by_cases h5 : b ≤ 6
                  · have hpw : isPw b = true := isPw_iff.mpr ⟨h4, h5⟩
                    rw [decide_eq_true h5]
                    refine iteF ?_
                    refine ⟨_, rfl, by show 0 ≤ sizeLine; exact Nat.zero_le _, fun G hG => ?_⟩
                    have s15 : Same H1 (upd H4 G (.lst [])) := s14.trans (same_new hG)
                    have sm5 := sm.trans s15
                    have hD5 := (same_new (o := .lst []) hG) _ _ hD4
                    have hf5 := fnd_same hf s15
                    refine ⟨_, .list [], fnd_dp hf5, .lst (SqL.of upd_same) .nil, shaped_list (fun d hd => ?_), shaped_nilL, _, rfl, ?_⟩
                    · obtain ⟨pp, _, rfl⟩ := List.mem_map.mp hd
                      exact pair_sh _ _
                    rw [eqv_nilL, show decide ((f.map fun p => PyData.tuple [.int p.1, .int p.2]) = []) = decide (f = []) from decide_eq_decide.mpr List.map_eq_nil_iff]
                    obtain ⟨bs, f1, f2, f3⟩ := id hf5
                    have fin : aft (lastP f) a = true → ∀ Dn : Ends, (∀ σ' H', ((∃ s3 s4 s5, σ' = [some (.str (S l)), some (.ref W), some (.ref F), s3, s4, s5]) ∧ ∃ f, FndAt H' F f ∧ H' W = some (.lst ((ws.map S).map V.str)) ∧ Same H H' ∧ f.length ≤ i + 1 ∧ go (i + 1) f (ws.drop (i + 1)) = go 0 [] ws) → Dn.nx σ' H') →
                        tDrop (tBM K "list" rAppend (tVar 2) (tCons (tTup (tCons (tOp (rIxL K) (tVar 4) (tC (.int 0))) (tCons (tOp (rIxL K) (tVar 4) (tC (.int 1))) tNil))) tNil)) Dn [some (.str (S l)), some (.ref W), some (.ref F), some (.int (0 + (i : Int))), some (.ref D), s5] (upd H4 G (.lst [])) := fun ha Dn hDn => by
                      refine ⟨_, rfl, .inl ⟨rfl, _, SqL.of f1⟩, _, rfl, _, _, _, .int a, rfl, rfl, SqL.of hD5, atI_nat (j := 0) rfl, _, rfl, _, _, _, .int b, rfl, rfl, SqL.of hD5, atI_nat (j := 1) rfl, by show 2 ≤ sizeLine; decide, fun t ht => ?_⟩
                      refine ⟨F, _, _, rfl, rfl, (same_new ht) _ _ f1, ?_, hDn _ _ ⟨⟨_, _, _, rfl⟩, f ++ [(a, b)], fnd_snoc (p := (a, b)) hf5 ht bs f1, ?_, ?_, ?_, ?_⟩⟩
                      · rw [List.length_map, f2]
                        omega
                      · rw [upd_ne hWF]
                        exact (same_new ht) _ _ (s15 _ _ hWl)
                      · intro b' o hb
                        rw [upd_ne (ne_of_none hb hF0)]
                        exact (sm5.trans (same_new ht)) b' o hb
                      · rw [List.length_append]
                        exact Nat.succ_le_succ hfl
                      · rw [e, h3, hpw, ha] at hg
                        exact hg
                    rcases List.eq_nil_or_concat f with ef | ⟨g, p, ef⟩
                    · rw [ef, decide_eq_true rfl]
                      refine iteF (iteF ?_)
                      exact fin (by rw [ef]; rfl) _ fun _ _ h => h
                    · rw [decide_eq_false (fun z => by rw [ef] at z; simp at z)]
                      rw [List.concat_eq_append] at ef
                      obtain ⟨cs, bl, eb⟩ : ∃ cs bl, bs = cs ++ [bl] := by
                        rcases List.eq_nil_or_concat bs with eb | ⟨cs, bl, eb⟩
                        · rw [eb, ef] at f2
                          simp at f2
                        · exact ⟨cs, bl, by rw [eb, List.concat_eq_append]⟩
                      have hcs : cs.length = g.length := by
                        rw [eb, ef, List.length_append, List.length_append] at f2
                        simp at f2
                        exact f2
                      have hbl : (upd H4 G (.lst [])) bl = some (.tup [.int p.1, .int p.2]) := f3 cs.length bl p (by rw [eb]; simp) (by rw [ef, hcs]; simp)
                      have elp : lastP f = some p.1 := by
                        unfold lastP
                        rw [ef, List.getLast?_concat]
                        rfl
                      refine iteT ⟨_, rfl, _, _, _, .int a, rfl, rfl, SqL.of hD5, atI_nat (j := 0) rfl, _, rfl, 1, rfl, _, _, _, .ref bl, rfl, rfl, SqL.of f1, ?_, _, _, _, .int p.1, rfl, rfl, SqT.of hbl, atI_nat (j := 0) rfl, _, _, rfl, rfl, _, rfl, ?_⟩
                      · rw [eb, List.map_append]
                        exact atI_last _ _
                      by_cases h6 : a ≤ p.1
                      · rw [decide_eq_true h6]
                        refine iteT ⟨_, rfl, by show 3 ≤ sizeLine; decide, fun t ht => fail (no ?_) _ t sm5 ht⟩
                        rw [e, h3, hpw, elp]
                        show (if (true && true && decide (p.1 < a)) = true then some (a, b) else none) = none
                        rw [decide_eq_false (by omega)]
                        rfl
                      · rw [decide_eq_false h6]
                        refine iteF (fin ?_ _ fun _ _ h => h)
                        rw [elp]
                        exact decide_eq_true (by omega)
                  · have hpw : isPw b = false := by
                      cases z : isPw b with
                      | false => rfl
                      | true => exact absurd (isPw_iff.mp z).2 h5
                    rw [decide_eq_false h5]
                    exact iteT ⟨_, rfl, by show 3 ≤ sizeLine; decide, fun t ht => fail (no (by rw [e, h3, hpw]; rfl)) _ t sm4 ht⟩
                · have hpw : isPw b = false := by
                    cases z : isPw b with
                    | false => rfl
                    | true => exact absurd (isPw_iff.mp z).1 h4
                  rw [decide_eq_false h4]
                  refine iteF ⟨_, rfl, ?_⟩
                  exact iteT ⟨_, rfl, by show 3 ≤ sizeLine; decide, fun t ht => fail (no (by rw [e, h3, hpw]; rfl)) _ t sm4 ht⟩
        · rw [decide_eq_false (show ¬ (V.int (qs.length : Int) = V.int 2) from fun z => h2 (by
            have z2 := V.int.inj z
            omega))]
          exact iteT (iteT ⟨_, rfl, by show 3 ≤ sizeLine; decide, fun t ht => fail (no (pairP_none fun a b z => h2 (by rw [z]; rfl))) _ t sm3 ht⟩)
    · subst es
      obtain ⟨bs, f1, f2, f3⟩ := hf
      rw [List.drop_length] at hg
      have hg2 : Except.ok f = go 0 [] ws := hg
      rw [← hg2] at q'
      refine ⟨_, rfl, F, _, rfl, .inl ⟨SqL.of f1, fun t ht => ⟨by show 2 ≤ sizeLine; decide, fun u hu => ?_⟩⟩⟩
      have htu : t ≠ u := fun z => by rw [← z, upd_same] at hu; cases hu
      refine q' _ u ((same_upd sm (sm.free ht)).trans (same_new hu)) ⟨t, upd_same, bs, ?_, f2, fun i b p hb hp => ?_⟩
      · rw [upd_ne htu]
        exact upd_same
      · have z := f3 i b p hb hp
        exact (same_new hu) _ _ ((same_new ht) _ _ z)
end
end K12
namespace K12
open PySem PySem.Spec PyProof.Rows L2
abbrev ky (x : Str) : Key := Sum.inr x
def dk (cl : Addr) (nx lf dr : Int) : List (Key × V) := [(ky "cells", .ref cl), (ky "next", .int nx), (ky "left", .int lf), (ky "drawn", .int dr)]
/-- at fd: the feed -/
def FeedAt (H : Hp) (fd cl : Addr) : Prop := ∃ (ns : List Int) (nx lf dr : Int), H fd = some (.dK (dk cl nx lf dr)) ∧ H cl = some (.lst (ns.map V.int))
/-- all but x stays -/
def But (x : Addr) (H H' : Hp) : Prop := ∀ b o, b ≠ x → H b = some o → H' b = some o
theorem But.refl (x : Addr) (H : Hp) : But x H H := fun _ _ _ h => h
theorem But.trans {x : Addr} {H H1 H2 : Hp} (a : But x H H1) (b : But x H1 H2) : But x H H2 := fun c o n h => b c o n (a c o n h)
theorem But.of {x : Addr} {H H' : Hp} (s : Same H H') : But x H H' := fun b o _ h => s b o h
theorem but_upd {x : Addr} {H : Hp} {o : HO} : But x H (upd H x o) := fun b u n h => by
  rw [upd_ne n]
  exact h
theorem dk_put1 {cl : Addr} {nx lf dr v : Int} : putK (dk cl nx lf dr) (ky "drawn") (.int v) = dk cl nx lf v := rfl
theorem dk_put2 {cl : Addr} {nx lf dr v : Int} : putK (dk cl nx lf dr) (ky "left") (.int v) = dk cl nx v dr := rfl
theorem dk_put3 {cl : Addr} {nx lf dr v : Int} : putK (dk cl nx lf dr) (ky "next") (.int v) = dk cl v lf dr := rfl
theorem dk_len {cl : Addr} {nx lf dr : Int} : (dk cl nx lf dr).length < sizeLine := by
  rw [sizeLine_eq]
  show 4 < 16777216
  decide
theorem dk_get1 {H : Hp} {fd cl : Addr} {nx lf dr : Int} (h : H fd = some (.dK (dk cl nx lf dr))) : DGet H fd (.str "drawn") (some (.int dr)) := DGet.k (k := ky "drawn") h
theorem dk_get2 {H : Hp} {fd cl : Addr} {nx lf dr : Int} (h : H fd = some (.dK (dk cl nx lf dr))) : DGet H fd (.str "left") (some (.int lf)) := DGet.k (k := ky "left") h
theorem dk_get3 {H : Hp} {fd cl : Addr} {nx lf dr : Int} (h : H fd = some (.dK (dk cl nx lf dr))) : DGet H fd (.str "next") (some (.int nx)) := DGet.k (k := ky "next") h
theorem dk_get4 {H : Hp} {fd cl : Addr} {nx lf dr : Int} (h : H fd = some (.dK (dk cl nx lf dr))) : DGet H fd (.str "cells") (some (.ref cl)) := DGet.k (k := ky "cells") h
theorem dk_st1 {H : Hp} {fd cl : Addr} {nx lf dr v : Int} (h : H fd = some (.dK (dk cl nx lf dr))) : DPut H fd (.str "drawn") (.int v) (upd H fd (.dK (dk cl nx lf v))) := DPut.k (k := ky "drawn") h dk_len
theorem dk_st2 {H : Hp} {fd cl : Addr} {nx lf dr v : Int} (h : H fd = some (.dK (dk cl nx lf dr))) : DPut H fd (.str "left") (.int v) (upd H fd (.dK (dk cl nx v dr))) := DPut.k (k := ky "left") h dk_len
theorem dk_st3 {H : Hp} {fd cl : Addr} {nx lf dr v : Int} (h : H fd = some (.dK (dk cl nx lf dr))) : DPut H fd (.str "next") (.int v) (upd H fd (.dK (dk cl v lf dr))) := DPut.k (k := ky "next") h dk_len
section
variable {P : Program} {w : World} {K : PySem.W.Frag} {mg : Str → Option Value} {base : Heap}
/-! ### _law_draw -/
theorem scDr : FnScope ["_law_feed_here", "_law_many", "_law_digit", "_law_k", "_law_cells", "_law_cell", "_law_mixed"] ["_law_feed_here", "_law_many"] (defScope (top 43)) := ⟨rfl, rfl, rfl, by decide +kernel, rfl, by decide +kernel, by decide +kernel⟩
def spDr : Sp := fun vs H Q _ => ∃ (fd cl : Addr) (m : Int), vs = [.ref fd, .int m] ∧ 0 < m ∧ m < 1000000000 ∧ FeedAt H fd cl ∧ ∀ H' r, 0 ≤ r → r < m → FeedAt H' fd cl → But fd H H' → Q (.int r) H'
theorem ok_Dr (T : Fx K mg) : CalX P w K mg base CX0 1 "_law_draw" spDr [] := by
  refine cal0_of T 21 rfl scDr (fun vs H Q E h => by obtain ⟨fd, cl, m, rfl, _⟩ := h; rfl) (fun _ _ _ _ _ _ us hl => match us, hl with | [_, _], _ => rfl) (fun cdv A outer s H vs Q E hr h => ⟨_,
    pss_cons (ps_dput (hu_of hr) (pv 0) pe_str (pe_op op_add (pe_dget (hu_of hr) (pv 0) pe_str (fun _ _ => rfl)) pe_int) rfl)
    (pss_cons (ps_if (pt_cmpR op_gt (pe_dget (hu_of hr) (pv 0) pe_str (fun _ _ => rfl)) pe_int (nomark _))
      (pss_cons (ps_set (i := 2) scDr.nd rfl (.inl rfl) (pe_op op_modN (pe_callTy call_int1 (by rfl) T.n_int (by decide +kernel) (pa_cons (pe_dget (hu_of hr) (pv 0) pe_str (fun _ _ => rfl)) pa_nil)) (pv 1)))
      (pss_cons (ps_dput (hu_of hr) (pv 0) pe_str (pe_op op_fdivN (pe_dget (hu_of hr) (pv 0) pe_str (fun _ _ => rfl)) (pv 1)) rfl)
      (pss_one (ps_ret (pv 2))))) pss_nil)
    (pss_cons (ps_par (i := 3) (j := 4) (by rfl) scDr.nd rfl rfl (by decide) rfl rfl (pa_cons (pe_dget (hu_of hr) (pv 0) pe_str (fun _ _ => rfl)) (pa_cons (pe_dget (hu_of hr) (pv 0) pe_str (fun _ _ => rfl)) pa_nil)) (by rfl))
    (pss_cons (ps_dput (hu_of hr) (pv 0) pe_str (pe_op op_add (pv 3) pe_int) rfl)
    (pss_cons (ps_set (i := 5) scDr.nd rfl (.inl rfl) (pe_ifExp (pt_cmpR (op_neD hr.units) (pv 4) (pe_lst pa_nil) (nomark _))
      (pe_ix ix_list (pv 4) (pe_op op_modN (pe_callTy call_int1 (by rfl) T.n_int (by decide +kernel) (pa_cons (pv 3) pa_nil)) (pe_callB call_len (by rfl) T.n_len PySem.boot_len (pa_cons (pv 4) pa_nil))) (fun _ _ => rfl)) pe_int))
    (pss_cons (ps_if (PW.pt (pw_and (pt_cmpR op_ge (pv 5) (pe_op op_pow pe_int pe_int) (nomark _)) (pw_and1 (pt_cmpR op_lt (pv 3) (pe_callB call_len (by rfl) T.n_len PySem.boot_len (pa_cons (pv 4) pa_nil)) (nomark _)))))
      (pss_cons (ps_dput (hu_of hr) (pv 0) pe_str (pe_op op_fdivN (pv 5) (pv 1)) rfl)
      (pss_one (ps_ret (pe_op op_modN (pe_callTy call_int1 (by rfl) T.n_int (by decide +kernel) (pa_cons (pv 5) pa_nil)) (pv 1))))) pss_nil)
    (pss_cons (ps_set (i := 6) scDr.nd rfl (.inl rfl) (pe_op op_modN (pe_callTy call_int1 (by rfl) T.n_int (by decide +kernel) (pa_cons (pe_op op_add (pe_op op_add (pe_op op_modN (pe_callTy call_int1 (by rfl) T.n_int (by decide +kernel) (pa_cons (pv 5) pa_nil)) pe_int) (pe_op op_mul pe_int (pe_dget (hu_of hr) (pv 0) pe_str (fun _ _ => rfl)))) pe_int) pa_nil)) pe_int))
    (pss_cons (ps_set (i := 6) scDr.nd rfl (.inl rfl) (pe_op op_modN (pe_callTy call_int1 (by rfl) T.n_int (by decide +kernel) (pa_cons (pe_op op_add (pe_op op_add (pe_op op_mul (pv 6) (pv 6)) (pe_op op_mul pe_int (pe_dget (hu_of hr) (pv 0) pe_str (fun _ _ => rfl)))) pe_int) pa_nil)) pe_int))
    (pss_one (ps_ret (pe_op op_modN (pe_callTy call_int1 (by rfl) T.n_int (by decide +kernel) (pa_cons (pe_op op_fdivN (pe_op op_modN (pe_callTy call_int1 (by rfl) T.n_int (by decide +kernel) (pa_cons (pe_op op_add (pe_op op_mul (pv 6) (pv 6)) (pe_op op_mul pe_int (pv 6))) pa_nil)) pe_int) pe_int) pa_nil)) (pv 1))))))))))), ?_⟩)
  obtain ⟨fd, cl, m, rfl, hm, hm2, ⟨ns, nx, lf, dr, h1, h2⟩, q⟩ := h
  have hcf : cl ≠ fd := fun z => by rw [z, h1] at h2; cases h2
  refine ⟨_, rfl, fd, _, rfl, dk_get1 h1, _, _, rfl, rfl, _, rfl, fd, _, rfl, dk_st1 h1, ?_⟩
  have h3 : (upd H fd (.dK (dk cl nx lf (dr + 1)))) fd = some (.dK (dk cl nx lf (dr + 1))) := upd_same
  have h4 : (upd H fd (.dK (dk cl nx lf (dr + 1)))) cl = some (.lst (ns.map V.int)) := by rw [upd_ne hcf]; exact h2
  have b1 : But fd H (upd H fd (.dK (dk cl nx lf (dr + 1)))) := but_upd
  generalize upd H fd (.dK (dk cl nx lf (dr + 1))) = H1 at h3 h4 b1
  refine ⟨_, rfl, fd, _, rfl, dk_get2 h3, _, _, rfl, rfl, _, rfl, ?_⟩
  by_cases hlf : (0 : Int) < lf
  · rw [decide_eq_true hlf]
    refine iteT ⟨_, rfl, fd, _, rfl, dk_get2 h3, .inl ⟨lf, rfl, _, rfl, _, _, rfl, rfl, by omega, ?_⟩⟩
    refine ⟨_, rfl, fd, _, rfl, dk_get2 h3, _, rfl, _, _, rfl, rfl, ⟨by omega, by omega⟩, _, rfl, fd, _, rfl, dk_st2 h3, _, rfl, ?_⟩
    exact q _ _ (Int.fmod_nonneg_of_pos _ hm) (Int.fmod_lt_of_pos _ hm) ⟨ns, _, _, _, upd_same, by rw [upd_ne hcf]; exact h4⟩ (b1.trans but_upd)
  rw [decide_eq_false hlf]
  refine iteF ⟨_, rfl, fd, _, rfl, dk_get3 h3, _, rfl, fd, _, rfl, dk_get4 h3, _, _, rfl, ?_⟩
  refine ⟨_, rfl, _, _, rfl, rfl, _, rfl, fd, _, rfl, dk_st3 h3, ?_⟩
  have h5 : (upd H1 fd (.dK (dk cl (nx + 1) lf (dr + 1)))) fd = some (.dK (dk cl (nx + 1) lf (dr + 1))) := upd_same
  have h6 : (upd H1 fd (.dK (dk cl (nx + 1) lf (dr + 1)))) cl = some (.lst (ns.map V.int)) := by rw [upd_ne hcf]; exact h4
  have b2 : But fd H (upd H1 fd (.dK (dk cl (nx + 1) lf (dr + 1)))) := b1.trans but_upd
  generalize upd H1 fd (.dK (dk cl (nx + 1) lf (dr + 1))) = H2 at h5 h6 b2
  refine ⟨_, rfl, by show 0 ≤ sizeLine; exact Nat.zero_le _, fun t ht => ?_⟩
  have h7 := (same_new (o := .lst []) ht) _ _ h5
  have h8 := (same_new (o := .lst []) ht) _ _ h6
  have b3 : But fd H (upd H2 t (.lst [])) := b2.trans (But.of (same_new ht))
  refine ⟨.list (ns.map PyData.int), .list [], .lst (SqL.of h8) (ints_all ns), .lst (SqL.of upd_same) .nil, shaped_list (fun d hd => ?_), shaped_nilL, _, rfl, ?_⟩
  · obtain ⟨i, _, rfl⟩ := List.mem_map.mp hd
    exact int_sh i
  generalize upd H2 t (.lst []) = H3 at h7 h8 b3
  rw [eqv_nilL, show decide (ns.map PyData.int = []) = decide (ns = []) from decide_eq_decide.mpr List.map_eq_nil_iff]
  by_cases hns : ns = []
  rw [decide_eq_true hns]
  refine iteF ?_
  generalize (116534 : Int) = cell
  rotate_left
  rw [decide_eq_false hns]
  have hlen : 0 < ns.length := List.length_pos_iff.mpr hns
  have hnn : 0 ≤ nx.fmod (ns.length : Int) := Int.fmod_nonneg_of_pos _ (by omega)
  have hlt : nx.fmod (ns.length : Int) < (ns.length : Int) := Int.fmod_lt_of_pos _ (by omega)
  obtain ⟨j, hj⟩ : ∃ j : Nat, nx.fmod (ns.length : Int) = (j : Int) := ⟨_, (Int.toNat_of_nonneg hnn).symm⟩
  have hj2 : j < ns.length := by omega
  refine iteT ⟨_, rfl, _, rfl, .inl ⟨nx, rfl, _, rfl, _, ns.length, rfl, .inl ⟨_, SqL.of h8, by rw [List.length_map]⟩, _, _, rfl, rfl, by omega, _, _, _, .int ns[j], rfl, rfl, SqL.of h8, ?_, ?_⟩⟩
  rw [hj]
  refine atI_nat ?_
  rw [List.getElem?_map, List.getElem?_eq_getElem hj2]
  rfl
  generalize ns[j] = cell
  all_goals
    refine ⟨_, rfl, _, _, rfl, rfl, ⟨by decide, by decide, by decide⟩, _, _, rfl, rfl, _, rfl, ?_⟩
    refine ite2 (fun _ => ?_) (fun _ => iteF ?_)
    refine ⟨_, rfl, _, rfl, _, ns.length, rfl, .inl ⟨_, SqL.of h8, by rw [List.length_map]⟩, _, _, rfl, rfl, _, rfl, ?_⟩
    refine ite2 (fun _ => ?_) (fun _ => ?_)
    · refine ⟨_, rfl, _, rfl, _, _, rfl, rfl, ⟨by omega, by omega⟩, _, rfl, fd, _, rfl, dk_st2 h7, _, rfl, .inl ⟨cell, rfl, _, rfl, _, _, rfl, rfl, by omega, ?_⟩⟩
      exact q _ _ (Int.fmod_nonneg_of_pos _ hm) (Int.fmod_lt_of_pos _ hm) ⟨ns, _, _, _, upd_same, by rw [upd_ne hcf]; exact h8⟩ (b3.trans but_upd)
    all_goals
      refine ⟨_, rfl, .inl ⟨cell, rfl, _, _, rfl, rfl, (show (1000623683 : Int) ≠ 0 by decide), ?_⟩⟩
      refine ⟨_, rfl, fd, _, rfl, dk_get1 h7, _, _, rfl, rfl, .inl ⟨by decide, by decide⟩, _, _, rfl, rfl, _, _, rfl, rfl, .inl ⟨_, rfl, _, _, rfl, rfl, (show (2147302535 : Int) ≠ 0 by decide), ?_⟩⟩
      have m0 := Int.fmod_nonneg_of_pos (cell.fmod 1000623683 + 87456 * (dr + 1) + 1104) (show (0 : Int) < 2147302535 by decide)
      have m1 := Int.fmod_lt_of_pos (cell.fmod 1000623683 + 87456 * (dr + 1) + 1104) (show (0 : Int) < 2147302535 by decide)
      refine ⟨_, rfl, _, rfl, _, _, rfl, rfl, .inl ⟨by omega, by omega⟩, ?_⟩
      refine ⟨_, rfl, fd, _, rfl, dk_get1 h7, _, _, rfl, rfl, .inl ⟨by decide, by decide⟩, _, _, rfl, rfl, _, _, rfl, rfl, .inl ⟨_, rfl, _, _, rfl, rfl, (show (2147312077 : Int) ≠ 0 by decide), ?_⟩⟩
      have n0 := Int.fmod_nonneg_of_pos ((cell.fmod 1000623683 + 87456 * (dr + 1) + 1104).fmod 2147302535 * (cell.fmod 1000623683 + 87456 * (dr + 1) + 1104).fmod 2147302535 + 1212024 * (dr + 1) + 856) (show (0 : Int) < 2147312077 by decide)
      have n1 := Int.fmod_lt_of_pos ((cell.fmod 1000623683 + 87456 * (dr + 1) + 1104).fmod 2147302535 * (cell.fmod 1000623683 + 87456 * (dr + 1) + 1104).fmod 2147302535 + 1212024 * (dr + 1) + 856) (show (0 : Int) < 2147312077 by decide)
      refine ⟨_, rfl, _, rfl, _, _, rfl, rfl, .inl ⟨Int.lt_of_lt_of_le (by decide) n0, Int.lt_trans n1 (by decide)⟩, ?_⟩
      refine ⟨_, rfl, _, _, rfl, rfl, .inl ⟨by decide, by decide⟩, _, _, rfl, rfl, .inl ⟨_, rfl, _, _, rfl, rfl, (show (2147322373 : Int) ≠ 0 by decide), _, _, rfl, rfl, ⟨by decide, by decide⟩, .inl ⟨_, rfl, _, rfl, _, _, rfl, rfl, by omega, ?_⟩⟩⟩
      exact q _ _ (Int.fmod_nonneg_of_pos _ hm) (Int.fmod_lt_of_pos _ hm) ⟨ns, _, _, _, h7, h8⟩ b3
end
end K12
namespace K12
open PySem PySem.Spec PyProof.Rows L2 TL SX
theorem FeedAt.same {H H' : Hp} {fd cl : Addr} (h : FeedAt H fd cl) (s : Same H H') : FeedAt H' fd cl := by
  obtain ⟨ns, nx, lf, dr, h1, h2⟩ := h
  exact ⟨ns, nx, lf, dr, s _ _ h1, s _ _ h2⟩
theorem cutV_ints (ns : List Int) (lo hi : Option Int) : ∃ ms : List Int, cutV (ns.map V.int) lo hi = ms.map V.int :=
  ⟨_, by unfold cutV; rw [← List.map_drop, ← List.map_take]⟩
section
variable {P : Program} {w : World} {K : PySem.W.Frag} {mg : Str → Option Value} {base : Heap}
/-! ### _law_feed -/
theorem scFe : FnScope ["_law_script", "_law_cell"] ["_law_script"] (defScope (top 42)) := ⟨rfl, rfl, rfl, by decide +kernel, rfl, by decide +kernel, by decide +kernel⟩
def spFe (K : PySem.W.Frag) : Sp := fun vs H Q _ => ∃ (a : Addr) (ns : List Int), vs = [.ref a] ∧ SqL K H a (ns.map V.int) ∧ ns.length ≤ 100000 ∧ ∀ H' fd cl, Same H H' → FeedAt H' fd cl → H fd = none → Q (.ref fd) H'
theorem ok_Fe (T : Fx K mg) : CalX P w K mg base CX0 1 "_law_feed" (spFe K) [] := by
  refine cal0_of T 20 rfl scFe (fun vs H Q E h => by obtain ⟨a, ns, rfl, _⟩ := h; rfl) (fun _ _ _ _ _ _ us hl => match us, hl with | [_], _ => rfl) (fun cdv A outer s H vs Q E hr h => ⟨_,
    pss_one (ps_ret (pe_disp (pps_cons pe_str (pe_lc (own := [("_law_cell", 1)]) (g := gName 1) rfl scFe.nd (pi_list (pe_slice sl_list (pv 0) po_none (po_some pe_int))) (blkOk_by (N := ["_law_script", "_law_cell"]) (sc := defScope (top 42)) (by decide +kernel))
      (fun _ _ _ _ _ => pg_name (i := 1) scFe.nd rfl (Or.inl rfl)) (fun _ _ _ _ _ => pts_nil) (fun _ _ _ _ _ => pe_callTy call_int1 (by rfl) T.n_int (by decide +kernel) (pa_cons (pv 1) pa_nil)))
      (pps_cons pe_str pe_int (pps_cons pe_str pe_int (pps_cons pe_str pe_int pps_nil)))) (by rfl) (by rfl) (fun z => by cases z) (by decide))), ?_⟩)
  obtain ⟨a, ns, rfl, ha, hlen, q⟩ := h
  intro fd hfd
  have s1 : Same H (upd H fd (.dK [])) := same_new hfd
  refine ⟨_, rfl, 63, rfl, a, _, rfl, s1.seq ha, fun p hp => ?_⟩
  obtain ⟨ms, em⟩ := cutV_ints ns none (some 63)
  have hml : ms.length ≤ 100000 := by
    have z := cutV_length (ns.map V.int) none (some 63)
    rw [em, List.length_map, List.length_map] at z
    omega
  rw [em]
  have s2 := s1.trans (same_new (o := .lst (ms.map V.int)) hp)
  refine ⟨p, rfl, ⟨_, SqL.of upd_same⟩, fun D hD => ?_⟩
  have hpD : p ≠ D := fun z => by rw [z, upd_same] at hD; cases hD
  have hfp : fd ≠ p := fun z => by rw [← z, upd_same] at hp; cases hp
  have hfD : fd ≠ D := fun z => by rw [← z, upd_ne hfp, upd_same] at hD; cases hD
  have hD0 : H D = none := s2.free hD
  have hf2 : (upd (upd H fd (.dK [])) p (.lst (ms.map V.int))) fd = some (.dK []) := by rw [upd_ne hfp]; exact upd_same
  refine lc_list (K := K) (a := p) (xs := ms.map V.int) (fun i H' => ∃ H1, H' = upd H1 D (.lst ((ms.take i).map V.int)) ∧ Same (upd (upd H fd (.dK [])) p (.lst (ms.map V.int))) H1) ⟨_, rfl, Same.refl _⟩ (fun i H' hi ⟨H1, e, sm⟩ => SqL.of (by rw [e, upd_ne hpD]; exact sm _ _ upd_same)) (fun i x H' hx ⟨H1, e, sm⟩ => ?_) (fun H' ⟨H1, e, sm⟩ => ?_)
  · subst e
    rw [List.getElem?_map] at hx
    cases hm : ms[i]? with
    | none => rw [hm] at hx; cases hx
    | some m =>
      rw [hm] at hx
      have ex : V.int m = x := Option.some.inj hx
      subst ex
      refine ⟨rfl, _, rfl, .inl ⟨m, rfl, _, upd_same, ?_, H1, ?_, sm⟩⟩
      · rw [List.length_map, List.length_take, sizeLine_eq]
        omega
      · rw [upd_upd, List.take_add_one, hm, List.map_append]
        rfl
  · subst e
    rw [List.length_map, List.take_length]
    have hfd2 : (upd H1 D (.lst (ms.map V.int))) fd = some (.dK []) := by rw [upd_ne hfD]; exact sm _ _ hf2
    refine ⟨hfd2, dk D 0 0 0, rfl, (show 4 ≤ 15 by decide), ?_⟩
    rw [show mergeK [] (dk D 0 0 0) = dk D 0 0 0 from rfl]
    refine q _ fd D (fun b o hb => ?_) ⟨ms, 0, 0, 0, upd_same, by rw [upd_ne (Ne.symm hfD)]; exact upd_same⟩ hfd
    rw [upd_ne (ne_of_none hb hfd)]
    exact same_upd (s2.trans sm) hD0 b o hb
/-! ### _law_any -/
theorem scAn : FnScope ["_law_feed_here", "_law_some"] ["_law_feed_here", "_law_some"] (defScope (top 44)) := ⟨rfl, rfl, rfl, by decide +kernel, rfl, by decide +kernel, by decide +kernel⟩
def spAn : Sp := fun vs H Q _ => ∃ (fd cl : Addr) (x : V), vs = [.ref fd, x] ∧ FeedAt H fd cl ∧
  ((∃ a xs, x = .ref a ∧ H a = some (.lst xs) ∧ 0 < xs.length ∧ xs.length < 1000000 ∧ ∀ H' v, v ∈ xs → FeedAt H' fd cl → But fd H H' → Q v H') ∨
   ∃ l : List Nat, x = .str (S l) ∧ 0 < l.length ∧ l.length < 1000000 ∧ ∀ H' c, c ∈ l → FeedAt H' fd cl → But fd H H' → Q (.str (S [c])) H')
theorem ok_An (T : Fx K mg) : CalX P w K mg base CX0 2 "_law_any" spAn [] := by
  refine cal0_of T 22 rfl scAn (fun vs H Q E h => by obtain ⟨a, cl, x, rfl, _⟩ := h; rfl) (fun _ _ _ _ _ _ us hl => match us, hl with | [_, _], _ => rfl) (fun cdv A outer s H vs Q E hr h => ⟨_,
    pss_one (ps_ret (pe_ix ix_seq (pv 1) (pe_c0 (ok_Dr T) hr (by decide) rfl (pa_cons (pv 0) (pa_cons (pe_callB call_len (by rfl) T.n_len PySem.boot_len (pa_cons (pv 1) pa_nil)) pa_nil))) (fun _ _ => rfl))), ?_⟩)
  obtain ⟨fd, cl, x, rfl, hf, hx⟩ := h
  have hfd0 : ∃ kvs, H fd = some (.dK kvs) := by
    obtain ⟨ns, nx, lf, dr, h1, _⟩ := hf
    exact ⟨_, h1⟩
  obtain ⟨kvs, hkv⟩ := hfd0
  rcases hx with ⟨a, xs, rfl, ha, h0, h1, q⟩ | ⟨l, rfl, h0, h1, q⟩
  · refine ⟨_, rfl, _, rfl, _, rfl, _, xs.length, rfl, .inl ⟨xs, SqL.of ha, rfl⟩, fd, cl, _, rfl, by omega, by omega, hf, fun H' r hr0 hr1 hf' b => ?_⟩
    have haf : a ≠ fd := fun z => by rw [z, hkv] at ha; cases ha
    obtain ⟨j, hj⟩ : ∃ j : Nat, r = (j : Int) := ⟨_, (Int.toNat_of_nonneg hr0).symm⟩
    have hj2 : j < xs.length := by omega
    exact .inl ⟨a, xs, r, xs[j], rfl, rfl, SqL.of (b a _ haf ha), by rw [hj]; exact atI_nat (List.getElem?_eq_getElem hj2), q H' _ (List.getElem_mem hj2) hf' b⟩
  · refine ⟨_, rfl, _, rfl, _, rfl, _, l.length, rfl, ⟨by rw [S_len, sizeLine_eq]; omega, by rw [S_len]⟩, fd, cl, _, rfl, by omega, by omega, hf, fun H' r hr0 hr1 hf' b => ?_⟩
    obtain ⟨j, hj⟩ : ∃ j : Nat, r = (j : Int) := ⟨_, (Int.toNat_of_nonneg hr0).symm⟩
    have hj2 : j < l.length := by omega
    exact .inr (.inr ⟨S l, r, l[j], rfl, rfl, by rw [S_len, sizeLine_eq]; omega, by rw [hj]; exact atI_nat (xs := l) (List.getElem?_eq_getElem hj2), q H' _ (List.getElem_mem hj2) hf' b⟩)
/-! ### _law_primes -/
theorem scPs : FnScope ["_law_feed_here", "_law_some"] ["_law_feed_here"] (defScope (top 49)) := ⟨rfl, rfl, rfl, by decide +kernel, rfl, by decide +kernel, by decide +kernel⟩
def primeLs : List (List Int) := [[2, 3, 5, 7, 11, 13], [3, 7, 13, 19, 31, 43], [2, 5, 11, 31, 101, 9973], [2, 3, 7, 29, 71, 97], [5003, 5009, 9949, 9967, 9973, 13], [2, 3, 5, 7, 11, 13, 17, 19, 23, 29, 31]]
theorem primeLs_ok : ∀ ps ∈ primeLs, ps.Nodup ∧ (∀ p ∈ ps, isPr p = true) ∧ ps.length ≤ 11 := by
  decide +kernel
def spPs : Sp := fun vs H Q _ => ∃ fd cl, vs = [.ref fd] ∧ FeedAt H fd cl ∧ ∀ H' a ps, ps ∈ primeLs → FeedAt H' fd cl → But fd H H' → H' a = some (.lst (ps.map V.int)) → Q (.ref a) H'
theorem pa6 {X : Cx} {k0 k1 k2 k3 k4 k5 : Nat} {p0 p1 p2 p3 p4 p5 : Pos} {i0 i1 i2 i3 i4 i5 : Int} : PA X [.Constant (.int i0) k0 p0, .Constant (.int i1) k1 p1, .Constant (.int i2) k2 p2, .Constant (.int i3) k3 p3, .Constant (.int i4) k4 p4, .Constant (.int i5) k5 p5]
    (tCons (tC (.int i0)) (tCons (tC (.int i1)) (tCons (tC (.int i2)) (tCons (tC (.int i3)) (tCons (tC (.int i4)) (tCons (tC (.int i5)) tNil)))))) := pa_cons pe_int (pa_cons pe_int (pa_cons pe_int (pa_cons pe_int (pa_cons pe_int (pa_cons pe_int pa_nil)))))
theorem ok_Ps (T : Fx K mg) : CalX P w K mg base CX0 3 "_law_primes" spPs [] := by
  refine cal0_of T 27 rfl scPs (fun vs H Q E h => by obtain ⟨a, cl, rfl, _⟩ := h; rfl) (fun _ _ _ _ _ _ us hl => match us, hl with | [_], _ => rfl) (fun cdv A outer s H vs Q E hr h => ⟨_,
    pss_cons (ps_set (i := 1) scPs.nd rfl (.inl rfl) (pe_lst (pa_cons (pe_lst pa6) (pa_cons (pe_lst pa6) (pa_cons (pe_lst pa6) (pa_cons (pe_lst pa6) pa_nil))))))
    (pss_one (ps_ret (pe_c0 (ok_An T) hr (by decide) rfl (pa_cons (pv 0) (pa_cons (pe_op op_cat (pv 1) (pe_lst (pa_cons (pe_lst pa6) (pa_cons (pe_lst
      (pa_cons pe_int (pa_cons pe_int (pa_cons pe_int (pa_cons pe_int (pa_cons pe_int (pa_cons pe_int (pa_cons pe_int (pa_cons pe_int (pa_cons pe_int (pa_cons pe_int (pa_cons pe_int pa_nil)))))))))))) pa_nil)))) pa_nil))))), ?_⟩)
  obtain ⟨fd, cl, rfl, hf, q⟩ := h
  have z6 : 6 ≤ sizeLine := by rw [sizeLine_eq]; decide
  refine ⟨z6, fun a1 n1 => ⟨z6, fun a2 n2 => ⟨z6, fun a3 n3 => ⟨z6, fun a4 n4 => ⟨by show 4 ≤ sizeLine; rw [sizeLine_eq]; decide, fun b1 m1 => ?_⟩⟩⟩⟩⟩
  refine ⟨_, rfl, _, rfl, z6, fun a5 n5 => ⟨by show 11 ≤ sizeLine; rw [sizeLine_eq]; decide, fun a6 n6 => ⟨by show 2 ≤ sizeLine; rw [sizeLine_eq]; decide, fun b2 m2 => ?_⟩⟩⟩
  have t1 := same_new (o := .lst [.int 2, .int 3, .int 5, .int 7, .int 11, .int 13]) n1
  have t2 := same_new (o := .lst [.int 3, .int 7, .int 13, .int 19, .int 31, .int 43]) n2
  have t3 := same_new (o := .lst [.int 2, .int 5, .int 11, .int 31, .int 101, .int 9973]) n3
  have t4 := same_new (o := .lst [.int 2, .int 3, .int 7, .int 29, .int 71, .int 97]) n4
  have t5 := same_new (o := .lst [.ref a1, .ref a2, .ref a3, .ref a4]) m1
  have t6 := same_new (o := .lst [.int 5003, .int 5009, .int 9949, .int 9967, .int 9973, .int 13]) n5
  have t7 := same_new (o := .lst [.int 2, .int 3, .int 5, .int 7, .int 11, .int 13, .int 17, .int 19, .int 23, .int 29, .int 31]) n6
  have t8 := same_new (o := .lst [.ref a5, .ref a6]) m2
  refine ⟨_, _, _, _, rfl, rfl, t8 _ _ (t7 _ _ (t6 _ _ upd_same)), upd_same, by show 4 + 2 ≤ sizeLine; rw [sizeLine_eq]; decide, fun b3 m3 => ?_⟩
  have t9 := same_new (o := .lst ([.ref a1, .ref a2, .ref a3, .ref a4] ++ [.ref a5, .ref a6])) m3
  have all := t1.trans (t2.trans (t3.trans (t4.trans (t5.trans (t6.trans (t7.trans (t8.trans t9)))))))
  refine ⟨fd, cl, _, rfl, hf.same all, .inl ⟨b3, _, rfl, upd_same, (show 0 < 6 by decide), (show 6 < 1000000 by decide), fun H' v hv hf' b => ?_⟩⟩
  obtain ⟨ns, nx, lf, dr, hk, _⟩ := hf.same all
  have keep : ∀ (x : Addr) (ys : List V), (upd (upd (upd (upd (upd (upd (upd (upd (upd H a1 _) a2 _) a3 _) a4 _) b1 _) a5 _) a6 _) b2 _) b3 _) x = some (.lst ys) → H' x = some (.lst ys) := fun x ys hx => b x _ (fun z => by
    rw [z, hk] at hx
    cases hx) hx
  have bb : But fd H H' := (But.of all).trans b
  rcases List.mem_cons.mp hv with e | hv
  · rw [e]
    exact q H' a1 [2, 3, 5, 7, 11, 13] (by decide) hf' bb (keep _ _ (t9 _ _ (t8 _ _ (t7 _ _ (t6 _ _ (t5 _ _ (t4 _ _ (t3 _ _ (t2 _ _ upd_same)))))))))
  rcases List.mem_cons.mp hv with e | hv
  · rw [e]
    exact q H' a2 [3, 7, 13, 19, 31, 43] (by decide) hf' bb (keep _ _ (t9 _ _ (t8 _ _ (t7 _ _ (t6 _ _ (t5 _ _ (t4 _ _ (t3 _ _ upd_same))))))))
  rcases List.mem_cons.mp hv with e | hv
  · rw [e]
    exact q H' a3 [2, 5, 11, 31, 101, 9973] (by decide) hf' bb (keep _ _ (t9 _ _ (t8 _ _ (t7 _ _ (t6 _ _ (t5 _ _ (t4 _ _ upd_same)))))))
  rcases List.mem_cons.mp hv with e | hv
  · rw [e]
    exact q H' a4 [2, 3, 7, 29, 71, 97] (by decide) hf' bb (keep _ _ (t9 _ _ (t8 _ _ (t7 _ _ (t6 _ _ (t5 _ _ upd_same))))))
  rcases List.mem_cons.mp hv with e | hv
  · rw [e]
    exact q H' a5 [5003, 5009, 9949, 9967, 9973, 13] (by decide) hf' bb (keep _ _ (t9 _ _ (t8 _ _ (t7 _ _ upd_same))))
  rcases List.mem_cons.mp hv with e | hv
  · rw [e]
    exact q H' a6 [2, 3, 5, 7, 11, 13, 17, 19, 23, 29, 31] (by decide) hf' bb (keep _ _ (t9 _ _ (t8 _ _ upd_same)))
  cases hv
end
end K12
namespace K12
open PySem PySem.Spec PyProof.Rows L2 TL SX
/-- of each address in the list: its pair -/
theorem perm_refs {H : Hp} : ∀ (ts : List Addr) (g : Addr → Int × Int), (∀ t ∈ ts, H t = some (.tup [.int (g t).1, .int (g t).2])) → ∀ (i : Nat) (b : Addr) (p : Int × Int), ts[i]? = some b → (ts.map g)[i]? = some p → H b = some (.tup [.int p.1, .int p.2]) := fun ts g h i b p hb hp => by
  rw [List.getElem?_map, hb] at hp
  have e : g b = p := Option.some.inj hp
  rw [← e]
  exact h b (List.mem_of_getElem? hb)
section
variable {P : Program} {w : World} {K : PySem.W.Frag} {mg : Str → Option Value} {base : Heap}
/-! ### _law_heap -/
theorem scHp : FnScope ["_law_feed_here", "_law_most", "_law_heap_here", "_law_share", "_law_p"] ["_law_feed_here"] (defScope (top 50)) := ⟨rfl, rfl, rfl, by decide +kernel, rfl, by decide +kernel, by decide +kernel⟩
def spHp : Sp := fun vs H Q _ => ∃ fd cl, vs = [.ref fd] ∧ FeedAt H fd cl ∧ ∀ H' a c, FeedAt H' fd cl → But fd H H' → CntAt H' a c → Valid c → c.length ≤ 11 → Q (.ref a) H'
/-- what stands behind each address of a heap of pairs -/
def prA (o : Option HO) : Int × Int := match o with
  | some (.tup [.int a, .int b]) => (a, b)
  | _ => (0, 0)
def prOf (H : Hp) (v : V) : Int × Int := match v with
  | .ref t => prA (H t)
  | _ => (0, 0)
theorem prOf_eq {H : Hp} {t : Addr} {a b : Int} (h : H t = some (.tup [.int a, .int b])) : prOf H (.ref t) = (a, b) := by
  show prA (H t) = (a, b)
  rw [h]
  rfl
theorem fnd_but {H H' : Hp} {F fd : Addr} {f : Cnt} {kvs : List (Key × V)} (h : FndAt H F f) (hk : H fd = some (.dK kvs)) (b : But fd H H') : FndAt H' F f := by
  obtain ⟨bs, f1, f2, f3⟩ := h
  refine ⟨bs, b _ _ (fun z => by rw [z, hk] at f1; cases f1) f1, f2, fun i x p hx hp => ?_⟩
  have z := f3 i x p hx hp
  exact b _ _ (fun y => by rw [y, hk] at z; cases z) z
theorem FeedAt.dk {H : Hp} {fd cl : Addr} (h : FeedAt H fd cl) : ∃ kvs, H fd = some (.dK kvs) := by
  obtain ⟨ns, nx, lf, dr, h1, _⟩ := h
  exact ⟨_, h1⟩
/-- a heap of pairs of distinct primes, sorted: a count -/
theorem sorted_valid {H : Hp} {F : Addr} {f : Cnt} (hf : FndAt H F f) (ho : ∀ p ∈ f, okP p) (hd : (f.map (·.1)).Nodup) {xs ys : List V} (hx : H F = some (.lst xs)) (hs : SrtO.Srtd (ltP (prOf H)) ys) (hb : SrtO.Stb (ltP (prOf H)) ys xs) :
    ∃ (ts : List Addr) (c : Cnt), ys = ts.map V.ref ∧ ts.length = c.length ∧ (∀ (i : Nat) (b : Addr) (p : Int × Int), ts[i]? = some b → c[i]? = some p → H b = some (.tup [.int p.1, .int p.2])) ∧ Valid c ∧ c.length = f.length := by
  obtain ⟨bs, f1, f2, f3⟩ := hf
  rw [f1] at hx
  have ex : bs.map V.ref = xs := HO.lst.inj (Option.some.inj hx)
  subst ex
  have hp := hb.perm
  have hback : ∀ v ∈ ys, ∃ t, v = V.ref t ∧ t ∈ bs := fun v hv => by
    obtain ⟨t, ht, e⟩ := List.mem_map.mp (hp.mem_iff.mp hv)
    exact ⟨t, e.symm, ht⟩
  have hmap : ∀ l : List V, (∀ v ∈ l, ∃ t, v = V.ref t ∧ t ∈ bs) → ∃ ts : List Addr, l = ts.map V.ref ∧ ∀ t ∈ ts, t ∈ bs := by
    intro l
    induction l with
    | nil => exact fun _ => ⟨[], rfl, fun t ht => by cases ht⟩
    | cons v l ih =>
      intro h
      obtain ⟨t, e, ht⟩ := h v (List.mem_cons_self ..)
      obtain ⟨ts, e2, h2⟩ := ih fun x hx => h x (List.mem_cons_of_mem _ hx)
      refine ⟨t :: ts, by rw [e, e2]; rfl, fun x hx => ?_⟩
      rcases List.mem_cons.mp hx with z | z
      · rw [z]; exact ht
      · exact h2 x z
  obtain ⟨ts, ey, hts⟩ := hmap ys hback
  have hobj : ∀ t ∈ bs, ∃ p ∈ f, H t = some (.tup [.int p.1, .int p.2]) := fun t ht => by
    obtain ⟨i, hi, e⟩ := List.mem_iff_getElem.mp ht
    have hi2 : i < f.length := by rw [← f2]; exact hi
    exact ⟨f[i], List.getElem_mem hi2, f3 i t f[i] (by rw [← e]; exact List.getElem?_eq_getElem hi) (List.getElem?_eq_getElem hi2)⟩
  have hpr : ∀ t ∈ bs, H t = some (.tup [.int (prOf H (.ref t)).1, .int (prOf H (.ref t)).2]) ∧ prOf H (.ref t) ∈ f := fun t ht => by
    obtain ⟨p, hpm, e⟩ := hobj t ht
    rw [prOf_eq e]
    exact ⟨e, hpm⟩
  have efs : bs.map (fun t => prOf H (.ref t)) = f := by
    refine List.ext_getElem (by rw [List.length_map]; exact f2) fun i h1 h2 => ?_
    rw [List.getElem_map]
    rw [List.length_map] at h1
    exact prOf_eq (f3 i bs[i] f[i] (List.getElem?_eq_getElem h1) (List.getElem?_eq_getElem h2))
  have hperm : (ts.map fun t => prOf H (.ref t)).Perm f := by
    have z := hp.map (prOf H)
    rw [ey, List.map_map, List.map_map] at z
    have e1 : (prOf H ∘ V.ref) = fun t => prOf H (.ref t) := rfl
    rw [e1, efs] at z
    exact z
  refine ⟨ts, ts.map fun t => prOf H (.ref t), ey, (List.length_map ..).symm, perm_refs ts (fun t => prOf H (.ref t)) fun t ht => (hpr t (hts t ht)).1, ⟨fun p hp' => ho p (hperm.mem_iff.mp hp'), ?_⟩, hperm.length_eq⟩
  have hnd : ((ts.map fun t => prOf H (.ref t)).map (·.1)).Nodup := (hperm.map (·.1)).nodup_iff.mpr hd
  rw [ey] at hs
  have hs2 : (ts.map V.ref).Pairwise fun x y => SrtO.lexB (prOf H y) (prOf H x) = false := hs
  rw [List.pairwise_map] at hs2
  rw [List.pairwise_map]
  rw [List.map_map] at hnd
  have hnd2 : ts.Pairwise fun a b => ((fun x : Int × Int => x.1) ∘ fun t => prOf H (.ref t)) a ≠ ((fun x : Int × Int => x.1) ∘ fun t => prOf H (.ref t)) b := by
    have z : (ts.map ((fun x : Int × Int => x.1) ∘ fun t => prOf H (.ref t))).Pairwise (· ≠ ·) := hnd
    rw [List.pairwise_map] at z
    exact z
  refine (hs2.and hnd2).imp fun {a b} h => ?_
  obtain ⟨h1, h2⟩ := h
  have h3 := SrtO.lexB_no.mp h1
  have h4 : (prOf H (.ref a)).1 ≠ (prOf H (.ref b)).1 := h2
  omega
theorem ok_Hp (T : Fx K mg) : CalX P w K mg base CX0 4 "_law_heap" spHp [] := by
  refine cal0_of T 28 rfl scHp (fun vs H Q E h => by obtain ⟨a, cl, rfl, _⟩ := h; rfl) (fun _ _ _ _ _ _ us hl => match us, hl with | [_], _ => rfl) (fun cdv A outer s H vs Q E hr h => ⟨_,
    pss_cons (ps_par (i := 1) (j := 2) (by rfl) scHp.nd rfl rfl (by decide) rfl rfl (pa_cons (pe_c0 (ok_An T) hr (by decide) rfl (pa_cons (pv 0) (pa_cons (pe_lst (pa_cons pe_int (pa_cons pe_int (pa_cons pe_int (pa_cons pe_int (pa_cons pe_int pa_nil)))))) pa_nil))) (pa_cons (pe_lst pa_nil) pa_nil)) (by rfl))
    (pss_cons (ps_set (i := 3) scHp.nd rfl (.inl rfl) (pe_op op_add pe_int (pe_c0 (ok_Dr T) hr (by decide) rfl (pa_cons (pv 0) (pa_cons pe_int pa_nil)))))
    (pss_cons (ps_for PassesOwn.never rfl (pi_list (pe_c0 (ok_Ps T) hr (by decide) rfl (pa_cons (pv 0) pa_nil))) (pg_name (i := 4) scHp.nd rfl (.inl rfl))
      (pss_one (ps_if (pt_cmpR op_gt (pe_c0 (ok_Dr T) hr (by decide) rfl (pa_cons (pv 0) (pa_cons (pe_op op_add (pv 3) pe_int) pa_nil))) pe_int (nomark _))
        (pss_one (ps_expr (pe_bm PySem.F.plainAttrs_list PySem.F.slot_list_append PySem.F.type_list_append mt_append (pv 2) (pa_cons (pe_tup (pa_cons (pv 4) (pa_cons (pe_op op_add pe_int (pe_c0 (ok_Dr T) hr (by decide) rfl (pa_cons (pv 0) (pa_cons (pv 1) pa_nil)))) pa_nil))) pa_nil)))) pss_nil)))
    (pss_one (ps_ret (pe_callTy call_tuple_of (by rfl) T.n_tuple (by decide +kernel) (pa_cons (pe_callB cr_sortedPO (by rfl) T.n_sorted (by decide +kernel) (pa_cons (pv 2) pa_nil)) pa_nil)))))), ?_⟩)
  obtain ⟨fd, cl, rfl, hf, q⟩ := h
  refine ⟨_, rfl, by show 5 ≤ sizeLine; rw [sizeLine_eq]; decide, fun l hl => ?_⟩
  refine ⟨fd, cl, _, rfl, hf.same (same_new hl), .inl ⟨l, _, rfl, upd_same, (show 0 < 5 by decide), (show 5 < 1000000 by decide), fun H1 v hv hf1 b1 => ?_⟩⟩
  obtain ⟨mo, rfl, hm1, hm2⟩ : ∃ m : Int, v = .int m ∧ 1 ≤ m ∧ m ≤ 6 := by
    rcases List.mem_cons.mp hv with e | hv
    · exact ⟨1, e, by decide, by decide⟩
    rcases List.mem_cons.mp hv with e | hv
    · exact ⟨2, e, by decide, by decide⟩
    rcases List.mem_cons.mp hv with e | hv
    · exact ⟨3, e, by decide, by decide⟩
    rcases List.mem_cons.mp hv with e | hv
    · exact ⟨6, e, by decide, by decide⟩
    rcases List.mem_cons.mp hv with e | hv
    · exact ⟨6, e, by decide, by decide⟩
    cases hv
  refine ⟨by show 0 ≤ sizeLine; exact Nat.zero_le _, fun F hF => ⟨_, _, rfl, ?_⟩⟩
  have bA : But fd H (upd H1 F (.lst [])) := ((But.of (same_new hl)).trans b1).trans (But.of (same_new hF))
  have hfF := hf1.same (same_new (o := .lst []) hF)
  obtain ⟨kv1, hk1⟩ := hfF.dk
  have hFfd : F ≠ fd := fun z => by rw [← z, upd_same] at hk1; cases hk1
  have fF : FndAt (upd H1 F (.lst [])) F [] := ⟨[], upd_same, rfl, fun i b p hb _ => by simp at hb⟩
  refine ⟨_, rfl, fd, cl, 4, rfl, by decide, by decide, hfF, fun H2 r hr0 hr1 hf2 b2 => ?_⟩
  have fF2 := fnd_but fF hk1 b2
  refine ⟨_, _, rfl, rfl, ?_⟩
  refine ⟨_, rfl, fd, cl, rfl, hf2, fun H3 a ps hps hf3 b3 ha => ?_⟩
  obtain ⟨kv2, hk2⟩ := hf2.dk
  have fF3 := fnd_but fF2 hk2 b3
  obtain ⟨pn1, pn2, pn3⟩ := primeLs_ok ps hps
  have bB : But fd H H3 := (bA.trans b2).trans b3
  refine ⟨a, rfl, ⟨_, SqL.of ha⟩, ?_⟩
  have hclF : cl ≠ F := fun z => by
    obtain ⟨ns, nx, lf, dr, g1, g2⟩ := hf1
    rw [z, hF] at g2
    cases g2
  have hFH : H F = none := by
    cases e : H F with
    | none => rfl
    | some o =>
      have z := ((But.of (same_new (o := .lst [.int 1, .int 2, .int 3, .int 6, .int 6]) hl)).trans b1) F o hFfd e
      rw [hF] at z
      cases z
  refine for_list (K := K) (a := a) (xs := ps.map V.int) (fun i σ H' => (∃ s4, σ = [some (.ref fd), some (.int mo), some (.ref F), some (.int (1 + r)), s4]) ∧ FeedAt H' fd cl ∧ But fd H H' ∧ H' a = some (.lst (ps.map V.int)) ∧ ∃ f, FndAt H' F f ∧ (∀ p ∈ f, okP p) ∧ (f.map (·.1)).Sublist (ps.take i))
    ⟨⟨_, rfl⟩, hf3, bB, ha, [], fF3, fun p hp => (List.not_mem_nil hp).elim, List.nil_sublist _⟩ (fun i σ H' hi ⟨_, _, _, h, _⟩ => SqL.of h) (fun i x σ H4 hx ⟨⟨s4, es⟩, hf4, b4, ha4, f, ff, fo, fs⟩ => ?_) (fun σ H4 ⟨⟨s4, es⟩, hf4, b4, ha4, f, ff, fo, fs⟩ => ?_)
  · subst es
    rw [List.getElem?_map] at hx
    cases hp : ps[i]? with
    | none => rw [hp] at hx; cases hx
    | some p =>
      rw [hp] at hx
      have ex : V.int p = x := Option.some.inj hx
      subst ex
      have hpm := List.mem_of_getElem? hp
      obtain ⟨kv4, hk4⟩ := hf4.dk
      have haF : a ≠ fd := fun z => by rw [z, hk4] at ha4; cases ha4
      have hxs : (ps.take (i + 1)) = ps.take i ++ [p] := by rw [List.take_add_one, hp]; rfl
      refine ⟨_, rfl, _, rfl, _, _, rfl, rfl, fd, cl, _, rfl, by omega, by omega, hf4, fun H5 r2 hr20 hr21 hf5 b5 => ⟨_, _, rfl, rfl, _, rfl, ?_⟩⟩
      have ff5 := fnd_but ff hk4 b5
      have ha5 := b5 _ _ haF ha4
      refine ite2 (fun _ => ?_) (fun _ => ?_)
      · obtain ⟨bs, f1, f2, f3⟩ := id ff5
        obtain ⟨kv5, hk5⟩ := hf5.dk
        refine ⟨_, rfl, .inl ⟨rfl, _, SqL.of f1⟩, _, rfl, _, rfl, _, rfl, fd, cl, mo, rfl, by omega, by omega, hf5, fun H6 r3 hr30 hr31 hf6 b6 => ⟨_, _, rfl, rfl, by show 2 ≤ sizeLine; decide, fun t ht => ?_⟩⟩
        have ff6 := fnd_but ff5 hk5 b6
        have hFb : H6 F = some (.lst (bs.map V.ref)) := b6 _ _ hFfd f1
        have htF : t ≠ F := fun z => by rw [z, hFb] at ht; cases ht
        have haF2 : a ≠ F := fun z => by
          rw [z] at haF ha5
          rw [f1] at ha5
          have e := HO.lst.inj (Option.some.inj ha5)
          cases bs with
          | nil =>
            cases ps with
            | nil => cases hpm
            | cons y ys => cases e
          | cons y ys =>
            cases ps with
            | nil => cases e
            | cons z zs => cases e
        have hfl : f.length ≤ 11 := by
          have z := fs.length_le
          rw [List.length_map, List.length_take] at z
          omega
        refine ⟨F, _, _, rfl, rfl, (same_new ht) _ _ hFb, ?_, ⟨_, rfl⟩, ?_, ?_, ?_, f ++ [(p, 1 + r3)], fnd_snoc (p := (p, 1 + r3)) ff6 ht bs hFb, fun pp hpp => ?_, ?_⟩
        · rw [List.length_map, f2, sizeLine_eq]
          omega
        · obtain ⟨ns, nx, lf, dr, g1, g2⟩ := hf6
          refine ⟨ns, nx, lf, dr, ?_, ?_⟩
          · rw [upd_ne (Ne.symm hFfd)]
            exact (same_new ht) _ _ g1
          · rw [upd_ne hclF]
            exact (same_new ht) _ _ g2
        · intro b o hbf hb
          rw [upd_ne (ne_of_none hb hFH)]
          exact (same_new ht) _ _ (b6 _ _ hbf (b5 _ _ hbf (b4 _ _ hbf hb)))
        · rw [upd_ne haF2]
          exact (same_new ht) _ _ (b6 _ _ haF ha5)
        · rcases List.mem_append.mp hpp with z | z
          · exact fo pp z
          · rw [List.mem_singleton.mp z]
            exact ⟨pn2 p hpm, isPw_iff.mpr ⟨by show 1 ≤ 1 + r3; omega, by show 1 + r3 ≤ 6; omega⟩⟩
        · rw [List.map_append, hxs]
          exact fs.append (List.Sublist.refl [p])
      · exact ⟨⟨_, rfl⟩, hf5, b4.trans b5, ha5, f, ff5, fo, by rw [hxs]; exact fs.trans (List.sublist_append_left _ _)⟩
  · subst es
    obtain ⟨bs, f1, f2, f3⟩ := id ff
    have hnd : (f.map (·.1)).Nodup := (fs.trans (List.take_sublist _ _)).nodup pn1
    have hfl : f.length ≤ 11 := by
      have z := fs.length_le
      rw [List.length_map, List.length_take] at z
      omega
    refine ⟨_, rfl, F, _, prOf H4, rfl, SqL.of f1, fun x hx => ?_, fun ys p srt stb hp => ?_⟩
    · obtain ⟨t, ht, e⟩ := List.mem_map.mp hx
      obtain ⟨i, hi, e2⟩ := List.mem_iff_getElem.mp ht
      have hi2 : i < f.length := by rw [← f2]; exact hi
      have z := f3 i t f[i] (by rw [← e2]; exact List.getElem?_eq_getElem hi) (List.getElem?_eq_getElem hi2)
      refine ⟨t, e.symm, ?_⟩
      rw [← e, prOf_eq z]
      exact z
    obtain ⟨ts, c, ey, hl2, hob, hv2, hcl⟩ := sorted_valid ff fo hnd f1 srt stb
    refine ⟨p, ys, rfl, .inl ⟨SqL.of upd_same, fun t ht => ?_⟩⟩
    have s2 : Same H4 (upd (upd H4 p (.lst ys)) t (.tup ys)) := (same_new hp).trans (same_new ht)
    exact q _ t c (hf4.same s2) (b4.trans (But.of s2)) ⟨ts, by rw [upd_same, ey], hl2, fun i b pp hb hpp => s2 _ _ (hob i b pp hb hpp)⟩ hv2 (by omega)
end
end K12
namespace K12
open PySem PySem.Spec PyProof.Rows L2 TL SX
/-! ### text * int, with its signs -/
def rRepA : R2 := fun x y H Q => ∃ (z : Str) (n : Nat), x = .str z ∧ y = .int (n : Int) ∧ 2 ≤ n ∧ 1 ≤ z.length ∧ z.length * n ≤ 100000 ∧ ∀ z' : Str, z'.length = z.length * n → (∀ c ∈ z'.cps.toList, c ∈ z.cps.toList) → Q (.str z') H
theorem rep_mem (z : Array Nat) : ∀ (n : Nat) (acc : Array Nat) (c : Nat), c ∈ ((List.replicate n z).foldl (· ++ ·) acc).toList → c ∈ acc.toList ∨ c ∈ z.toList
  | 0, acc, c, h => .inl h
  | n + 1, acc, c, h => by
    rw [List.replicate_succ, List.foldl_cons] at h
    rcases rep_mem z n (acc ++ z) c h with h | h
    · rw [Array.toList_append] at h
      exact List.mem_append.mp h
    · exact .inr h
theorem op_repA {X : Cx} : OpR X (binaryOp .Mult) rRepA := by
  intro pins s σ H x y v u Q I rx ry h
  obtain ⟨z, n, rfl, rfl, hn, hz, hb, q⟩ := h
  obtain ⟨t, rfl⟩ := rx
  obtain ⟨t', rfl⟩ := ry
  have e1 : ¬ ((n : Int) < 1) := by omega
  have e2 : ((n : Int) == 1 || z.length == 0) = false := by
    have a : ((n : Int) == 1) = false := by rw [beq_eq_false_iff_ne]; omega
    have b : (z.length == 0) = false := by rw [beq_eq_false_iff_ne]; omega
    rw [a, b]
    rfl
  have hn2 : n ≤ 100000 := Nat.le_trans (Nat.le_trans (Nat.le_mul_of_pos_left n hz) (Nat.le_refl _)) hb
  have hz2 : z.length ≤ 100000 := Nat.le_trans (Nat.le_mul_of_pos_right _ (by omega)) hb
  refine PySem.P.mul_str (by
      have a : ¬ ((n : Int) < -(2 ^ 63)) := by omega
      have b : ¬ ((n : Int) ≥ 2 ^ 63) := by omega
      rw [decide_eq_false a, decide_eq_false b]
      rfl) (fun _ _ => ?_) (fun _ _ => ?_) ?_
  · have h1 : (100001 : Int) ≤ (2 ^ 63 - 1) / (n : Int) := by
      rw [Int.le_ediv_iff_mul_le (by omega)]
      omega
    omega
  · rw [Int.toNat_natCast]
    unfold Builtin.Str.tooLong
    rw [decide_eq_false_iff_not, sizeLine_eq]
    omega
  · rw [if_neg e1, e2]
    simp only [Bool.false_eq_true, if_false, Int.toNat_natCast]
    refine ⟨by
      show (Str.length _) ≤ sizeLine
      unfold Str.length
      rw [rep_len, sizeLine_eq]
      have := hb
      unfold Str.length at this
      simp only [List.size_toArray, List.length_nil]
      omega, .str _, H, I.tok _, ⟨_, rfl⟩, q _ ?_ (fun c hc => ?_)⟩
    · unfold Str.length
      rw [rep_len]
      simp
    · rcases rep_mem z.cps n #[] c hc with h | h
      · simp at h
      · exact h
/-! ### words in lists -/
def tot (ws : List (List Nat)) : Nat := (ws.map List.length).sum + ws.length
theorem tot_nil : tot [] = 0 := rfl
theorem tot_cons (w : List Nat) (ws : List (List Nat)) : tot (w :: ws) = w.length + 1 + tot ws := by
  unfold tot
  rw [List.map_cons, List.sum_cons, List.length_cons]
  omega
theorem tot_app : ∀ (a b : List (List Nat)), tot (a ++ b) = tot a + tot b
  | [], b => by rw [List.nil_append, tot_nil, Nat.zero_add]
  | w :: a, b => by
    rw [List.cons_append, tot_cons, tot_cons, tot_app a b]
    omega
theorem tot_sub {a b : List (List Nat)} (h : a.Sublist b) : tot a ≤ tot b := by
  induction h with
  | slnil => exact Nat.le_refl _
  | cons x _ ih => rw [tot_cons]; omega
  | cons_cons x _ ih => rw [tot_cons, tot_cons]; omega
theorem tot_rev (a : List (List Nat)) : tot a.reverse = tot a := by
  induction a with
  | nil => rfl
  | cons w a ih => rw [List.reverse_cons, tot_app, ih, tot_cons, tot_cons, tot_nil]; omega
theorem tot_spl (s : Nat) : ∀ (l acc : List Nat), tot (spl [s] 0 acc l) = acc.length + l.length + 1
  | [], acc => by
    rw [spl_nil, tot_cons, tot_nil]
    simp
  | c :: r, acc => by
    have e0 := pre1 s c r
    cases e : pre [s] (c :: r) with
    | true =>
      rw [spl_hit e, show ([s] : List Nat).length - 1 = 0 from rfl, tot_cons, tot_spl s r [], List.length_cons]
      simp
      omega
    | false =>
      rw [spl_miss e, tot_spl s r, List.length_append, List.length_cons]
      simp
      omega
theorem len_join (s : Nat) : ∀ ws : List (List Nat), (joinL [s] ws).length ≤ tot ws
  | [] => by
    show 0 ≤ _
    exact Nat.zero_le _
  | [w] => by
    rw [tot_cons, tot_nil]
    show w.length ≤ _
    omega
  | w :: v :: r => by
    rw [joinL_cons (by simp), tot_cons, List.length_append, List.length_cons]
    have := len_join s (v :: r)
    omega
theorem mem_join (s : Nat) : ∀ (ws : List (List Nat)) (c : Nat), c ∈ joinL [s] ws → c = s ∨ ∃ w ∈ ws, c ∈ w
  | [], c, h => by cases h
  | [w], c, h => .inr ⟨w, List.mem_singleton.mpr rfl, h⟩
  | w :: v :: r, c, h => by
    rw [joinL_cons (by simp)] at h
    rcases List.mem_append.mp h with h | h
    · exact .inr ⟨w, List.mem_cons_self .., h⟩
    · rcases List.mem_cons.mp h with h | h
      · exact .inl h
      · rcases mem_join s (v :: r) c h with h | ⟨x, hx, hc⟩
        · exact .inl h
        · exact .inr ⟨x, List.mem_cons_of_mem _ hx, hc⟩
def ascW (ws : List (List Nat)) : Prop := ∀ w ∈ ws, asc w
theorem asc_join {ws : List (List Nat)} (h : ascW ws) : asc (joinL [32] ws) := fun c hc => by
  rcases mem_join 32 ws c hc with z | ⟨w, hw, hc⟩
  · rw [z]
    decide
  · exact h w hw c hc
/-- a list of words as values -/
def wv (ws : List (List Nat)) : List V := (ws.map S).map V.str
theorem wv_app (a b : List (List Nat)) : wv a ++ wv b = wv (a ++ b) := by
  unfold wv
  rw [List.map_append, List.map_append]
theorem wv_len (a : List (List Nat)) : (wv a).length = a.length := by
  unfold wv
  rw [List.length_map, List.length_map]
theorem wv_cut (ws : List (List Nat)) (lo hi : Option Int) : ∃ ms : List (List Nat), cutV (wv ws) lo hi = wv ms ∧ ms.Sublist ws := by
  refine ⟨(ws.drop (HT.sIx (wv ws).length 0 lo)).take (HT.sIx (wv ws).length (wv ws).length hi - HT.sIx (wv ws).length 0 lo), ?_, (List.take_sublist _ _).trans (List.drop_sublist _ _)⟩
  unfold cutV
  generalize HT.sIx (wv ws).length 0 lo = i
  generalize HT.sIx (wv ws).length (wv ws).length hi - i = j
  unfold wv
  rw [← List.map_drop, ← List.map_drop, ← List.map_take, ← List.map_take]
theorem wv_rev (ws : List (List Nat)) : (wv ws).reverse = wv ws.reverse := by
  unfold wv
  rw [List.map_reverse, List.map_reverse]
theorem cut_asc {l : List Nat} (h : asc l) (lo hi : Option Int) : ∃ m, cutS (S l) lo hi = S m ∧ asc m ∧ m.length ≤ l.length := by
  refine ⟨(l.drop (HT.sIx (S l).length 0 lo)).take (HT.sIx (S l).length (S l).length hi - HT.sIx (S l).length 0 lo), rfl, fun c hc => h c (List.mem_of_mem_drop (List.mem_of_mem_take hc)), ?_⟩
  rw [List.length_take, List.length_drop]
  omega
theorem asc_app {a b : List Nat} (ha : asc a) (hb : asc b) : asc (a ++ b) := fun c hc => by
  rcases List.mem_append.mp hc with h | h
  · exact ha c h
  · exact hb c h
section
variable {P : Program} {w : World} {K : PySem.W.Frag} {mg : Str → Option Value} {base : Heap}
/-! ### _law_spoilt -/
theorem scSp : FnScope ["_law_feed_here", "_law_line_here", "_law_words", "_law_way", "_law_k", "_law_spot", "_law_sign", "_law_late"] ["_law_feed_here", "_law_line_here"] (defScope (top 54)) := ⟨rfl, rfl, rfl, by decide +kernel, rfl, by decide +kernel, by decide +kernel⟩
def spSpo : Sp := fun vs H Q _ => ∃ (fd cl : Addr) (l : List Nat), vs = [.ref fd, .str (S l)] ∧ FeedAt H fd cl ∧ asc l ∧ l.length ≤ 10000 ∧ ∀ H' m, FeedAt H' fd cl → But fd H H' → asc m → m.length ≤ 3 * l.length + 200 → Q (.str (S m)) H'
def signs : List Nat := [48, 49, 50, 51, 52, 53, 54, 55, 56, 57, 94, 94, 32, 45, 124, 43, 120, 10]
theorem signs_eq : (Str.ofString "0123456789^^ -|+x\n") = S signs := rfl
theorem ok_Spo (T : Fx K mg) : CalX P w K mg base CX0 3 "_law_spoilt" spSpo [] := by
  refine cal0_of T 32 rfl scSp (fun vs H Q E h => by obtain ⟨a, cl, l, rfl, _⟩ := h; rfl) (fun _ _ _ _ _ _ us hl => match us, hl with | [_, _], _ => rfl) (fun cdv A outer s H vs Q E hr h => ⟨_,
    pss_cons (ps_par (i := 2) (j := 3) (by rfl) scSp.nd rfl rfl (by decide) rfl rfl (pa_cons (pe_split (pv 1) pe_str) (pa_cons (pe_c0 (ok_Dr T) hr (by decide) rfl (pa_cons (pv 0) (pa_cons pe_int pa_nil))) pa_nil)) (by rfl))
    (pss_cons (ps_par (i := 4) (j := 5) (by rfl) scSp.nd rfl rfl (by decide) rfl rfl (pa_cons (pe_c0 (ok_Dr T) hr (by decide) rfl (pa_cons (pv 0) (pa_cons (pe_callB call_len (by rfl) T.n_len PySem.boot_len (pa_cons (pv 2) pa_nil)) pa_nil)))
      (pa_cons (pe_c0 (ok_Dr T) hr (by decide) rfl (pa_cons (pv 0) (pa_cons (pe_op op_add (pe_callB call_len_str (by rfl) T.n_len PySem.boot_len (pa_cons (pv 1) pa_nil)) pe_int) pa_nil))) pa_nil)) (by rfl))
    (pss_cons (ps_set (i := 6) scSp.nd rfl (.inl rfl) (pe_c0 (ok_An T) hr (by decide) rfl (pa_cons (pv 0) (pa_cons pe_str pa_nil))))
    (pss_cons (ps_if (pt_cmpR op_eq (pv 3) pe_int (nomark _)) (pss_one (ps_ret (pe_op op_add_str (pe_op op_add_str (pe_slice sl_str (pv 1) po_none (po_some (pv 5))) (pv 6)) (pe_slice sl_str (pv 1) (po_some (pv 5)) po_none)))) pss_nil)
    (pss_cons (ps_if (pt_cmpR op_eq (pv 3) pe_int (nomark _)) (pss_one (ps_ret (pe_op op_add_str (pe_slice sl_str (pv 1) po_none (po_some (pv 5))) (pe_slice sl_str (pv 1) (po_some (pe_op op_add (pv 5) pe_int)) po_none)))) pss_nil)
    (pss_cons (ps_if (pt_cmpR op_eq (pv 3) pe_int (nomark _)) (pss_one (ps_ret (pe_op op_add_str (pe_op op_add_str (pe_slice sl_str (pv 1) po_none (po_some (pv 5))) (pv 6)) (pe_slice sl_str (pv 1) (po_some (pe_op op_add (pv 5) pe_int)) po_none)))) pss_nil)
    (pss_cons (ps_if (pt_cmpR op_eq (pv 3) pe_int (nomark _))
      (pss_cons (ps_set (i := 7) scSp.nd rfl (.inl rfl) (pe_lst (pa_cons pe_str (pa_cons pe_str (pa_cons pe_str (pa_cons pe_str (pa_cons pe_str (pa_cons pe_str (pa_cons pe_str (pa_cons pe_str (pa_cons pe_str (pa_cons pe_str (pa_cons pe_str (pa_cons (pe_op op_add_str (pe_op op_repA pe_str pe_int) pe_str) (pa_cons pe_str pa_nil)))))))))))))))
      (pss_one (ps_ret (pe_join pe_str (pe_op op_cat (pe_op op_cat (pe_slice sl_list (pv 2) po_none (po_some (pv 4))) (pe_lst (pa_cons (pe_c0 (ok_An T) hr (by decide) rfl (pa_cons (pv 0) (pa_cons (pv 7) pa_nil))) pa_nil)))
        (pe_slice sl_list (pv 2) (po_some (pe_op op_add (pv 4) (pe_c0 (ok_Dr T) hr (by decide) rfl (pa_cons (pv 0) (pa_cons pe_int pa_nil))))) po_none)))))) pss_nil)
    (pss_cons (ps_if (pt_cmpR op_eq (pv 3) pe_int (nomark _))
      (pss_one (ps_ret (pe_join pe_str (pe_op op_cat (pe_op op_cat (pe_slice sl_list (pv 2) po_none (po_some (pv 4))) (pe_revL (pe_slice sl_list (pv 2) (po_some (pv 4)) (po_some (pe_op op_add (pv 4) pe_int))))) (pe_slice sl_list (pv 2) (po_some (pe_op op_add (pv 4) pe_int)) po_none))))) pss_nil)
    (pss_one (ps_ret (pe_ifExp (pt_cmpR op_eq (pv 3) pe_int (nomark _)) (pe_join pe_str (pe_op op_cat (pe_op op_cat (pe_slice sl_list (pv 2) po_none (po_some (pv 4))) (pe_lst (pa_cons (pe_ix ix_list (pv 2) (pv 4) (fun _ _ => rfl)) pa_nil))) (pe_slice sl_list (pv 2) (po_some (pv 4)) po_none)))
      (pe_join pe_str (pe_op op_cat (pe_slice sl_list (pv 2) po_none (po_some (pv 4))) (pe_slice sl_list (pv 2) (po_some (pe_op op_add (pv 4) pe_int)) po_none))))))))))))), ?_⟩)
  obtain ⟨fd, cl, l, rfl, hf, hasc, hl, q⟩ := h
  have sz := sizeLine_eq
  have hne := spl_ne 32 l []
  have htot := tot_spl 32 l []
  rw [List.length_nil, Nat.zero_add] at htot
  have hwa : ascW (spl [32] 0 [] l) := fun x hx => asc_spl hasc hx
  refine ⟨_, rfl, ⟨_, rfl⟩, _, _, rfl, rfl, by decide, by rw [S_len]; omega, fun W hW => ?_⟩
  rw [ofSp, split_s (by decide)] at *
  generalize spl [32] 0 [] l = ws at *
  have hW0 : (upd H W (.lst ((ws.map S).map V.str))) W = some (.lst (wv ws)) := upd_same
  have s0 : Same H (upd H W (.lst ((ws.map S).map V.str))) := same_new hW
  have hfW := hf.same s0
  generalize upd H W (.lst ((ws.map S).map V.str)) = H0 at hW0 s0 hfW ⊢
  refine ⟨_, rfl, fd, cl, 7, rfl, by decide, by decide, hfW, fun H1 wy hw0 hw1 hf1 b1 => ⟨_, _, rfl, ?_⟩⟩
  obtain ⟨kv, hk⟩ := hfW.dk
  have hWfd : W ≠ fd := fun z => by rw [z, hk] at hW0; cases hW0
  have hW1 := b1 _ _ hWfd hW0
  have hwl : ws.length ≤ l.length + 1 := by
    have z := htot
    unfold tot at z
    omega
  have hw1' : 0 < ws.length := List.length_pos_iff.mpr hne
  refine ⟨_, rfl, _, rfl, _, ws.length, rfl, .inl ⟨_, SqL.of hW1, (wv_len ws).symm⟩, fd, cl, _, rfl, by omega, by omega, hf1, fun H2 k hk0 hk1 hf2 b2 => ?_⟩
  have hW2 := b2 _ _ hWfd hW1
  refine ⟨_, rfl, _, rfl, _, rfl, by rw [S_len]; omega, _, _, rfl, rfl, fd, cl, _, rfl, by rw [S_len]; omega, by rw [S_len]; omega, hf2, fun H3 sp hs0 hs1 hf3 b3 => ⟨_, _, rfl, ?_⟩⟩
  have hW3 := b3 _ _ hWfd hW2
  refine ⟨_, rfl, fd, cl, _, rfl, hf3, .inr ⟨signs, rfl, by decide, by decide, fun H4 c hc hf4 b4 => ?_⟩⟩
  have hW4 := b4 _ _ hWfd hW3
  have bb : But fd H H4 := ((((But.of s0).trans b1).trans b2).trans b3).trans b4
  have hca : asc [c] := fun d hd => by
    rw [List.mem_singleton.mp hd]
    have key : ∀ x ∈ signs, x < 128 := by decide
    exact key c hc
  have hlS : (S l).length ≤ sizeLine := by rw [S_len]; omega
  have fin : ∀ (H' : Hp) (G : Addr) (ms : List (List Nat)), H' G = some (.lst (wv ms)) → ascW ms → tot ms ≤ 3 * l.length + 200 → FeedAt H' fd cl → But fd H H' → ∃ a p, ∃ ys : List Str, V.str (Str.ofString " ") = .str a ∧ [V.ref G] = [.ref p] ∧ (SqL K H' p (ys.map V.str) ∨ SqT K H' p (ys.map V.str)) ∧
      (ys.map (·.length)).sum + ys.length * a.length ≤ 16777216 ∧ Q (.str (Txt.join a ys)) H' := fun H' G ms hG ha ht hf' b' => by
    refine ⟨S [32], G, ms.map S, rfl, rfl, .inl (SqL.of hG), ?_, ?_⟩
    · rw [lens, List.length_map, S_len]
      have z := ht
      unfold tot at z
      show _ + ms.length * 1 ≤ _
      rw [Nat.mul_one]
      have : (ms.map fun x => x.length) = ms.map List.length := rfl
      rw [this]
      omega
    · rw [join_S]
      exact q H' _ hf' b' (asc_join ha) (Nat.le_trans (len_join 32 ms) ht)
  obtain ⟨m1, e1, a1, l1⟩ := cut_asc hasc none (some sp)
  obtain ⟨m2, e2, a2, l2⟩ := cut_asc hasc (some sp) none
  obtain ⟨m3, e3, a3, l3⟩ := cut_asc hasc (some (sp + 1)) none
  refine ⟨_, rfl, rfl, _, rfl, ite2 (fun _ => ?_) (fun _ => ?_)⟩
  · refine ⟨_, rfl, _, rfl, sp, rfl, S l, rfl, hlS, _, rfl, _, _, rfl, rfl, ?_, _, rfl, _, rfl, sp, rfl, S l, rfl, hlS, _, _, rfl, rfl, ?_, ?_⟩
    · rw [e1, S_len, S_len]
      show m1.length + 1 ≤ sizeLine
      omega
    · rw [e1, e2, S_cat, S_len, S_len, List.length_append]
      show m1.length + 1 + m2.length ≤ sizeLine
      omega
    · rw [e1, e2, S_cat, S_cat]
      refine q H4 _ hf4 bb (asc_app (asc_app a1 hca) a2) ?_
      rw [List.length_append, List.length_append]
      show m1.length + 1 + m2.length ≤ _
      omega
  refine ⟨_, rfl, rfl, _, rfl, ite2 (fun _ => ?_) (fun _ => ?_)⟩
  · refine ⟨_, rfl, _, rfl, sp, rfl, S l, rfl, hlS, _, rfl, _, rfl, _, _, rfl, rfl, sp + 1, rfl, S l, rfl, hlS, _, _, rfl, rfl, ?_, ?_⟩
    · rw [e1, e3, S_len, S_len]
      omega
    · rw [e1, e3, S_cat]
      refine q H4 _ hf4 bb (asc_app a1 a3) ?_
      rw [List.length_append]
      omega
  refine ⟨_, rfl, rfl, _, rfl, ite2 (fun _ => ?_) (fun _ => ?_)⟩
  · refine ⟨_, rfl, _, rfl, sp, rfl, S l, rfl, hlS, _, rfl, _, _, rfl, rfl, ?_, _, rfl, _, rfl, _, _, rfl, rfl, sp + 1, rfl, S l, rfl, hlS, _, _, rfl, rfl, ?_, ?_⟩
    · rw [e1, S_len, S_len]
      show m1.length + 1 ≤ sizeLine
      omega
    · rw [e1, e3, S_cat, S_len, S_len, List.length_append]
      show m1.length + 1 + m3.length ≤ sizeLine
      omega
    · rw [e1, e3, S_cat, S_cat]
      refine q H4 _ hf4 bb (asc_app (asc_app a1 hca) a3) ?_
      rw [List.length_append, List.length_append]
      show m1.length + 1 + m3.length ≤ _
      omega
  refine ⟨_, rfl, rfl, _, rfl, ite2 (fun _ => ?_) (fun _ => ?_)⟩
  · refine ⟨Str.ofString "9", 61, rfl, rfl, by decide, by decide, by decide, fun z' hz' hm => ⟨_, _, rfl, rfl, ?_, ?_⟩⟩
    · rw [hz', sz]
      decide
    refine ⟨by show 13 ≤ sizeLine; omega, fun L hL => ?_⟩
    have t1 := same_new (o := .lst [.str "2^1", .str "9973^6", .str "4^1", .str "10007^1", .str "2^7", .str "1", .str "", .str "0", .str "3^0", .str "02^1", .str "2^01", .str (z' ++ Str.ofString "^1"), .str "13^2"]) hL
    have hW5 := t1 _ _ hW4
    obtain ⟨ms1, c1, c2⟩ := wv_cut ws none (some k)
    refine ⟨⟨_, rfl⟩, _, rfl, _, rfl, k, rfl, W, _, rfl, SqL.of hW5, fun A' hA => ?_⟩
    rw [c1] at *
    have t2 := same_new (o := .lst (wv ms1)) hA
    have hLA : L ≠ A' := fun z => by rw [← z, upd_same] at hA; cases hA
    refine ⟨_, rfl, _, rfl, fd, cl, _, rfl, (hf4.same t1).same t2, .inl ⟨L, _, rfl, t2 _ _ upd_same, (show 0 < 13 by decide), (show 13 < 1000000 by decide), fun H6 v hv hf6 b6 => ?_⟩⟩
    obtain ⟨w, rfl, wa, wl⟩ : ∃ w, v = .str (S w) ∧ asc w ∧ w.length ≤ 63 := by
      have zz : z' ++ Str.ofString "^1" = S (z'.cps.toList ++ [94, 49]) := by
        have y := S_cat z'.cps.toList [94, 49]
        rw [S_tl] at y
        exact y
      have za : asc (z'.cps.toList ++ [94, 49]) := fun d hd => by
        rcases List.mem_append.mp hd with h | h
        · have y := hm d h
          have key : ∀ x ∈ (Str.ofString "9").cps.toList, x < 128 := by decide
          exact key d y
        · have key : ∀ x ∈ ([94, 49] : List Nat), x < 128 := by decide
          exact key d h
      have zl : (z'.cps.toList ++ [94, 49]).length ≤ 63 := by
        have y : z'.cps.toList.length = 61 := by
          rw [Array.length_toList]
          exact hz'
        rw [List.length_append, y]
        decide
      rw [zz] at hv
      have key : ∀ w : List Nat, w.length ≤ 63 → (w.all fun x => decide (x < 128)) = true → asc w ∧ w.length ≤ 63 := fun w h1 h2 => ⟨fun d hd => of_decide_eq_true (List.all_eq_true.mp h2 d hd), h1⟩
      rcases List.mem_cons.mp hv with e | hv
      · exact ⟨[50, 94, 49], e, key _ (by decide) (by decide)⟩
      rcases List.mem_cons.mp hv with e | hv
      · exact ⟨[57, 57, 55, 51, 94, 54], e, key _ (by decide) (by decide)⟩
      rcases List.mem_cons.mp hv with e | hv
      · exact ⟨[52, 94, 49], e, key _ (by decide) (by decide)⟩
      rcases List.mem_cons.mp hv with e | hv
      · exact ⟨[49, 48, 48, 48, 55, 94, 49], e, key _ (by decide) (by decide)⟩
      rcases List.mem_cons.mp hv with e | hv
      · exact ⟨[50, 94, 55], e, key _ (by decide) (by decide)⟩
      rcases List.mem_cons.mp hv with e | hv
      · exact ⟨[49], e, key _ (by decide) (by decide)⟩
      rcases List.mem_cons.mp hv with e | hv
      · exact ⟨[], e, key _ (by decide) (by decide)⟩
      rcases List.mem_cons.mp hv with e | hv
      · exact ⟨[48], e, key _ (by decide) (by decide)⟩
      rcases List.mem_cons.mp hv with e | hv
      · exact ⟨[51, 94, 48], e, key _ (by decide) (by decide)⟩
      rcases List.mem_cons.mp hv with e | hv
      · exact ⟨[48, 50, 94, 49], e, key _ (by decide) (by decide)⟩
      rcases List.mem_cons.mp hv with e | hv
      · exact ⟨[50, 94, 48, 49], e, key _ (by decide) (by decide)⟩
      rcases List.mem_cons.mp hv with e | hv
      · exact ⟨_, e, za, zl⟩
      rcases List.mem_cons.mp hv with e | hv
      · exact ⟨[49, 51, 94, 50], e, key _ (by decide) (by decide)⟩
      cases hv
    obtain ⟨kv6, hk6⟩ := ((hf4.same t1).same t2).dk
    have hAfd : A' ≠ fd := fun z => by rw [← z, upd_same] at hk6; cases hk6
    have hA6 := b6 A' _ hAfd upd_same
    have hW6 := b6 W _ hWfd (t2 _ _ hW5)
    refine ⟨by show 1 ≤ sizeLine; omega, fun B hB => ?_⟩
    have t3 := same_new (o := .lst [.str (S w)]) hB
    refine ⟨A', B, _, _, rfl, rfl, t3 _ _ hA6, upd_same, ?_, fun C hC => ?_⟩
    · rw [wv_len]
      have := c2.length_le
      show ms1.length + 1 ≤ sizeLine
      omega
    rw [show [V.str (S w)] = wv [w] from rfl, wv_app] at *
    have t4 := same_new (o := .lst (wv (ms1 ++ [w]))) hC
    refine ⟨_, rfl, _, rfl, _, rfl, fd, cl, 2, rfl, by decide, by decide, (hf6.same t3).same t4, fun H7 r hr0 hr1 hf7 b7 => ?_⟩
    obtain ⟨kv7, hk7⟩ := ((hf6.same t3).same t4).dk
    have hCfd : C ≠ fd := fun z => by rw [← z, upd_same] at hk7; cases hk7
    have hC7 := b7 C _ hCfd upd_same
    have hW7 := b7 W _ hWfd (t4 _ _ (t3 _ _ hW6))
    obtain ⟨ms2, c3, c4⟩ := wv_cut ws (some (k + r)) none
    refine ⟨_, _, rfl, rfl, k + r, rfl, W, _, rfl, SqL.of hW7, fun D hD => ?_⟩
    rw [c3] at *
    have t5 := same_new (o := .lst (wv ms2)) hD
    refine ⟨C, D, _, _, rfl, rfl, t5 _ _ hC7, upd_same, ?_, fun G hG => ?_⟩
    · rw [wv_len, wv_len, List.length_append]
      have := c2.length_le
      have := c4.length_le
      show ms1.length + 1 + ms2.length ≤ sizeLine
      omega
    rw [wv_app] at *
    refine fin _ G (ms1 ++ [w] ++ ms2) upd_same (fun x hx => ?_) ?_ ((hf7.same t5).same (same_new hG)) ((((((bb.trans (But.of t1)).trans (But.of t2)).trans b6).trans (But.of (t3.trans t4))).trans b7).trans (But.of (t5.trans (same_new hG))))
    · rcases List.mem_append.mp hx with h | h
      · rcases List.mem_append.mp h with h | h
        · exact hwa x (c2.subset h)
        · rw [List.mem_singleton.mp h]
          exact wa
      · exact hwa x (c4.subset h)
    · rw [tot_app, tot_app, tot_cons, tot_nil]
      have := tot_sub c2
      have := tot_sub c4
      omega
  refine ⟨_, rfl, rfl, _, rfl, ite2 (fun _ => ?_) (fun _ => ?_)⟩
  · obtain ⟨ms1, c1, d1⟩ := wv_cut ws none (some k)
    obtain ⟨ms2, c2, d2⟩ := wv_cut ws (some k) (some (k + 2))
    obtain ⟨ms3, c3, d3⟩ := wv_cut ws (some (k + 2)) none
    refine ⟨⟨_, rfl⟩, _, rfl, _, rfl, k, rfl, W, _, rfl, SqL.of hW4, fun A' hA => ?_⟩
    rw [c1] at *
    have t1 := same_new (o := .lst (wv ms1)) hA
    refine ⟨_, rfl, _, rfl, k, rfl, _, rfl, _, _, rfl, rfl, k + 2, rfl, W, _, rfl, SqL.of (t1 _ _ hW4), fun B hB => ?_⟩
    rw [c2] at *
    have t2 := same_new (o := .lst (wv ms2)) hB
    refine ⟨B, _, rfl, SqL.of upd_same, fun C hC => ?_⟩
    rw [wv_rev] at *
    have t3 := same_new (o := .lst (wv ms2.reverse)) hC
    refine ⟨A', C, _, _, rfl, rfl, t3 _ _ (t2 _ _ upd_same), upd_same, ?_, fun D hD => ?_⟩
    · rw [wv_len, wv_len, List.length_reverse]
      have := d1.length_le
      have := d2.length_le
      omega
    rw [wv_app] at *
    have t4 := same_new (o := .lst (wv (ms1 ++ ms2.reverse))) hD
    refine ⟨_, rfl, _, rfl, _, _, rfl, rfl, k + 2, rfl, W, _, rfl, SqL.of (t4 _ _ (t3 _ _ (t2 _ _ (t1 _ _ hW4)))), fun G hG => ?_⟩
    rw [c3] at *
    have t5 := same_new (o := .lst (wv ms3)) hG
    refine ⟨D, G, _, _, rfl, rfl, t5 _ _ upd_same, upd_same, ?_, fun J hJ => ?_⟩
    · rw [wv_len, wv_len, List.length_append, List.length_reverse]
      have := d1.length_le
      have := d2.length_le
      have := d3.length_le
      omega
    rw [wv_app] at *
    have tt := t1.trans (t2.trans (t3.trans (t4.trans (t5.trans (same_new (o := .lst (wv (ms1 ++ ms2.reverse ++ ms3))) hJ)))))
    refine fin _ J _ upd_same (fun x hx => ?_) ?_ (hf4.same tt) (bb.trans (But.of tt))
    · rcases List.mem_append.mp hx with h | h
      · rcases List.mem_append.mp h with h | h
        · exact hwa x (d1.subset h)
        · exact hwa x (d2.subset (List.mem_reverse.mp h))
      · exact hwa x (d3.subset h)
    · rw [tot_app, tot_app, tot_rev]
      have := tot_sub d1
      have := tot_sub d2
      have := tot_sub d3
      omega
  refine ⟨_, rfl, rfl, _, rfl, ite2 (fun _ => ?_) (fun _ => ?_)⟩
  · obtain ⟨ms1, c1, d1⟩ := wv_cut ws none (some k)
    obtain ⟨ms3, c3, d3⟩ := wv_cut ws (some k) none
    obtain ⟨j, hj⟩ : ∃ j : Nat, k = (j : Int) := ⟨_, (Int.toNat_of_nonneg hk0).symm⟩
    have hj2 : j < ws.length := by omega
    refine ⟨⟨_, rfl⟩, _, rfl, _, rfl, k, rfl, W, _, rfl, SqL.of hW4, fun A' hA => ?_⟩
    rw [c1] at *
    have t1 := same_new (o := .lst (wv ms1)) hA
    refine ⟨_, rfl, _, rfl, W, _, k, .str (S ws[j]), rfl, rfl, SqL.of (t1 _ _ hW4), ?_, by show 1 ≤ sizeLine; omega, fun B hB => ?_⟩
    · rw [hj]
      refine atI_nat ?_
      unfold wv
      rw [List.getElem?_map, List.getElem?_map, List.getElem?_eq_getElem hj2]
      rfl
    rw [show [V.str (S ws[j])] = wv [ws[j]] from rfl] at *
    have t2 := same_new (o := .lst (wv [ws[j]])) hB
    refine ⟨A', B, _, _, rfl, rfl, t2 _ _ upd_same, upd_same, ?_, fun C hC => ?_⟩
    · rw [wv_len, wv_len]
      have := d1.length_le
      show ms1.length + 1 ≤ sizeLine
      omega
    rw [wv_app] at *
    have t3 := same_new (o := .lst (wv (ms1 ++ [ws[j]]))) hC
    refine ⟨_, rfl, _, rfl, k, rfl, W, _, rfl, SqL.of (t3 _ _ (t2 _ _ (t1 _ _ hW4))), fun G hG => ?_⟩
    rw [c3] at *
    have t5 := same_new (o := .lst (wv ms3)) hG
    refine ⟨C, G, _, _, rfl, rfl, t5 _ _ upd_same, upd_same, ?_, fun J hJ => ?_⟩
    · rw [wv_len, wv_len, List.length_append]
      have := d1.length_le
      have := d3.length_le
      show ms1.length + 1 + ms3.length ≤ sizeLine
      omega
    rw [wv_app] at *
    have tt := t1.trans (t2.trans (t3.trans (t5.trans (same_new (o := .lst (wv (ms1 ++ [ws[j]] ++ ms3))) hJ))))
    refine fin _ J _ upd_same (fun x hx => ?_) ?_ (hf4.same tt) (bb.trans (But.of tt))
    · rcases List.mem_append.mp hx with h | h
      · rcases List.mem_append.mp h with h | h
        · exact hwa x (d1.subset h)
        · rw [List.mem_singleton.mp h]
          exact hwa _ (List.getElem_mem hj2)
      · exact hwa x (d3.subset h)
    · rw [tot_app, tot_app]
      have := tot_sub d1
      have := tot_sub (List.singleton_sublist.mpr (List.getElem_mem hj2))
      have := tot_sub d3
      omega
  · obtain ⟨ms1, c1, d1⟩ := wv_cut ws none (some k)
    obtain ⟨ms3, c3, d3⟩ := wv_cut ws (some (k + 1)) none
    refine ⟨⟨_, rfl⟩, _, rfl, _, rfl, k, rfl, W, _, rfl, SqL.of hW4, fun A' hA => ?_⟩
    rw [c1] at *
    have t1 := same_new (o := .lst (wv ms1)) hA
    refine ⟨_, rfl, _, rfl, _, _, rfl, rfl, k + 1, rfl, W, _, rfl, SqL.of (t1 _ _ hW4), fun G hG => ?_⟩
    rw [c3] at *
    have t5 := same_new (o := .lst (wv ms3)) hG
    refine ⟨A', G, _, _, rfl, rfl, t5 _ _ upd_same, upd_same, ?_, fun J hJ => ?_⟩
    · rw [wv_len, wv_len]
      have := d1.length_le
      have := d3.length_le
      omega
    rw [wv_app] at *
    have tt := t1.trans (t5.trans (same_new (o := .lst (wv (ms1 ++ ms3))) hJ))
    refine fin _ J _ upd_same (fun x hx => ?_) ?_ (hf4.same tt) (bb.trans (But.of tt))
    · rcases List.mem_append.mp hx with h | h
      · exact hwa x (d1.subset h)
      · exact hwa x (d3.subset h)
    · rw [tot_app]
      have := tot_sub d1
      have := tot_sub d3
      omega
end
end K12
namespace K12
open PySem PySem.Spec PyProof.Rows L2
/-- isinstance of the caught one, the class told by the reading -/
def rIsJ (K : PySem.W.Frag) (D a : Addr) (cls : Value) (d : Option Addr) : List V → Hp → VK → Prop := fun xs H Q => ∃ (dd : Addr) (c : V) (cv : Value) (b : Bool) (fs : List (Str × V)), cls = .ref D ∧ d = some dd ∧ xs = [.ref a, c] ∧ (∀ u, RelV c u → u = cv) ∧ PySem.W.kitOne K (.ref D) cv = some b ∧ H dd = some (.xd fs) ∧ Q (.bl b) H
theorem call_isJ {X : Cx} {a D fI : Addr} {oe : Obj} {cls : Value} {d : Option Addr} {pn : List (Addr × Obj)} (T : ItT X.K D fI) (U : IsT X.K D) (hz : Zc cls d oe) (hf : ∃ vs, oe.data = .fields vs) : CallR (X.suite a ((a, oe) :: pn)) (.builtin "isinstance") (rIsJ X.K D a cls d) := by
  intro pins s σ H xs us Q I r h
  obtain ⟨dd, c, cv, b, fs, rfl, rfl, e1, e2, e3, e4, q⟩ := h
  exact call_isI T U hz hf pins s σ H xs us Q I r ⟨c, cv, b, fs, e1, e2, e3, e4, q⟩
theorem pe_no {X : Cx} {e : Expr} : PE X e (fun _ _ _ => False) := ⟨fun _ _ _ _ _ _ h => h.elim⟩
theorem bl_sh (b : Bool) : (PyData.bool b).canLay0 = true ∧ (PyData.bool b).depth ≤ 60 := by
  simp [PyData.canLay0, PyData.depth]
theorem shaped_bls (l : List Bool) : SeqAt.shaped (.list (l.map PyData.bool)) = true := shaped_list fun d hd => by
  obtain ⟨b, _, rfl⟩ := List.mem_map.mp hd
  exact bl_sh b
theorem scHe : FnScope ["_law_ask", "e", "_law_own", "_law_sorts"] ["_law_ask"] (defScope (top 46)) := ⟨rfl, rfl, rfl, by decide +kernel, rfl, by decide +kernel, by decide +kernel⟩
/-- what _law_heard makes of what it calls -/
def THrd (K : PySem.W.Frag) : (XK → Hp → VK → Prop) → Hp → VK → Prop := fun tl H Q =>
  tl (fun cls d H' => cls = .ref (gI K) ∧ ∃ (dd : Addr) (v1 v2 : V), d = some dd ∧ H' dd = some (.xd (fsI v1 v2)) ∧ ∀ H'' p, Same H' H'' → H'' p = some (.tup [.str "text", v1, v2]) → Q (.ref p) H'')
    H (fun v H' => [V.str "told", v].length ≤ sizeLine ∧ ∀ p, H' p = none → Q (.ref p) (upd H' p (.tup [.str "told", v])))
theorem takes_len {X : Cx} {W : WX} (t : Takes X W) : Takes X (fun c d σ H => σ.length = X.N.length → W c d σ H) := fun u s' ⟨a, B, sI, pins, σ, H, cls, d, e, I, nb, up, sky, na, os, ag, w⟩ =>
  t u s' ⟨a, B, sI, pins, σ, H, cls, d, e, I, nb, up, sky, na, os, ag, w I.len⟩
/-- what isinstance says of the classes -/
structure HeT (K : PySem.W.Frag) : Prop where
  it : ItT K (gI K) (fI K)
  is_ : IsT K (gI K)
  kit : ∀ p ∈ isiN, PySem.W.kitOne K (.ref (gI K)) (.ref (He.ga K p.1)) = some p.2
  ve : PySem.W.kitOne K (.ref (gI K)) (.type "ValueError") = some true
  ex : PySem.W.exmOne K (.ref (gI K)) (.ref (He.ga K "GroupError")) = some true
abbrev tIj (K : PySem.W.Frag) (a : Addr) (cls : Value) (d : Option Addr) (v : V) : TE := tCB (rIsJ K (gI K) a cls d) (tCons (tVar 1) (tCons (tC v) tNil))
abbrev tIx (K : PySem.W.Frag) (a : Addr) (cls : Value) (d : Option Addr) (x : Str) : TE := tIj K a cls d (.ref (He.ga K x))
/-- the except suite of _law_heard -/
def tHrd (K : PySem.W.Frag) (a : Addr) (cls : Value) (d : Option Addr) : TS :=
  tSeq (tAsg (tLst (tCons (tIx K a cls d "NotUsable") (tCons (tIx K a cls d "InvalidPaper") (tCons (tIx K a cls d "InvalidText") tNil)))) (gName 2))
  (tSeq (tAsg (tLst (tCons (tIx K a cls d "CountError") (tCons (tIx K a cls d "PaperError") (tCons (tIx K a cls d "TextError") tNil)))) (gName 3))
  (tSeq (tIfS (tOr (tNot (tB (tIj K a cls d (.ty "ValueError")))) (tOr (tB (tIx K a cls d "LiveError")) (tOr (tTest (tOp rNe (tBM K "list" (rCntB K) (tVar 2) (tCons (tC (.bl true)) tNil)) (tC (.int 1)))) (tTest (tOp (rNeD K) (tVar 3) (tVar 2)))))) tNever tNext)
  (tSeq (tIfS (tB (tOp (rIxL K) (tVar 2) (tC (.int 0)))) tNever tNext)
  (tRet (tIf (tB (tOp (rIxL K) (tVar 2) (tC (.int 1)))) (fun _ _ _ => False) (tTup (tCons (tC (.str "text")) (tCons (tXf a cls d (gI K) "line" (tVar 1)) (tCons (tXf a cls d (gI K) "field" (tVar 1)) tNil)))))))))
section
variable {X : Cx}
theorem he_cls {K : PySem.W.Frag} {mg : Str → Option Value} (T : Fx K mg) (x : Str) (h : x ∈ clsN) : mg x = some (.ref (He.ga K x)) := T.cls x h
theorem heard_gives (T : Fx X.K X.mg) (U : HeT X.K) (hr : Room 1 X.A) {q : Str} {g : Addr} {cdg : Value} :
    LamX.GivesTo X ["_law_ask", "e", "_law_own", "_law_sorts"] "_law_heard" (defScope (top 46)) g cdg (defBody (top 46)) "_law_ask" q (THrd X.K) := by
  intro f c' s H Q tl act hc h
  have g1 : X.mg "NotUsable" = some (.ref (He.ga X.K "NotUsable")) := T.cls _ (by decide +kernel)
  have g2 : X.mg "InvalidPaper" = some (.ref (He.ga X.K "InvalidPaper")) := T.cls _ (by decide +kernel)
  have g3 : X.mg "InvalidText" = some (.ref (He.ga X.K "InvalidText")) := T.cls _ (by decide +kernel)
  have g4 : X.mg "CountError" = some (.ref (He.ga X.K "CountError")) := T.cls _ (by decide +kernel)
  have g5 : X.mg "PaperError" = some (.ref (He.ga X.K "PaperError")) := T.cls _ (by decide +kernel)
  have g6 : X.mg "TextError" = some (.ref (He.ga X.K "TextError")) := T.cls _ (by decide +kernel)
  have g7 : X.mg "LiveError" = some (.ref (He.ga X.K "LiveError")) := T.cls _ (by decide +kernel)
  have g8 : X.mg "GroupError" = some (.ref (He.ga X.K "GroupError")) := T.cls _ (by decide +kernel)
  have hr0 : Room 0 (X.A.deeper (envOfC "_law_heard" (defScope (top 46)) s.heap.objs.size g cdg)) := hr.deeper _
  refine ⟨_, pss_one (ps_try_as (i := 1) (ts := tHrd X.K) (Wout := fun _ _ _ _ => False) (tb := fun W D σ H => ∃ Ech : XK, (∀ cls d σ' H', Ech cls d H' → (σ' : L2.St).length = 4 → W cls d σ' H') ∧
      tRet (tTup (tCons (tC (.str "told")) (tCons (fun σZ HZ Q => σZ[0]? = some (some (.ref f)) ∧ HZ c' = some (LamX.CodeO c' q) ∧ tl Ech HZ Q) tNil))) D σ H)
      rfl rfl scHe.nd rfl rfl ⟨rfl, by decide, .inl g8⟩ LamX.takes0 (fun W pn xe tk _ => ?_)
      (fun a oe cls d pn hz hf => pss_cons (ps_set (i := 2) scHe.nd rfl (.inl rfl) (pe_lst
          (pa_cons (pe_callB (call_isJ (X := (cxOf C8.CX0 X.prog X.w X.K X.mg X.base ["_law_ask", "e", "_law_own", "_law_sorts"] "_law_heard" (defScope (top 46)) g cdg X.A X.stack s H C8.E0).nox) U.it U.is_ hz hf) (by rfl) T.n_isinstance (by decide +kernel) (pa_cons (pv 1) (pa_cons (pe_glob (v := .ref (He.ga X.K "NotUsable")) rfl g1 rfl) pa_nil)))
          (pa_cons (pe_callB (call_isJ (X := (cxOf C8.CX0 X.prog X.w X.K X.mg X.base ["_law_ask", "e", "_law_own", "_law_sorts"] "_law_heard" (defScope (top 46)) g cdg X.A X.stack s H C8.E0).nox) U.it U.is_ hz hf) (by rfl) T.n_isinstance (by decide +kernel) (pa_cons (pv 1) (pa_cons (pe_glob (v := .ref (He.ga X.K "InvalidPaper")) rfl g2 rfl) pa_nil)))
          (pa_cons (pe_callB (call_isJ (X := (cxOf C8.CX0 X.prog X.w X.K X.mg X.base ["_law_ask", "e", "_law_own", "_law_sorts"] "_law_heard" (defScope (top 46)) g cdg X.A X.stack s H C8.E0).nox) U.it U.is_ hz hf) (by rfl) T.n_isinstance (by decide +kernel) (pa_cons (pv 1) (pa_cons (pe_glob (v := .ref (He.ga X.K "InvalidText")) rfl g3 rfl) pa_nil))) pa_nil)))))
        (pss_cons (ps_set (i := 3) scHe.nd rfl (.inl rfl) (pe_lst
          (pa_cons (pe_callB (call_isJ (X := (cxOf C8.CX0 X.prog X.w X.K X.mg X.base ["_law_ask", "e", "_law_own", "_law_sorts"] "_law_heard" (defScope (top 46)) g cdg X.A X.stack s H C8.E0).nox) U.it U.is_ hz hf) (by rfl) T.n_isinstance (by decide +kernel) (pa_cons (pv 1) (pa_cons (pe_glob (v := .ref (He.ga X.K "CountError")) rfl g4 rfl) pa_nil)))
          (pa_cons (pe_callB (call_isJ (X := (cxOf C8.CX0 X.prog X.w X.K X.mg X.base ["_law_ask", "e", "_law_own", "_law_sorts"] "_law_heard" (defScope (top 46)) g cdg X.A X.stack s H C8.E0).nox) U.it U.is_ hz hf) (by rfl) T.n_isinstance (by decide +kernel) (pa_cons (pv 1) (pa_cons (pe_glob (v := .ref (He.ga X.K "PaperError")) rfl g5 rfl) pa_nil)))
          (pa_cons (pe_callB (call_isJ (X := (cxOf C8.CX0 X.prog X.w X.K X.mg X.base ["_law_ask", "e", "_law_own", "_law_sorts"] "_law_heard" (defScope (top 46)) g cdg X.A X.stack s H C8.E0).nox) U.it U.is_ hz hf) (by rfl) T.n_isinstance (by decide +kernel) (pa_cons (pv 1) (pa_cons (pe_glob (v := .ref (He.ga X.K "TextError")) rfl g6 rfl) pa_nil))) pa_nil)))))
        (pss_cons (ps_if (PW.pt (pw_or (pt_not (pt_val (pe_callB (call_isJ (X := (cxOf C8.CX0 X.prog X.w X.K X.mg X.base ["_law_ask", "e", "_law_own", "_law_sorts"] "_law_heard" (defScope (top 46)) g cdg X.A X.stack s H C8.E0).nox) U.it U.is_ hz hf) (by rfl) T.n_isinstance (by decide +kernel) (pa_cons (pv 1) (pa_cons (pe_bltn (u := .type "ValueError") (v := .ty "ValueError") (by rfl) T.n_ValueError (by decide +kernel) rfl) pa_nil)))))
            (pw_or (pt_val (pe_callB (call_isJ (X := (cxOf C8.CX0 X.prog X.w X.K X.mg X.base ["_law_ask", "e", "_law_own", "_law_sorts"] "_law_heard" (defScope (top 46)) g cdg X.A X.stack s H C8.E0).nox) U.it U.is_ hz hf) (by rfl) T.n_isinstance (by decide +kernel) (pa_cons (pv 1) (pa_cons (pe_glob (v := .ref (He.ga X.K "LiveError")) rfl g7 rfl) pa_nil))))
            (pw_or (pt_cmpR op_ne (pe_bm PySem.F.plainAttrs_list PySem.F.slot_list_count PySem.F.type_list_count mt_countB (pv 2) (pa_cons pe_bl pa_nil)) pe_int (nomark _)) (pw_or1 (pt_cmpR (op_neD hr0.units) (pv 3) (pv 2) (nomark _))))))) pss_never pss_nil)
        (pss_cons (ps_if (pt_val (pe_ix ix_list (pv 2) pe_int (fun _ _ => rfl))) pss_never pss_nil)
        (pss_one (ps_ret (pe_ifExp (pt_val (pe_ix ix_list (pv 2) pe_int (fun _ _ => rfl))) pe_no
          (pe_tup (pa_cons pe_str (pa_cons (pe_xf (X := (cxOf C8.CX0 X.prog X.w X.K X.mg X.base ["_law_ask", "e", "_law_own", "_law_sorts"] "_law_heard" (defScope (top 46)) g cdg X.A X.stack s H C8.E0).nox) U.it.xf U.it.noL hz hf (pv 1)) (pa_cons (pe_xf (X := (cxOf C8.CX0 X.prog X.w X.K X.mg X.base ["_law_ask", "e", "_law_own", "_law_sorts"] "_law_heard" (defScope (top 46)) g cdg X.A X.stack s H C8.E0).nox) U.it.xf U.it.noF hz hf (pv 1)) pa_nil)))))))))))), ?_⟩
  · refine ⟨fun pins s' σ H' D I h' => ?_⟩
    obtain ⟨Ech, hW, h1⟩ := h'
    exact (pss_one (ps_ret (pe_tup (pa_cons pe_str (pa_cons (act (fun c d σ H => σ.length = 4 → W c d σ H) pn xe Ech _ _ (takes_len tk) hW) pa_nil))))).run pins s' σ H' D I h1
  · refine ⟨_, fun cls d σ' H' he hl => ?_, rfl, hc, h⟩
    obtain ⟨e1, dd, v1, v2, e2, e3, q⟩ := he
    subst e1 e2
    obtain ⟨x0, x1, x2, x3, rfl⟩ : ∃ x0 x1 x2 x3, σ' = [x0, x1, x2, x3] := by
      match σ', hl with
      | [x0, x1, x2, x3], _ => exact ⟨_, _, _, _, rfl⟩
    refine ⟨true, U.ex, fun _ a ha => ?_, fun z => nomatch z⟩
    have z3 : 3 ≤ sizeLine := by rw [sizeLine_eq]; decide
    have isx : ∀ (x : Str) (b : Bool) (σ : L2.St) (H2 : Hp) (Q2 : VK), (x, b) ∈ isiN → σ[1]? = some (some (.ref a)) → H2 dd = some (.xd (fsI v1 v2)) → Q2 (.bl b) H2 → tIx X.K a (.ref (gI X.K)) (some dd) x σ H2 Q2 := fun x b σ H2 Q2 hm hs hd q2 =>
      ⟨_, hs, dd, _, _, b, _, rfl, rfl, rfl, fun u h => h, U.kit (x, b) hm, hd, q2⟩
    refine isx "NotUsable" false _ _ _ (by decide +kernel) rfl e3 (isx "InvalidPaper" false _ _ _ (by decide +kernel) rfl e3 (isx "InvalidText" true _ _ _ (by decide +kernel) rfl e3 ⟨z3, fun o ho => ?_⟩))
    have s1 := same_new (o := .lst [.bl false, .bl false, .bl true]) ho
    have d1 := s1 _ _ e3
    refine isx "CountError" false _ _ _ (by decide +kernel) rfl d1 (isx "PaperError" false _ _ _ (by decide +kernel) rfl d1 (isx "TextError" true _ _ _ (by decide +kernel) rfl d1 ⟨z3, fun o2 ho2 => ?_⟩))
    have s2 := same_new (o := .lst [.bl false, .bl false, .bl true]) ho2
    have d2 := s2 _ _ d1
    have l1 := s2 _ _ (show (upd H' o (.lst [.bl false, .bl false, .bl true])) o = some (.lst [.bl false, .bl false, .bl true]) from upd_same)
    have l2 : (upd (upd H' o (.lst [.bl false, .bl false, .bl true])) o2 (.lst [.bl false, .bl false, .bl true])) o2 = some (.lst [.bl false, .bl false, .bl true]) := upd_same
    have s12 := s1.trans s2
    generalize upd (upd H' o (.lst [.bl false, .bl false, .bl true])) o2 (.lst [.bl false, .bl false, .bl true]) = H2 at d2 l1 l2 s12
    refine ⟨_, rfl, dd, _, _, true, _, rfl, rfl, rfl, fun u h => h, U.ve, d2, true, rfl, iteF ?_⟩
    refine isx "LiveError" false _ _ _ (by decide +kernel) rfl d2 ⟨false, rfl, iteF ?_⟩
    refine ⟨_, rfl, .inl ⟨rfl, _, SqL.of l1⟩, _, [false, false, true], rfl, rfl, SqL.of l1, rfl, _, rfl, iteF ?_⟩
    have hd3 : Dp X.K H2 (.ref o) (.list ([false, false, true].map PyData.bool)) := .lst (SqL.of l1) (dpAll_bls [false, false, true])
    have hd4 : Dp X.K H2 (.ref o2) (.list ([false, false, true].map PyData.bool)) := .lst (SqL.of l2) (dpAll_bls [false, false, true])
    refine ⟨_, rfl, _, rfl, _, _, hd4, hd3, shaped_bls _, shaped_bls _, _, rfl, ?_⟩
    rw [show PyData.eqv (.list ([false, false, true].map PyData.bool)) (.list ([false, false, true].map PyData.bool)) = true from SeqAt.eqv_refl _ (SeqAt.canLay_of_shaped (shaped_bls _))]
    refine iteF ?_
    refine ⟨_, rfl, _, _, _, .bl false, rfl, rfl, SqL.of l1, atI_nat (j := 0) rfl, false, rfl, iteF ?_⟩
    refine ⟨_, rfl, _, _, _, .bl false, rfl, rfl, SqL.of l1, atI_nat (j := 1) rfl, false, rfl, iteF ?_⟩
    refine ⟨_, rfl, rfl, rfl, dd, _, v1, rfl, d2, rfl, _, rfl, rfl, rfl, dd, _, v2, rfl, d2, rfl, z3, fun p hp => ?_⟩
    exact q _ p (s12.trans (same_new hp)) upd_same
end
end K12
namespace K12
open PySem PySem.Spec PyProof.Rows L2 TL SX
/-! ### small data: what repr may show -/
structure Sm (n k : Nat) (d : PyData) : Prop where
  a : d.leavesShort 30 = true
  b : d.showable = true
  c : d.bulk ≤ n
  d : d.depth ≤ k
theorem Sm.mono {n k m j : Nat} {d : PyData} (h : Sm n k d) (h1 : n ≤ m) (h2 : k ≤ j) : Sm m j d := ⟨h.a, h.b, Nat.le_trans h.c h1, Nat.le_trans h.d h2⟩
theorem sm_all {n k : Nat} : ∀ ds : List PyData, (∀ d ∈ ds, Sm n k d) → PyData.leavesShortAll 30 ds = true ∧ PyData.showableAll ds = true ∧ PyData.bulkAll ds ≤ (n + 1) * ds.length ∧ PyData.depthAll ds ≤ k
  | [], _ => ⟨rfl, rfl, Nat.zero_le _, Nat.zero_le _⟩
  | d :: ds, h => by
    obtain ⟨h1, h2, h3, h4⟩ := sm_all ds fun e he => h e (List.mem_cons_of_mem _ he)
    have hd := h d (List.mem_cons_self ..)
    refine ⟨?_, ?_, ?_, ?_⟩
    · simp only [PyData.leavesShortAll, hd.a, h1, Bool.and_self]
    · simp only [PyData.showableAll, hd.b, h2, Bool.and_self]
    · simp only [PyData.bulkAll, List.length_cons]
      have := hd.c
      rw [Nat.mul_succ]
      omega
    · simp only [PyData.depthAll]
      exact Nat.max_le.mpr ⟨hd.d, h4⟩
theorem sm_list {n k : Nat} {ds : List PyData} (h : ∀ d ∈ ds, Sm n k d) : Sm ((n + 1) * ds.length) (k + 1) (.list ds) := by
  obtain ⟨h1, h2, h3, h4⟩ := sm_all ds h
  exact ⟨by simp only [PyData.leavesShort, h1], by simp only [PyData.showable, h2], by simpa only [PyData.bulk] using h3, by simp only [PyData.depth]; omega⟩
theorem sm_tup {n k : Nat} {ds : List PyData} (h : ∀ d ∈ ds, Sm n k d) : Sm ((n + 1) * ds.length) (k + 1) (.tuple ds) := by
  obtain ⟨h1, h2, h3, h4⟩ := sm_all ds h
  exact ⟨by simp only [PyData.leavesShort, h1], by simp only [PyData.showable, h2], by simpa only [PyData.bulk] using h3, by simp only [PyData.depth]; omega⟩
theorem sm_bool (b : Bool) : Sm 0 0 (.bool b) := ⟨by simp only [PyData.leavesShort], by simp only [PyData.showable], by simp only [PyData.bulk]; exact Nat.le_refl _, by simp only [PyData.depth]; exact Nat.le_refl _⟩
theorem sm_int {i : Int} (h : 0 ≤ i) (h2 : i < 1048576) : Sm 0 0 (.int i) := by
  refine ⟨?_, ?_, by simp only [PyData.bulk]; exact Nat.le_refl _, by simp only [PyData.depth]; exact Nat.le_refl _⟩
  · simp only [PyData.leavesShort, decide_eq_true_eq]
    have e : PyData.shown (.int i) = S (numL i.toNat) := by
      rw [← num_text h]
      rfl
    rw [e, S_len]
    have := numL_len (n := i.toNat) (k := 10) (by decide) (by omega)
    omega
  · simp only [PyData.showable, decide_eq_true_eq]
    exact small_log h h2
theorem sm_str {l : List Nat} (h : asc l) : Sm l.length 0 (.str (S l)) := by
  refine ⟨?_, by simp only [PyData.showable], ?_, by simp only [PyData.depth]; exact Nat.le_refl _⟩
  · simp only [PyData.leavesShort, List.all_eq_true, decide_eq_true_eq]
    intro c hc
    have := h c hc
    omega
  · simp only [PyData.bulk]
    show l.toArray.size ≤ l.length
    simp
theorem Sm.shown {n k : Nat} {d : PyData} (h : Sm n k d) (hn : n ≤ 500000) : d.shown.length ≤ sizeLine := by
  have z := PyData.shown_le_bulk 30 (by decide) d h.a
  have := h.c
  rw [sizeLine_eq]
  omega
theorem sm_cnt {c : Cnt} (v : Valid c) : Sm 30000 2 (cntD c) := by
  have z : Sm ((2 + 1) * (c.map fun p : Int × Int => PyData.tuple [.int p.1, .int p.2]).length) 2 (cntD c) := sm_tup fun d hd => by
    obtain ⟨p, hp, rfl⟩ := List.mem_map.mp hd
    obtain ⟨h1, h2⟩ := v.1 p hp
    obtain ⟨a1, a2, _⟩ := isPr_iff.mp h1
    obtain ⟨b1, b2⟩ := isPw_iff.mp h2
    exact sm_tup (n := 0) (k := 0) (ds := [.int p.1, .int p.2]) fun e he => by
      rcases List.mem_cons.mp he with z | z
      · rw [z]; exact sm_int (by omega) (by omega)
      · rw [List.mem_singleton.mp z]; exact sm_int (by omega) (by omega)
  refine z.mono ?_ (Nat.le_refl _)
  rw [List.length_map]
  have := valid_len v
  omega
def dueD (r : Except Nat Cnt) : PyData := match r with
  | .ok c => .tuple [.str "told", cntD c]
  | .error k => .tuple [.str "text", .int 0, .int (k : Nat)]
theorem DueAt.dp {K : PySem.W.Frag} {H : Hp} {p : Addr} {r : Except Nat Cnt} (h : DueAt H p r) : Dp K H (.ref p) (dueD r) := by
  cases r with
  | ok c =>
    obtain ⟨b, h1, h2⟩ := h
    exact .tup (SqT.of h1) (.cons (.str _) (.cons h2.dp .nil))
  | error k => exact .tup (SqT.of h) (.cons (.str _) (.cons (.int 0) (.cons (.int _) .nil)))
theorem DueAt.kt {H H' : Hp} {p : Addr} {r : Except Nat Cnt} (h : DueAt H p r) (k : KT H H') : DueAt H' p r := by
  cases r with
  | ok c =>
    obtain ⟨b, h1, h2⟩ := h
    exact ⟨b, k _ _ h1, h2.kt k⟩
  | error j => exact k _ _ h
theorem asc_of {l : List Nat} (h : (l.all fun x => decide (x < 128)) = true) : asc l := fun d hd => of_decide_eq_true (List.all_eq_true.mp h d hd)
theorem sm_due {r : Except Nat Cnt} (h : ∀ c, r = .ok c → Valid c) (hk : ∀ k, r = .error k → k < 1000000) : Sm 100000 3 (dueD r) := by
  cases r with
  | ok c =>
    refine (sm_tup (n := 30000) (k := 2) (ds := [.str "told", cntD c]) fun e he => ?_).mono (show (30000 + 1) * 2 ≤ 100000 by decide) (Nat.le_refl _)
    rcases List.mem_cons.mp he with z | z
    · rw [z]
      exact (sm_str (l := [116, 111, 108, 100]) (asc_of (by decide))).mono (by decide) (by decide)
    · rw [List.mem_singleton.mp z]
      exact sm_cnt (h c rfl)
  | error k =>
    have := hk k rfl
    refine (sm_tup (n := 4) (k := 2) (ds := [.str "text", .int 0, .int (k : Nat)]) fun e he => ?_).mono (by show 15 ≤ 100000; decide) (Nat.le_refl _)
    rcases List.mem_cons.mp he with z | z
    · rw [z]
      exact (sm_str (l := [116, 101, 120, 116]) (asc_of (by decide))).mono (by decide) (by decide)
    rcases List.mem_cons.mp z with z | z
    · rw [z]
      exact (sm_int (by decide) (by decide)).mono (by decide) (by decide)
    · rw [List.mem_singleton.mp z]
      exact (sm_int (by omega) (by omega)).mono (by decide) (by decide)
/-- where reading stops, there is a word -/
theorem go_err : ∀ (ws : List (List Nat)) (k : Nat) (f : Cnt) (j : Nat), go k f ws = .error j → j < k + ws.length
  | [], k, f, j, h => by cases h
  | w :: ws, k, f, j, h => by
    unfold go at h
    rw [List.length_cons]
    cases e : pairO w (lastP f) with
    | none =>
      rw [e] at h
      have z : k = j := Except.error.inj h
      omega
    | some p =>
      rw [e] at h
      have := go_err ws (k + 1) (f ++ [p]) j h
      omega
theorem read_err {l : List Nat} {j : Nat} (hl : l.length ≤ 900000) (h : readL l = .error j) : j < 1000000 := by
  unfold readL readW at h
  have z := (spl_bound 32 l []).1
  split at h
  · split at h
    · cases h
    · have e : 1 = j := Except.error.inj h
      omega
  · have := go_err _ _ _ _ h
    omega
theorem due_sm {l : List Nat} (hl : l.length ≤ 900000) : Sm 100000 3 (dueD (readL l)) := sm_due (fun c e => (read_ok e).1) fun k e => read_err hl e
section
variable {P : Program} {w : World} {K : PySem.W.Frag} {mg : Str → Option Value} {base : Heap}
/-! ### _law_same, of equal data -/
theorem scSa : FnScope ["_law_told", "_law_due"] ["_law_told", "_law_due"] (defScope (top 45)) := ⟨rfl, rfl, rfl, by decide +kernel, rfl, by decide +kernel, by decide +kernel⟩
def spSa (K : PySem.W.Frag) : Sp := fun vs H Q _ => ∃ (a b : Addr) (d : PyData) (n k : Nat), vs = [.ref a, .ref b] ∧ Dp K H (.ref a) d ∧ Dp K H (.ref b) d ∧ Sm n k d ∧ n ≤ 500000 ∧ k ≤ 32 ∧ Q (.bl true) H
theorem ok_Sa (T : Fx K mg) : CalG P w K mg base 1 "_law_same" (spSa K) := by
  refine calG_of T 23 rfl scSa (fun vs H Q E h => by obtain ⟨a, b, d, n, k, rfl, _⟩ := h; rfl) (fun _ _ _ _ _ _ us hl => match us, hl with | [_, _], _ => rfl) (fun cdv A outer s H vs Q E hg hr _ _ h => ⟨_,
    pss_one (ps_ret (pe_cmpR op_eq (pe_callB (cr_reprD hg hr.units) (by rfl) T.n_repr (by decide +kernel) (pa_cons (pv 0) pa_nil)) (pe_callB (cr_reprD hg hr.units) (by rfl) T.n_repr (by decide +kernel) (pa_cons (pv 1) pa_nil)) (nomark _))), ?_⟩)
  obtain ⟨a, b, d, n, k, rfl, h1, h2, hs, hn, hk, q⟩ := h
  refine ⟨_, rfl, a, d, rfl, h1, hs.b, Nat.le_trans hs.d hk, hs.shown hn, _, rfl, b, d, rfl, h2, hs.b, Nat.le_trans hs.d hk, hs.shown hn, rfl, ?_⟩
  rw [decide_eq_true rfl]
  exact q
end
end K12
namespace K12
open PySem PySem.Spec PyProof.Rows L2 TL SX
def qL : Str := (envOfC "_law_is_right" (defScope (top 55)) 0 0 .none).qual ++ "<lambda>"
abbrev Tb (Pt : Addr) : List (Addr × Str) := [(Pt, qL)]
abbrev cR (K : PySem.W.Frag) : Addr := (He.cT K ("_law_is_right", none)).1
abbrev pR (K : PySem.W.Frag) : Addr := (He.cT K ("_law_is_right", none)).2
theorem kt_ext {H H' : Hp} (h : LamX.ExtN H H') : KT H H' := fun b xs e => h b _ e fun ps z => by cases z
theorem ext_same {H H' : Hp} (h : Same H H') : LamX.ExtN H H' := fun b o e _ => h b o e
/-- what is heard of reading l -/
theorem hrd_told {K : PySem.W.Frag} {H : Hp} {l : List Nat} {Q : VK} (tl : XK → Hp → VK → Prop) (ht : ∀ E H' Q', spCR K [.str (S l)] H' Q' E → tl E H' Q') (hl : l.length ≤ 900000) (q : ∀ H' p, Same H H' → DueAt H' p (readL l) → Q (.ref p) H') : THrd K tl H Q := by
  refine ht _ _ _ ⟨l, rfl, hl, ?_⟩
  cases e : readL l with
  | ok c =>
    refine fun H' p s hc => ⟨by show 2 ≤ sizeLine; rw [sizeLine_eq]; decide, fun p' hp' => ?_⟩
    refine q _ p' (s.trans (same_new hp')) ?_
    rw [e]
    exact ⟨p, upd_same, hc.kt (.same (same_new hp'))⟩
  | error k =>
    refine fun H' d s hd => ⟨rfl, d, _, _, rfl, hd, fun H'' p s2 hp => ?_⟩
    refine q H'' p (s.trans s2) ?_
    rw [e]
    exact hp
section
variable {P : Program} {w : World} {K : PySem.W.Frag} {mg : Str → Option Value} {base : Heap}
theorem scRi : FnScope ["_law_line_here", "_law_due"] ["_law_line_here"] (defScope (top 55)) := ⟨rfl, rfl, rfl, by decide +kernel, rfl, by decide +kernel, by decide +kernel⟩
def spRi (Pt : Addr) : Sp := fun vs H Q _ => ∃ l : List Nat, vs = [.str (S l)] ∧ l.length ≤ 20000 ∧ asc l ∧ LamX.Tabs (Tb Pt) H ∧ ∀ H', LamX.ExtN H H' → LamX.Tabs (Tb Pt) H' → Q (.bl true) H'
theorem ok_Ri (T : Fx K mg) (U : HeT K) (PT : PrT P) (TB : LamX.TabB base mg (cR K) (pR K)) : CalG P w K mg base 10 "_law_is_right" (spRi (pR K)) := by
  obtain ⟨fdH, FH, hmH⟩ := T.def_ 24 (x := "_law_heard") (n := 46) (dfl := [])
  have kH := FH.kp
  have bH := FunD.bindsN (ps := ["_law_ask"]) FH fun _ _ _ _ _ _ us hl => match us, hl with | [_], _ => rfl
  obtain ⟨oc, od, dV, kV, doc, pm, an, cdH, ct, osl, rfl, lkH, hcH, _, _⟩ := FH.ex
  obtain ⟨fdR, FR, hmR⟩ := T.def_ 33 (x := "_law_is_right") (n := 55) (dfl := [])
  refine calG_of T 33 rfl scRi (fun vs H Q E h => by obtain ⟨l, rfl, _⟩ := h; rfl) (fun _ _ _ _ _ _ us hl => match us, hl with | [_], _ => rfl) (fun cdv A outer s H vs Q E hg hr hcd hcdv h => ?_)
  have ecd : cdv = .ref (cR K) := by
    obtain ⟨oc2, od2, dV2, kV2, doc2, pm2, an2, cd2, ct2, osl2, rfl, lk2, hc2, _, _⟩ := FR.ex
    have e1 := hcdv _ lk2 _ rfl
    obtain ⟨c, ec⟩ := He.codeIn_ref hcd
    have e2 : He.codeOf K ("_law_is_right", none) = c := He.codeOf_eq (p := ("_law_is_right", none)) lk2 (e1.trans ec)
    rw [ec, ← e2]
    rfl
  have tbm : (pR K, qL) ∈ Tb (pR K) := List.mem_singleton.mpr rfl
  have tbu : ∀ p ∈ Tb (pR K), p.1 = pR K → p.2 = qL := fun p hp _ => by rw [List.mem_singleton.mp hp]
  refine ⟨_,
    pss_cons (ps_set (i := 1) scRi.nd rfl (.inl rfl) (pe_c0 (ok_LR T) hr (by decide) rfl (pa_cons (pv 0) pa_nil)))
    (pss_cons (ps_if (pt_not (pt_val (pe_cg (ok_Sa T) hg hr (by decide) rfl (pa_cons (pe_lst (pa_cons
        (LamX.pe_lamcall (T := Tb (pR K)) (TT := THrd K) (k := 7) (t := fun E => tCall (spCR K) [] E (tCons (tVar 0) tNil)) rfl hmH kH lkH hcH bH scHe rfl (.inl rfl) (heard_gives T U (hr.mono (by decide))) TB ecd tbm tbu hr (LamX.lamS_by (sc := defScope (top 55)) (by decide +kernel)) rfl (fun _ _ _ _ _ => rfl)
          (fun A outer s H E f c' hr2 => pe_cx (E := E) (ok_CR T U.it PT).1 hr2 (by decide) (passes_call (takes_of rfl rfl rfl rfl) (fun _ _ _ _ h => h)) rfl (pa_cons (pv 0) pa_nil)))
        (pa_cons
        (LamX.pe_lamcall (T := Tb (pR K)) (TT := THrd K) (k := 7) (t := fun E => tCallK0 (spCR K) E (tCons (tVar 0) tNil)) rfl hmH kH lkH hcH bH scHe rfl (.inl rfl) (heard_gives T U (hr.mono (by decide))) TB ecd tbm tbu hr (LamX.lamS_by (sc := defScope (top 55)) (by decide +kernel)) rfl (fun _ _ _ _ _ => rfl)
          (fun A outer s H E f c' hr2 => pe_ck (E := E) (ok_CR T U.it PT).2 hr2 (by decide) rfl (passes_call (takes_of rfl rfl rfl rfl) (fun _ _ _ _ h => h)) (pk_cons (pv 0) pk_nil))) pa_nil)))
        (pa_cons (pe_lst (pa_cons (pv 1) (pa_cons (pv 1) pa_nil))) pa_nil))))) pss_never pss_nil)
    (pss_cons (ps_if (pt_cmpR op_ne (pe_ix ix_tup (pv 1) pe_int (fun _ _ => rfl)) pe_str (nomark _)) (pss_one (ps_ret pe_bl)) pss_nil)
    (pss_one (ps_ret (pe_cg (ok_Sa T) hg hr (by decide) rfl (pa_cons (pe_lst (pa_cons (pe_c0 (ok_IC T) hr (by decide) rfl (pa_cons (pe_ix ix_tup (pv 1) pe_int (fun _ _ => rfl)) pa_nil))
        (pa_cons (pe_c0 (ok_CT T).1 hr (by decide) rfl (pa_cons (pe_ix ix_tup (pv 1) pe_int (fun _ _ => rfl)) pa_nil))
        (pa_cons (pe_ck (ok_CT T).2 hr (by decide) rfl pass0 (pk_cons (pe_ix ix_tup (pv 1) pe_int (fun _ _ => rfl)) pk_nil)) pa_nil))))
      (pa_cons (pe_lst (pa_cons pe_bl (pa_cons (pv 0) (pa_cons (pv 0) pa_nil)))) pa_nil))))))), ?_⟩
  obtain ⟨l, rfl, hl, hasc, hT, q⟩ := h
  have z2 : 2 ≤ sizeLine := by rw [sizeLine_eq]; decide
  have z3 : 3 ≤ sizeLine := by rw [sizeLine_eq]; decide
  refine ⟨_, rfl, l, rfl, by omega, hasc, fun H1 p s1 hdue => ?_⟩
  have hT1 := hT.ext s1
  refine ⟨hT1, fun H1a x1 t1 => hrd_told (l := l) _ (fun E' H' Q' h' => ⟨_, rfl, h'⟩) (by omega) fun H2 p1 s2 hd1 => ?_⟩
  have e2 : LamX.ExtN H1 H2 := x1.trans (ext_same s2)
  have t2 := t1.ext s2
  refine ⟨t2, fun H2a x2 t2a => hrd_told (l := l) _ (fun E' H' Q' h' => ⟨_, rfl, h'⟩) (by omega) fun H3 p2 s3 hd2 => ?_⟩
  have e3 : LamX.ExtN H2 H3 := x2.trans (ext_same s3)
  have t3 := t2a.ext s3
  refine ⟨z2, fun o1 ho1 => ⟨_, rfl, _, rfl, z2, fun o2 ho2 => ?_⟩⟩
  have s4 := same_new (o := .lst [.ref p1, .ref p2]) ho1
  have s5 := same_new (o := .lst [.ref p, .ref p]) ho2
  have du := (hdue.kt (kt_ext (e2.trans e3))).kt (.same (s4.trans s5))
  have d1 := (hd1.kt (kt_ext e3)).kt (.same (s4.trans s5))
  have d2 := hd2.kt (.same (s4.trans s5))
  have l1 := s5 _ _ (show (upd H3 o1 (.lst [.ref p1, .ref p2])) o1 = some (.lst [.ref p1, .ref p2]) from upd_same)
  have l2 : (upd (upd H3 o1 (.lst [.ref p1, .ref p2])) o2 (.lst [.ref p, .ref p])) o2 = some (.lst [.ref p, .ref p]) := upd_same
  have eA : LamX.ExtN H (upd (upd H3 o1 (.lst [.ref p1, .ref p2])) o2 (.lst [.ref p, .ref p])) := ((ext_same s1).trans (e2.trans e3)).trans (ext_same (s4.trans s5))
  have tA := t3.ext (s4.trans s5)
  generalize upd (upd H3 o1 (.lst [.ref p1, .ref p2])) o2 (.lst [.ref p, .ref p]) = H4 at du d1 d2 l1 l2 eA tA
  have sd : Sm 100000 3 (dueD (readL l)) := due_sm (by omega)
  refine ⟨o1, o2, .list [dueD (readL l), dueD (readL l)], (100000 + 1) * 2, 3 + 1, rfl, .lst (SqL.of l1) (.cons d1.dp (.cons d2.dp .nil)), .lst (SqL.of l2) (.cons du.dp (.cons du.dp .nil)), sm_list (ds := [dueD (readL l), dueD (readL l)]) (fun d hd => ?_), by decide, by decide, true, rfl, iteF ?_⟩
  · rcases List.mem_cons.mp hd with z | z
    · rw [z]; exact sd
    · rw [List.mem_singleton.mp z]; exact sd
  cases er : readL l with
  | error k =>
    rw [er] at du
    have du' : H4 p = some (.tup [.str "text", .int 0, .int (k : Nat)]) := du
    refine ⟨_, rfl, _, _, _, .str "text", rfl, rfl, SqT.of du', atI_nat (j := 0) rfl, rfl, _, rfl, ?_⟩
    rw [decide_eq_false (show ¬ (V.str "text" = V.str "told") from fun z => absurd (V.str.inj z) (by decide))]
    exact iteT (q _ eA tA)
  | ok c =>
    rw [er] at du
    obtain ⟨b, du1, du2⟩ := du
    obtain ⟨hv, hre⟩ := read_ok er
    refine ⟨_, rfl, _, _, _, .str "told", rfl, rfl, SqT.of du1, atI_nat (j := 0) rfl, rfl, _, rfl, ?_⟩
    rw [decide_eq_true (show V.str "told" = V.str "told" from rfl)]
    refine iteF ?_
    refine ⟨_, rfl, _, _, _, .ref b, rfl, rfl, SqT.of du1, atI_nat (j := 1) rfl, b, c, rfl, du2, hv, fun H5 s6 => ?_⟩
    refine ⟨_, rfl, _, _, _, .ref b, rfl, rfl, SqT.of (s6 _ _ du1), atI_nat (j := 1) rfl, b, c, rfl, du2.kt (.same s6), hv, fun H6 s7 => ?_⟩
    have s67 := s6.trans s7
    refine ⟨_, rfl, _, _, _, .ref b, rfl, rfl, SqT.of (s67 _ _ du1), atI_nat (j := 1) rfl, b, c, rfl, du2.kt (.same s67), hv, fun H7 s8 => ?_⟩
    have s68 := s67.trans s8
    rw [hre]
    refine ⟨z3, fun o3 ho3 => ⟨_, rfl, _, rfl, z3, fun o4 ho4 => ?_⟩⟩
    have sA := same_new (o := .lst [.bl true, .str (S l), .str (S l)]) ho3
    have sB := same_new (o := .lst [.bl true, .str (S l), .str (S l)]) ho4
    have m1 := sB _ _ (show (upd H7 o3 (.lst [.bl true, .str (S l), .str (S l)])) o3 = some (.lst [.bl true, .str (S l), .str (S l)]) from upd_same)
    have da : ∀ {H' : Hp}, DpAll K H' [V.bl true, .str (S l), .str (S l)] [PyData.bool true, .str (S l), .str (S l)] := .cons (.bl true) (.cons (.str _) (.cons (.str _) .nil))
    refine ⟨o3, o4, .list [.bool true, .str (S l), .str (S l)], (20000 + 1) * 3, 0 + 1, rfl, .lst (SqL.of m1) da, .lst (SqL.of upd_same) da, sm_list (ds := [.bool true, .str (S l), .str (S l)]) (fun d hd => ?_), by decide, by decide, ?_⟩
    · rcases List.mem_cons.mp hd with z | z
      · rw [z]; exact (sm_bool true).mono (by decide) (by decide)
      rcases List.mem_cons.mp z with z | z
      · rw [z]; exact (sm_str hasc).mono hl (Nat.le_refl _)
      · rw [List.mem_singleton.mp z]; exact (sm_str hasc).mono hl (Nat.le_refl _)
    · have sAB := s68.trans (sA.trans sB)
      exact q _ (eA.trans (ext_same sAB)) (tA.ext sAB)
end
end K12
namespace K12
open PySem PySem.Spec PyProof.Rows L2 TL SX
theorem pass_no {X : Cx} : Passes (L2.CX X.prog X.w) X (fun _ _ _ => False) := fun pins σ H s e s' I c => by
  obtain ⟨_, _, _, _, _, _, _, _, _, _, _, _, z⟩ := c
  exact z.elim
theorem tabs_but {Pt fd : Addr} {H H' : Hp} {kvs : List (Key × V)} (t : LamX.Tabs (Tb Pt) H) (hk : H fd = some (.dK kvs)) (b : But fd H H') : LamX.Tabs (Tb Pt) H' := fun p hp => by
  obtain ⟨ps, h1, h2, h3⟩ := t p hp
  refine ⟨ps, b _ _ (fun z => by rw [z, hk] at h1; cases h1) h1, h2, fun pos cv hc => ?_⟩
  obtain ⟨c, e1, e2⟩ := h3 pos cv hc
  refine ⟨c, e1, b _ _ (fun z => ?_) e2⟩
  rw [z, hk] at e2
  have y : HO.dK kvs = HO.ext _ := Option.some.inj e2
  cases y
theorem FeedAt.ext {H H' : Hp} {fd cl : Addr} (h : FeedAt H fd cl) (s : LamX.ExtN H H') : FeedAt H' fd cl := by
  obtain ⟨ns, nx, lf, dr, h1, h2⟩ := h
  exact ⟨ns, nx, lf, dr, s _ _ h1 (fun ps z => by cases z), s _ _ h2 (fun ps z => by cases z)⟩
theorem asc_num (n : Nat) : asc (numL n) := fun c hc => by
  have := numL_digits n c hc
  omega
theorem asc_word (p : Int × Int) : asc (wordP p) := asc_app (asc_num _) fun c hc => by
  rcases List.mem_cons.mp hc with z | z
  · rw [z]
    decide
  · exact asc_num _ c z
theorem asc_render (c : Cnt) : asc (render c) := by
  unfold render
  by_cases h : c = []
  · rw [if_pos h]
    exact asc_of (by decide)
  · rw [if_neg h]
    refine asc_join fun x hx => ?_
    obtain ⟨p, _, rfl⟩ := List.mem_map.mp hx
    exact asc_word p
theorem tot_words : ∀ c : Cnt, (∀ p ∈ c, okP p) → tot (c.map wordP) ≤ 10 * c.length
  | [], _ => Nat.zero_le _
  | p :: c, h => by
    rw [List.map_cons, tot_cons, List.length_cons]
    have h1 := len_word (h p (List.mem_cons_self ..))
    have h2 := tot_words c fun q hq => h q (List.mem_cons_of_mem _ hq)
    omega
theorem len_render {c : Cnt} (v : Valid c) (h : c.length ≤ 11) : (render c).length ≤ 200 := by
  unfold render
  by_cases h0 : c = []
  · rw [if_pos h0]
    decide
  · rw [if_neg h0]
    have h1 := len_join 32 (c.map wordP)
    have h2 := tot_words c v.1
    omega
def bnd : Nat → Nat
  | 0 => 200
  | j + 1 => 3 * bnd j + 200
section
variable {P : Program} {w : World} {K : PySem.W.Frag} {mg : Str → Option Value} {base : Heap}
theorem scLaw : FnScope ["_law_script", "_law_feed_here", "_law_lap", "_law_heap_here", "_law_line_here", "_law_turn", "_law_late", "_law_many"] ["_law_script"] (defScope (top 56)) := ⟨rfl, rfl, rfl, by decide +kernel, rfl, by decide +kernel, by decide +kernel⟩
def spLaw (K : PySem.W.Frag) (Pt : Addr) : Sp := fun vs H Q _ => ∃ (a : Addr) (ns : List Int), vs = [.ref a] ∧ SqL K H a (ns.map V.int) ∧ ns.length ≤ 100000 ∧ LamX.Tabs (Tb Pt) H ∧ ∀ H', Q (.bl true) H'
theorem ok_Law {fd : FuncData} (T : Fx K mg) (U : HeT K) (PT : PrT P) (F : Dff K "law" 56 [] fd) (TB : LamX.TabB base mg (cR K) (pR K)) : FnG P w K mg base CX0 11 (He.ga K "law") fd ["_law_script"] (spLaw K (pR K)) := by
  refine fnG_of F scLaw (fun vs H Q E h => by obtain ⟨a, ns, rfl, _⟩ := h; rfl) (fun cdv A outer s H vs Q E hg hr _ _ h => ⟨_,
    pss_cons (ps_set (i := 1) scLaw.nd rfl (.inl rfl) (pe_c0 (ok_Fe T) hr (by decide) rfl (pa_cons (pv 0) pa_nil)))
    (pss_cons (ps_for PassesOwn.never rfl (pi_range1 (by rfl) T.n_range (pa_cons pe_int pa_nil)) (pg_name (i := 2) scLaw.nd rfl (.inl rfl))
      (pss_cons (ps_set (i := 3) scLaw.nd rfl (.inl rfl) (pe_c0 (ok_Hp T) hr (by decide) rfl (pa_cons (pv 1) pa_nil)))
      (pss_cons (ps_set (i := 4) scLaw.nd rfl (.inl rfl) (pe_c0 (ok_LL T) hr (by decide) rfl (pa_cons (pv 3) pa_nil)))
      (pss_cons (ps_if (PW.pt (pw_or (pt_not (pt_val (pe_cg (ok_Sa T) hg hr (by decide) rfl (pa_cons (pe_lst (pa_cons (pe_c0 (ok_CT T).1 hr (by decide) rfl (pa_cons (pv 3) pa_nil)) (pa_cons (pe_cx (E := fun _ _ _ => False) (ok_CR T U.it PT).1 hr (by decide) pass_no rfl (pa_cons (pv 4) pa_nil)) pa_nil)))
            (pa_cons (pe_lst (pa_cons (pv 4) (pa_cons (pv 3) pa_nil))) pa_nil)))))
          (pw_or1 (pt_not (pt_val (pe_cg (ok_Ri T U PT TB) hg hr (by decide) rfl (pa_cons (pv 4) pa_nil))))))) pss_never pss_nil)
      (pss_one (ps_for PassesOwn.never rfl (pi_range1 (by rfl) T.n_range (pa_cons pe_int pa_nil)) (pg_name (i := 5) scLaw.nd rfl (.inl rfl))
        (pss_cons (ps_set (i := 6) scLaw.nd rfl (.inl rfl) (pv 4))
        (pss_one (ps_for PassesOwn.never rfl (pi_range1 (by rfl) T.n_range (pa_cons (pe_op op_add pe_int (pe_c0 (ok_Dr T) hr (by decide) rfl (pa_cons (pv 1) (pa_cons pe_int pa_nil)))) pa_nil)) (pg_name (i := 7) scLaw.nd rfl (.inl rfl))
          (pss_cons (ps_set (i := 6) scLaw.nd rfl (.inl rfl) (pe_c0 (ok_Spo T) hr (by decide) rfl (pa_cons (pv 1) (pa_cons (pv 6) pa_nil))))
          (pss_one (ps_if (pt_not (pt_val (pe_cg (ok_Ri T U PT TB) hg hr (by decide) rfl (pa_cons (pv 6) pa_nil)))) pss_never pss_nil))))))))))))
    (pss_one (ps_ret pe_bl))), ?_⟩)
  obtain ⟨a, ns, rfl, ha, hl, hT, q⟩ := h
  refine ⟨_, rfl, a, ns, rfl, ha, hl, fun H1 fd cl s1 hf hfd => ?_⟩
  refine ⟨9, rfl, by decide, by decide, ?_⟩
  refine for_range (lo := 0) (n := 9) (fun i σ H' => (∃ s2 s3 s4 s5 s6 s7, σ = [some (.ref a), some (.ref fd), s2, s3, s4, s5, s6, s7]) ∧ FeedAt H' fd cl ∧ LamX.Tabs (Tb (pR K)) H') ⟨⟨_, _, _, _, _, _, rfl⟩, hf, hT.ext s1⟩ (fun i σ H2 hi ⟨⟨s2, s3, s4, s5, s6, s7, es⟩, hf2, hT2⟩ => ?_) (fun σ H2 _ => q H2)
  subst es
  obtain ⟨kv2, hk2⟩ := hf2.dk
  refine ⟨_, rfl, fd, cl, rfl, hf2, fun H3 hp c hf3 b3 hc hv hcl => ?_⟩
  have hT3 := tabs_but hT2 hk2 b3
  refine ⟨_, rfl, hp, c, rfl, hc, hv, fun H4 s4 => ?_⟩
  have hc4 := hc.kt (.same s4)
  have hla := asc_render c
  have hll := len_render hv hcl
  refine ⟨_, rfl, hp, c, rfl, hc4, hv, fun H5 s5 => ?_⟩
  refine ⟨_, rfl, render c, rfl, by omega, ?_⟩
  rw [read_render hv]
  refine fun H6 p s6 hcp => ?_
  refine ⟨by show 2 ≤ sizeLine; rw [sizeLine_eq]; decide, fun o1 ho1 => ⟨_, rfl, _, rfl, by show 2 ≤ sizeLine; rw [sizeLine_eq]; decide, fun o2 ho2 => ?_⟩⟩
  have t1 := same_new (o := .lst [.str (S (render c)), .ref p]) ho1
  have t2 := same_new (o := .lst [.str (S (render c)), .ref hp]) ho2
  have m1 := t2 _ _ (show (upd H6 o1 (.lst [.str (S (render c)), .ref p])) o1 = some (.lst [.str (S (render c)), .ref p]) from upd_same)
  have m2 : (upd (upd H6 o1 (.lst [.str (S (render c)), .ref p])) o2 (.lst [.str (S (render c)), .ref hp])) o2 = some (.lst [.str (S (render c)), .ref hp]) := upd_same
  have hcp' := hcp.kt (.same (t1.trans t2))
  have hch' := hc4.kt (.same ((s5.trans s6).trans (t1.trans t2)))
  have sall : Same H3 (upd (upd H6 o1 (.lst [.str (S (render c)), .ref p])) o2 (.lst [.str (S (render c)), .ref hp])) := ((s4.trans s5).trans s6).trans (t1.trans t2)
  have hf7 := hf3.same sall
  have hT7 := hT3.ext sall
  generalize upd (upd H6 o1 (.lst [.str (S (render c)), .ref p])) o2 (.lst [.str (S (render c)), .ref hp]) = H7 at m1 m2 hcp' hch' hf7 hT7
  refine ⟨o1, o2, .list [.str (S (render c)), cntD c], (30000 + 1) * 2, 2 + 1, rfl, .lst (SqL.of m1) (.cons (.str _) (.cons hcp'.dp .nil)), .lst (SqL.of m2) (.cons (.str _) (.cons hch'.dp .nil)), sm_list (ds := [.str (S (render c)), cntD c]) (fun d hd => ?_), by decide, by decide, true, rfl, iteF ?_⟩
  · rcases List.mem_cons.mp hd with z | z
    · rw [z]; exact (sm_str hla).mono (by omega) (by decide)
    · rw [List.mem_singleton.mp z]; exact sm_cnt hv
  refine ⟨_, rfl, render c, rfl, by omega, hla, hT7, fun H8 e8 hT8 => ⟨true, rfl, iteF ?_⟩⟩
  have hf8 := hf7.ext e8
  refine ⟨4, rfl, by decide, by decide, ?_⟩
  refine for_range (lo := 0) (n := 4) (fun i σ H' => (∃ s2 s3 s5 s6 s7, σ = [some (.ref a), some (.ref fd), s2, s3, some (.str (S (render c))), s5, s6, s7]) ∧ FeedAt H' fd cl ∧ LamX.Tabs (Tb (pR K)) H') ⟨⟨_, _, _, _, _, rfl⟩, hf8, hT8⟩ (fun j σ H9 hj ⟨⟨s2, s3, s5, s6, s7, es⟩, hf9, hT9⟩ => ?_) (fun σ H9 ⟨⟨s2, s3, s5, s6, s7, es⟩, hf9, hT9⟩ => ⟨⟨_, _, _, _, _, _, es⟩, hf9, hT9⟩)
  subst es
  obtain ⟨kv9, hk9⟩ := hf9.dk
  refine ⟨_, rfl, _, rfl, fd, cl, 3, rfl, by decide, by decide, hf9, fun H10 r hr0 hr1 hf10 b10 => ⟨_, _, rfl, rfl, 1 + r, rfl, by omega, by omega, ?_⟩⟩
  have hT10 := tabs_but hT9 hk9 b10
  obtain ⟨n, hn⟩ : ∃ n : Nat, (1 + r).toNat = n := ⟨_, rfl⟩
  have hn3 : n ≤ 3 := by omega
  rw [hn]
  refine for_range (lo := 0) (n := n) (fun i σ H' => (∃ s2 s3 s5 m s7, σ = [some (.ref a), some (.ref fd), s2, s3, some (.str (S (render c))), s5, some (.str (S m)), s7] ∧ asc m ∧ m.length ≤ bnd i) ∧ FeedAt H' fd cl ∧ LamX.Tabs (Tb (pR K)) H') ⟨⟨_, _, _, render c, _, rfl, hla, hll⟩, hf10, hT10⟩ (fun k σ H11 hk ⟨⟨s2, s3, s5, m, s7, es, hma, hml⟩, hf11, hT11⟩ => ?_) (fun σ H11 ⟨⟨s2, s3, s5, m, s7, es, _, _⟩, hf11, hT11⟩ => ⟨⟨_, _, _, _, _, es⟩, hf11, hT11⟩)
  subst es
  obtain ⟨kv11, hk11⟩ := hf11.dk
  have hb1 : bnd k ≤ 2600 ∧ bnd (k + 1) = 3 * bnd k + 200 := by
    refine ⟨?_, rfl⟩
    have hk3 : k < 3 := by omega
    have key : ∀ i : Nat, i < 3 → bnd i ≤ 2600 := by decide
    exact key k hk3
  refine ⟨_, rfl, _, rfl, fd, cl, m, rfl, hf11, hma, by omega, fun H12 m2 hf12 b12 ha2 hl2 => ?_⟩
  have hT12 := tabs_but hT11 hk11 b12
  refine ⟨_, rfl, m2, rfl, by omega, ha2, hT12, fun H13 e13 hT13 => ⟨true, rfl, iteF ?_⟩⟩
  exact ⟨⟨_, _, _, m2, _, rfl, ha2, by omega⟩, hf12.ext e13, hT13⟩
end
end K12
/-! the law's call from the outside, for a def that knows that no repr is under way; one table -/
namespace K12
open PySem PySem.Spec PyProof.Rows L2
/-- the script's object -/
abbrev scrO (vs : List Value) : Obj := { cls := .type "list", data := .seq vs.toArray }
/-- an empty table's object -/
abbrev tabO : Obj := { cls := .none, data := .fields #[] }
/-- what is tracked at the start: the table, and the script if the written part lacks it -/
def hp0 (K : PySem.W.Frag) (a pt : Addr) (vs : List Value) (ns : List Int) : Hp := fun b =>
  if b = pt then some (.tbl #[]) else if b = a ∧ K.lookup a = none then some (.frz (scrO vs) (.lst (ns.map V.int))) else none
section
variable {K : PySem.W.Frag} {a pt : Addr} {vs : List Value} {ns : List Int} {h : Heap}
theorem hp0_t : hp0 K a pt vs ns pt = some (.tbl #[]) := if_pos rfl
theorem hp0_n {b : Addr} (h1 : b ≠ pt) (h2 : b = a → K.lookup a ≠ none) : hp0 K a pt vs ns b = none := by
  unfold hp0
  rw [if_neg h1, if_neg fun z => h2 z.1 z.2]
theorem hp0_cases (b : Addr) : (b = pt) ∨ (b = a ∧ b ≠ pt ∧ K.lookup a = none ∧ hp0 K a pt vs ns b = some (.frz (scrO vs) (.lst (ns.map V.int)))) ∨ hp0 K a pt vs ns b = none := by
  by_cases h1 : b = pt
  · exact .inl h1
  · by_cases h2 : b = a ∧ K.lookup a = none
    · refine .inr (.inl ⟨h2.1, h1, h2.2, ?_⟩)
      unfold hp0
      rw [if_neg h1, if_pos h2]
    · refine .inr (.inr ?_)
      unfold hp0
      rw [if_neg h1, if_neg h2]
/-- what is neither a sequence nor an empty record is not tracked -/
theorem hp0_other (ha : h.get? a = some (scrO vs)) (ht : h.get? pt = some tabO) {b : Addr} {o : Obj} (e : h.get? b = some o) (d1 : ∀ its n, o.data ≠ .seq its n) (d2 : o.data ≠ .fields #[]) : hp0 K a pt vs ns b = none := by
  refine hp0_n (fun z => ?_) fun z => ?_
  · rw [z, ht] at e
    exact absurd (congrArg Obj.data (Option.some.inj e)).symm d2
  · rw [z, ha] at e
    exact absurd (congrArg Obj.data (Option.some.inj e)).symm (d1 _ _)
theorem hp0_K (X : K.In h) (nT : K.lookup pt = none) {b : Addr} {o : Obj} (e : K.lookup b = some o) : hp0 K a pt vs ns b = none :=
  hp0_n (fun z => by rw [z, nT] at e; cases e) fun z q => by
    rw [z, q] at e
    cases e
theorem hp0_ns {b : Addr} {m : Str → Option Value} (ha : h.get? a = some (scrO vs)) (ht : h.get? pt = some tabO) (q : h.Ns b m) : (hidT h (hp0 K a pt vs ns)).Ns b m := by
  obtain ⟨o, es, ep, e, d, r⟩ := q
  exact ⟨o, es, ep, hidT_get e (hp0_other ha ht e (fun its n z => by rw [d] at z; cases z) fun z => by rw [d] at z; cases z), d, r⟩
end
theorem law_callG {P : Program} {w : World} {K : PySem.W.Frag} {mg mb : Str → Option Value} {k : Nat} {fa a ct pt : Addr} {fd : FuncData} {x : Str} {sp : Sp} {st : Shared} {vs : List Value} {ns : List Int}
    (X : K.In st.heap) (hG : st.heap.Ns mainGlobals mg) (hB : st.heap.Ns builtinsNs mb) (hbb : ∀ x : Str, x ≠ "__name__" → mb x = bootBuiltins x) (hlim : st.heap.NoLimit) (hgen : st.gens = #[])
    (ht : st.heap.get? pt = some tabO) (nT : K.lookup pt = none) (C : PySem.W.CodeHd st.heap ct pt)
    (hbm : ∃ (bm : Addr) (ob : Obj), mg "__builtins__" = some (.ref bm) ∧ bm ≠ builtinsNs ∧ st.heap.get? bm = some ob ∧ ob.cls = .type "module" ∧ ob.dict = some builtinsNs ∧ ob.data = .plain)
    (ha : st.heap.get? a = some (scrO vs)) (hi : IntsAre vs ns) (hl : ns.length ≤ sizeLine) (hr : Room k callerA)
    (F : ∀ base : Heap, K.In base → base.Ns mainGlobals mg → LamX.TabB base mg ct pt → FnG P w K mg base CX0 k fa fd [x] sp) (hbind : ∀ (s : Shared) (u : Value), BindsTo s fd ⟨[u], []⟩ [(x, u)])
    (hsp : ∀ H : Hp, H pt = some (.tbl #[]) → SqL K H a (ns.map V.int) → sp [.ref a] H (fun v _ => v = .bl true) fun _ _ _ => False) :
    codeAny (model P w) callerA (.call (.ref fa) ⟨[.ref a], []⟩) (fun r s' => r = .ok (.ret (.bool true)) ∧ OldK st.heap s'.heap ∧ s'.os = st.os ∧ AllBare s'.gens) st := by
  have rv := vals_ints hi
  have nap : a ≠ pt := fun z => by
    rw [z, ht] at ha
    have y := congrArg Obj.data (Option.some.inj ha)
    cases y
  have hS : SqL K (hp0 K a pt vs ns) a (ns.map V.int) := by
    cases q : K.lookup a with
    | some o =>
      have y := X a o q
      rw [ha] at y
      cases y
      exact .inr ⟨_, vs.toArray, _, q, rfl, rfl, rfl, by rw [List.size_toArray, hi.length]; exact hl, by simpa using rv⟩
    | none => exact .inl (.inr ⟨scrO vs, by unfold hp0; rw [if_neg nap, if_pos ⟨rfl, q⟩]⟩)
  have hok : HOk P w (hp0 K a pt vs ns) st.heap := fun b u z => by
    rcases hp0_cases (K := K) (a := a) (pt := pt) (vs := vs) (ns := ns) b with c | ⟨c1, c2, c3, c4⟩ | c
    · subst c
      rw [hp0_t] at z
      cases z
      exact ht
    · rw [c4] at z
      cases z
      subst c1
      exact ⟨ha, by rw [List.length_map]; exact hl, vs, _, rv, ha⟩
    · rw [c] at z
      cases z
  have inB : K.In (hidT st.heap (hp0 K a pt vs ns)) := fun b o e => hidT_get (X b o e) (hp0_K X nT e)
  have md : L2.Mod K mg (hidT st.heap (hp0 K a pt vs ns)) := ⟨inB, hp0_ns ha ht hG, ⟨mb, hp0_ns ha ht hB, hbb⟩, by
    obtain ⟨mc, n1, n2⟩ := hlim
    exact ⟨mc, hp0_ns ha ht n1, n2⟩⟩
  have tb : LamX.TabB (hidT st.heap (hp0 K a pt vs ns)) mg ct pt := by
    refine ⟨?_, ?_, fun z => ?_⟩
    · obtain ⟨o, us, file, tf, flags, tg, inF, text, tt, c1, c2, c3, c4, c5⟩ := C
      refine ⟨o, us, file, tf, flags, tg, inF, text, tt, hidT_get c1 (hp0_other ha ht c1 (fun its n y => ?_) fun y => ?_), c2, c3, c4, c5⟩
      · rw [c3] at y
        cases y
      · rw [c3] at y
        cases y
        simp at c4
    · obtain ⟨bm, ob, m1, m2, m3, m4, m5, m6⟩ := hbm
      refine ⟨bm, ob, m1, m2, fun y => ?_, fun y => ?_, hidT_get m3 (hp0_other ha ht m3 (fun its n y => ?_) fun y => ?_), m4, m5, m6⟩
      · obtain ⟨o, es, ep, e, d, _⟩ := hG
        rw [y, e] at m3
        cases m3
        rw [d] at m6
        cases m6
      · rw [y, ht] at m3
        cases m3
        cases m6
      · rw [m6] at y
        cases y
      · rw [m6] at y
        cases y
    · obtain ⟨o, es, ep, e, d, _⟩ := hG
      rw [z, ht] at e
      cases e
      cases d
  have en : Env0 P w K mg (hidT st.heap (hp0 K a pt vs ns)) callerA [] st (hp0 K a pt vs ns) :=
    ⟨rfl, md, fun b o e => of_hidT e, Nat.le_of_eq (hidT_size _ _), trivial, (fun b q => by cases q), hok, .of_eq hgen⟩
  refine codeAny_mono ((F _ inB (hp0_ns ha ht hG) tb).run callerA [] st _ ⟨[.ref a], []⟩ [.ref a] [.ref a] _ _ rfl hr en (hbind st (.ref a)) (.cons rfl .nil) (hsp _ hp0_t hS)) fun r s' got => ?_
  cases r with
  | error er => exact False.elim got
  | ok fl =>
  cases fl with
  | next => exact False.elim got
  | brk => exact False.elim got
  | cont => exact False.elim got
  | ret u =>
    obtain ⟨v, H', os', bare', un, ok', rv', ev⟩ := got
    have ev2 : v = .bl true := ev
    subst ev2
    obtain rfl : u = Value.bool true := rv'
    obtain ⟨more, hmore⟩ := un.tbls pt #[] hp0_t
    have grown : s'.heap.get? pt = some { cls := .none, data := .fields (#[] ++ more) } := ok' pt _ hmore
    have stay : ∀ b o, b ≠ pt → st.heap.get? b = some o → s'.heap.get? b = some o := fun b o nb e => by
      rcases hp0_cases (K := K) (a := a) (pt := pt) (vs := vs) (ns := ns) b with c | ⟨c1, c2, c3, c4⟩ | c
      · exact absurd c nb
      · obtain ⟨y1, _⟩ := hok b _ c4
        obtain ⟨y2, _⟩ := ok' b _ (un.frzs b _ _ c4)
        rw [e] at y1
        cases y1
        exact y2
      · exact un.keep b o e c (fun q => by cases q) (fun q => by cases q)
    refine ⟨rfl, ⟨fun b o e => ?_, fun b o e => ?_⟩, os', bare'⟩
    · by_cases nb : b = pt
      · subst nb
        rw [ht] at e
        cases e
        exact .inr (.inl ⟨(C.tab ht).isCodeTable, rfl, #[], more, rfl, grown⟩)
      · exact .inl (stay b o nb e)
    · by_cases nb : b = pt
      · subst nb
        exact ⟨_, grown⟩
      · exact ⟨o, stay b o nb e⟩
end K12
namespace K12
open PySem PySem.Spec PyProof.Rows L2
theorem run (w : World) : HandSHeadRun.RunEq R (PySem.W.view R.prog [56]) hk ob 4000 loose w := by
  intro os
  kernel_rfl
end K12
namespace K12
open PySem PySem.Spec PyProof.Rows L2
theorem mkD_fd {K : PySem.W.Frag} (c : He.SaysD fa fn K) (i : Nat) (d : He.DefD) (h : fn[i]? = some d) : ∃ fd, FunD K d.name d.qual d.params d.body d.scope (d.dvs K) (d.kws K) (He.fAd K d.at_) fd := c.def_ i h
theorem fact_mem {K : PySem.W.Frag} (c : He.SaysD fa fn K) {f : He.Fa} (h : f ∈ fa) : f.ok K = true := by
  obtain ⟨i, hi⟩ := List.getElem?_of_mem h
  exact c.fact i hi
theorem glo_mem {p : Str × Nat × List He.Dv} (h : p ∈ fnN) : He.Fa.glo p.1 ∈ fa := by
  unfold fa
  exact List.mem_append_left _ (List.mem_append_left _ (List.mem_append_left _ (List.mem_map.mpr ⟨p, h, rfl⟩)))
theorem cls_mem {x : Str} (h : x ∈ clsN) : He.Fa.glo x ∈ fa := by
  unfold fa
  exact List.mem_append_left _ (List.mem_append_left _ (List.mem_append_right _ (List.mem_map.mpr ⟨x, h, rfl⟩)))
theorem free_mem {x : Str} (h : x ∈ freeN) : He.Fa.free x ∈ fa := by
  unfold fa
  exact List.mem_append_left _ (List.mem_append_right _ (List.mem_map.mpr ⟨x, h, rfl⟩))
theorem con_mem {f : He.Fa} (h : f ∈ ([.int "TOP" 10000, .int "MOST_POWER" 6, .int "MOST_DIGITS" 60, .str "MARK" "^", .str "NONE" "1", .str "DIGITS" "0123456789"] : List He.Fa)) : f ∈ fa := by
  unfold fa
  exact List.mem_append_right _ h
theorem fx_of {K : PySem.W.Frag} {h : Heap} {mg : Str → Option Value} (X : K.In h) (G : h.Ns mainGlobals mg) (c : He.SaysD fa fn K) : Fx K mg where
  glo := fun p hp => He.glo_ok X G (fact_mem c (glo_mem hp))
  cls := fun x hx => He.glo_ok X G (fact_mem c (cls_mem hx))
  free := fun x hx => He.free_ok X G (fact_mem c (free_mem hx))
  fd := fun i d hd => mkD_fd c i d hd
  mtop := He.int_ok X G (fact_mem c (con_mem (List.mem_cons_self ..)))
  mpow := He.int_ok X G (fact_mem c (con_mem (List.mem_cons_of_mem _ (List.mem_cons_self ..))))
  mdig := He.int_ok X G (fact_mem c (con_mem (List.mem_cons_of_mem _ (List.mem_cons_of_mem _ (List.mem_cons_self ..)))))
  mark := He.str_ok X G (fact_mem c (con_mem (List.mem_cons_of_mem _ (List.mem_cons_of_mem _ (List.mem_cons_of_mem _ (List.mem_cons_self ..))))))
  mnone := He.str_ok X G (fact_mem c (con_mem (List.mem_cons_of_mem _ (List.mem_cons_of_mem _ (List.mem_cons_of_mem _ (List.mem_cons_of_mem _ (List.mem_cons_self ..)))))))
  digs := He.str_ok X G (fact_mem c (con_mem (List.mem_cons_of_mem _ (List.mem_cons_of_mem _ (List.mem_cons_of_mem _ (List.mem_cons_of_mem _ (List.mem_cons_of_mem _ (List.mem_cons_self ..))))))))
theorem he_of {K : PySem.W.Frag} (h1 : exB K = true) (h2 : initW K = valI) : HeT K := by
  obtain ⟨a, b, c, d, e⟩ := it_head h1 h2
  exact ⟨a, b, c, d, e⟩
theorem pr_of : PrT Pr := ⟨by simp, by decide +kernel⟩
end K12
namespace K12
open PySem PySem.Spec PyProof.Rows L2
theorem room0 : Room 11 callerA := ⟨rfl, by decide, by decide⟩
theorem call_k12 {w : World} {mg mb : Str → Option Value} {fa' a : Addr} {st : Shared} {vs : List Value} {ns : List Int}
    (Y : ∃ K : PySem.W.Frag, K.In st.heap ∧ SaysY fa fn tf exB initW valI st.heap K) (hG : st.heap.Ns mainGlobals mg) (hB : st.heap.Ns builtinsNs mb) (hbb : ∀ x : Str, x ≠ "__name__" → mb x = bootBuiltins x) (hlim : st.heap.NoLimit) (hgen : st.gens = #[])
    (hbm : ∃ (bm : Addr) (ob : Obj), mg "__builtins__" = some (.ref bm) ∧ bm ≠ builtinsNs ∧ st.heap.get? bm = some ob ∧ ob.cls = .type "module" ∧ ob.dict = some builtinsNs ∧ ob.data = .plain)
    (hmg : mg "law" = some (.ref fa')) (ha : st.heap.get? a = some (scrO vs)) (hi : IntsAre vs ns) (hl : ns.length ≤ 63) :
    codeAny (model Pr w) callerA (.call (.ref fa') ⟨[.ref a], []⟩) (fun r s' => r = .ok (.ret (.bool true)) ∧ OldK st.heap s'.heap ∧ s'.os = st.os ∧ AllBare s'.gens) st := by
  obtain ⟨K, X, c⟩ := Y
  have T : Fx K mg := fx_of X hG c.d
  have U : HeT K := he_of c.more c.one
  obtain ⟨fd, F, hm⟩ := T.def_ 34 (x := "law") (n := 56) (dfl := [])
  have e : fa' = He.ga K "law" := by
    rw [hmg] at hm
    exact Value.ref.inj (Option.some.inj hm)
  subst e
  have mem : (("_law_is_right" : Str), (none : Option Str)) ∈ tf := List.mem_singleton.mpr rfl
  have b := FunD.bindsA (ps := ["_law_script"]) F fun _ _ _ _ _ _ us hl => match us, hl with | [_], _ => rfl
  refine law_callG (k := 11) (ct := cR K) (pt := pR K) (fd := fd) (x := "_law_script") (sp := spLaw K (pR K)) X hG hB hbb hlim hgen (c.empty _ mem) (c.out _ mem) (PySem.W.codeHd_of_K X (c.hd _ mem)) hbm ha hi (by rw [sizeLine_eq]; omega) room0 (fun base _ _ TB => ok_Law T U pr_of F TB) (fun s u => b s [u] rfl) fun H hH hS => ?_
  refine ⟨a, ns, rfl, hS, by omega, fun p hp => ?_, fun _ => rfl⟩
  rw [List.mem_singleton.mp hp]
  exact LamX.TabS.nil hH
end K12
open PySem PySem.W PySem.Calls PyProof.Rows
theorem PySem.Challenge.cw_forcedtables_k12_whole_count_texts_read_holds : PySem.Challenge.rw_forcedtables_k12_whole_count_texts_read.Holds := by
  w_on; o_law
  refine HandSHeadRun.head_any (r := OpenLaw.row PySem.Challenge.rw_forcedtables_k12_whole_count_texts_read) (q := view (OpenLaw.row PySem.Challenge.rw_forcedtables_k12_whole_count_texts_read).prog [56]) (H := K12.hk) (ob := K12.ob) (M := 4000) (loose := K12.loose) (d := HandSHeadRun.topDef (OpenLaw.row PySem.Challenge.rw_forcedtables_k12_whole_count_texts_read).prog 56) (kwd := []) K12.ob_eq
    (by kernel_rfl) (fun s => by kernel_rfl) K12.run (by kernel_rfl) (by kernel_rfl) (by kernel_rfl) (by rfl) (by first | assumption | decide +kernel) (by decide +kernel) ⟨rfl, rfl, rfl, rfl, rfl, by decide +kernel⟩ ?hw ?hc
  case hw => w_witness2
  case hc =>
    refine Att.attach_callB (l := PySem.Challenge.rw_forcedtables_k12_whole_count_texts_read) (n := 63) rfl (by kernel_rfl) fun w s₀ s₁ mg mb fa' o pm cd doc a vs ns G Y ho hd hcd hmg0 hobj hints hlen hbits hg => ?_
    have hmg : mg ("law" : PySem.Str) = some (.ref fa') := by
      have e : (HandSHeadRun.topDef (OpenLaw.row PySem.Challenge.rw_forcedtables_k12_whole_count_texts_read).prog 56).name = ("law" : PySem.Str) := by kernel_rfl
      rw [← e]
      exact hmg0
    exact K12.call_k12 (w := w) Y G.T.g G.T.b G.T.builtins G.T.nolimit hg G.T.bmain hmg hobj hints hlen
