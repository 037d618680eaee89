import PyProof.Rows.All
import Wide.All
import OpenK.AllK
import Wide.FinOn
import KE.DataMinMax
import HandS.Base
import HandS.Call
import HandS.List
import HandS.SortKw
import HandS.Words
import HandS.Head0
import HandS.Head1
import HandS.Head2
import HandS.HeadEnd
import HandS.HeadHook1
import HandS.HeadHook2
import HandS.EndTab
import KE.KDictKeyed
import KE.SortData
import HandS.ForMost
import HandS.TupSets
import HandS.HeadWalk
import KE.KDictOf
import HandS.IsInst
import HandS.Walk
import KE.GoesEnum
import HandS.Comp
import HandS.Codes
import HandS.Lambda
import HandS.Nested
import KE.DataFind
import HandS.Deep
import HandS.SetKeys
import HandS.Conv
import HandS.Flow
import HandS.Small
import HandS.TupAny
import PySem.Challenge.RW_slanttiles_k78_whole_a_walk_is_a_run
set_option Elab.async false
set_option linter.all false
set_option maxRecDepth 100000
namespace Z
open PySem PySem.Spec PyProof.Rows L2
section
set_option maxHeartbeats 2000000
open PySem.W (AlikeAll max_list_default maxD_ints)
/-- max(ns, default=d) -/
def mxd (d : Int) : List Int → Int
  | [] => d
  | y :: ys => ys.foldl max y
theorem alikeInts (ns : List Int) : AlikeAll (ns.map PyData.int) := by
  refine ⟨fun x hx y hy => ?_, fun x hx z => ?_⟩
  · obtain ⟨i, _, rfl⟩ := List.mem_map.mp hx
    obtain ⟨j, _, rfl⟩ := List.mem_map.mp hy
    rfl
  · obtain ⟨i, _, rfl⟩ := List.mem_map.mp hx
    cases z
theorem depthInts : ∀ ns : List Int, PyData.depthAll (ns.map PyData.int) = 0
  | [] => rfl
  | _ :: ns => by
    show max 0 (PyData.depthAll (ns.map PyData.int)) = 0
    rw [depthInts ns]
    all_goals rfl
theorem intsAre_at : ∀ {vs : List Value} {ns : List Int}, IntsAre vs ns → ∀ (i : Nat) (v : Value), vs[i]? = some v → ∃ n t, v = .int n t
  | _, _, .nil, i, v, h => by simp at h
  | _, _, .cons n t r, 0, v, h => by
    simp at h
    exact ⟨n, t, h.symm⟩
  | _, _, .cons n t r, i + 1, v, h => intsAre_at r i v (by simpa using h)
section
variable {X : Cx}
def rMaxD (K : PySem.W.Frag) : List V → List V → Hp → VK → Prop := fun vs zs H Q => ∃ (a : Addr) (ns : List Int) (d : Int), vs = [V.ref a] ∧ zs = [V.int d] ∧ SqL K H a (ns.map V.int) ∧ Q (.int (mxd d ns)) H
theorem cr_maxD (hc : X.calm = true) (hu : X.A.units + 1 < cLine) : CallRK X (.builtin "max") [Str.ofString "default"] (rMaxD X.K) := by
  intro pins s σ H vs zs us ws Q I r rz h
  obtain ⟨a, ns, d, rfl, rfl, hs, q⟩ := h
  obtain ⟨its, rv, hl, _⟩ := I.list hs
  obtain rfl := Vals.ref1 r
  obtain ⟨w1, rfl, t, rfl⟩ : ∃ w1, ws = [w1] ∧ ∃ t, w1 = Value.int d t := by
    cases rz with
    | cons a b => cases b; exact ⟨_, rfl, a⟩
  have hi := rv.ints
  refine max_list_default (I.ok.hd hc) hl.isList (PyProof.Rows.IntsAre.reads _ hi) (alikeInts ns) (by rw [depthInts]; exact hu) (fun e h' tk hk => ?_) fun y ys i v h' tk bs e hv rd hk => ?_
  · have e2 : ns = [] := List.map_eq_nil_iff.mp e
    subst e2
    exact ⟨.int d, H, I.kept hk, ⟨t, rfl⟩, q⟩
  · cases ns with
    | nil => cases e
    | cons n ns =>
      cases e
      obtain ⟨m, t', rfl⟩ := intsAre_at hi i v (by simpa using hv)
      rw [maxD_ints] at rd
      cases rd
      exact ⟨.int _, H, I.kept hk, ⟨t', rfl⟩, q⟩
/-- either of several readings -/
theorem pe_exi {ι : Type} {S : ι → Prop} {e : Expr} {t : ι → TE} (h : ∀ i, S i → PE X e (t i)) : PE X e (fun σ H Q => ∃ i, S i ∧ t i σ H Q) :=
  ⟨fun pins s σ H Q I ⟨i, hi, q⟩ => (h i hi).run pins s σ H Q I q⟩
end
open PySem PySem.Spec PyProof.Rows L2
/-! ### C.m(e, ..): a function read off its class -/
structure CFn (K : PySem.W.Frag) (C : Addr) (m : Str) (f : Addr) : Prop where
  ga : PySem.W.specialIn K (.ref C) "__getattribute__" = some (some (.builtin "type.__getattribute__"))
  rd : ∃ mc, PySem.W.readsIn K C mc = true ∧ PySem.W.findCls K (.ref C) mc m = some (.val (.ref f))
  kp : PySem.W.keepIn K (.ref f) = true
def tCFn (C : Addr) (sp : Sp) (E : XK) (to : TE) (t : TA) : TE := fun σ H Q => to σ H fun x H1 => x = .ref C ∧ t σ H1 fun vs H2 => sp vs H2 Q E
theorem pe_cfn {X : Cx} {CX : CXT} {C f : Addr} {fd : FuncData} {ps : List Str} {sp : Sp} {E : XK} {k : Nat} {m : Str} {o e : Expr} {es : List Expr} {to : TE} {t : TA} {pos apos : Pos} {pl : Sem Bool} (c : CFn X.K C m f) (F : FnOk X.prog X.w X.K X.mg X.base CX k f fd ps sp) (hr : Room k X.A) (hb : Binds X.K fd ps []) (hx : Passes CX X E) (he : PE X o to) (ha : PA X (e :: es) t)
    (hst : starEach (e :: es) X.env = (false, eval e X.env) :: starEach es X.env := by rfl) (hpl : (backTo pos (starEach es X.env)).any (·.1) = false := by rfl)
    (ht : eval (.Call (.Attribute o m apos) (e :: es) [] pos) X.env = (do
      let ov ← eval o X.env
      standAt apos.atName
      let (f, first) ← holding [ov] (getMethod ov m pl)
      callWith pos f first (backTo pos (starEach (e :: es) X.env)) (backToKw pos (keywordEach [] X.env))) := by rfl) :
    PE X (.Call (.Attribute o m apos) (e :: es) [] pos) (tCFn C sp E to t) := by
  refine ⟨fun pins s σ H Q I h => ?_⟩
  refine PySem.W.methodCall_KW (pl := pl) (thn (he.run pins s σ H _ I h) fun u s1 ⟨x, H1, I1, rx, ex, q⟩ => ?_) ht
  subst ex
  obtain rfl : u = Value.ref C := rx
  obtain ⟨mc, r1, r2⟩ := c.rd
  refine PySem.W.method_cls I1.kIn c.ga (PySem.W.cls_value I1.kIn r1 r2 rfl ?_)
  have I2 := I1.tok (s1.toks + 1)
  refine PySem.W.callWith_K (first := []) (h₀ := X.base) I2.ok.mod.kin c.kp (thn (ha.run pos pins _ σ H1 _ I2 q) fun us s2 ⟨vs, H2, I3, r, q2⟩ => ⟨I3.kIn, ?_⟩) hst hpl
  exact run_fn (us := us) (vs := vs) F hr hb .nil hx I3 r (by rw [List.append_nil]; exact q2)
end
section
set_option maxHeartbeats 0
def top (i : Nat) : Stmt := PySem.Challenge.pw_slanttiles_k78_whole_a_walk_is_a_run.main.body.getD i (.Pass ⟨0, 0, 0, 0⟩)
inductive Fb where
  | glo (x : Str) (a : Addr)
  | fre (x : Str)
  | int (x : Str) (i : Int)
  | cls (C : Addr)
  | noat (C : Addr) (f : Str)
  | meth (C : Addr) (m : Str) (f : Addr)
  | mkr (C f : Addr)
  | cfn (C : Addr) (m : Str) (f : Addr)
def isV (a : Option (Option Value)) (b : Addr) : Bool := match a with
  | some (some (.ref c)) => Nat.beq c b
  | _ => false
def isN (a : Option (Option Value)) : Bool := match a with
  | some none => true
  | _ => false
def isB (a : Option (Option Value)) (b : String) : Bool := match a with
  | some (some (.builtin c)) => c == b
  | _ => false
def isC (a : Option PySem.W.CFound) (b : Addr) : Bool := match a with
  | some (.val (.ref c)) => Nat.beq c b
  | _ => false
def isI (a : Option (Option Value)) (i : Int) : Bool := match a with
  | some (some (.int j _)) => decide (j = i)
  | _ => false
def Fb.ok (K : PySem.W.Frag) : Fb → Bool
  | .glo x a => isV (PySem.W.nsIn K mainGlobals x) a
  | .fre x => isN (PySem.W.nsIn K mainGlobals x)
  | .int x i => isI (PySem.W.nsIn K mainGlobals x) i
  | .cls C => PySem.W.plainGet K C Str.empty && (PySem.W.hasDictIn K C && (PySem.W.plainOver K C && isB (PySem.W.findIn K (.ref C) "__setattr__") "object.__setattr__"))
  | .noat C f => isN (PySem.W.findIn K (.ref C) f)
  | .meth C m f => isV (PySem.W.findIn K (.ref C) m) f && (PySem.W.isFn K (.ref f) && PySem.W.keepIn K (.ref f))
  | .mkr C f => PySem.W.makesIn K C && (isV (PySem.W.findIn K (.ref C) "__init__") f && (PySem.W.isFn K (.ref f) && PySem.W.keepIn K (.ref C)))
  | .cfn C m f => isB (PySem.W.specialIn K (.ref C) "__getattribute__") "type.__getattribute__" && (PySem.W.readsIn K C (.type "type") && (isC (PySem.W.findCls K (.ref C) (.type "type") m) f && PySem.W.keepIn K (.ref f)))
def Fb.says (K : PySem.W.Frag) (mg : Str → Option Value) : Fb → Prop
  | .glo x a => mg x = some (.ref a)
  | .fre x => mg x = none
  | .int x i => ∃ u, mg x = some u ∧ RelV (V.int i) u
  | .cls C => Cls K C
  | .noat C f => NoAttr K C f
  | .meth C m f => Meth K C m f
  | .mkr C f => Mk K C f
  | .cfn C m f => CFn K C m f
theorem isV_eq {a : Option (Option Value)} {b : Addr} (h : isV a b = true) : a = some (some (.ref b)) := by
  unfold isV at h
  split at h
  · rw [Nat.eq_of_beq_eq_true h]
  · cases h
theorem isN_eq {a : Option (Option Value)} (h : isN a = true) : a = some none := by
  unfold isN at h
  split at h
  · rfl
  · cases h
theorem isB_eq {a : Option (Option Value)} {b : String} (h : isB a b = true) : a = some (some (.builtin b)) := by
  unfold isB at h
  split at h
  · rw [beq_iff_eq.mp h]
  · cases h
theorem isC_eq {a : Option PySem.W.CFound} {b : Addr} (h : isC a b = true) : a = some (.val (.ref b)) := by
  unfold isC at h
  split at h
  · rw [Nat.eq_of_beq_eq_true h]
  · cases h
theorem isI_eq {a : Option (Option Value)} {i : Int} (h : isI a i = true) : ∃ t, a = some (some (.int i t)) := by
  unfold isI at h
  split at h
  · rw [of_decide_eq_true h]
    exact ⟨_, rfl⟩
  · cases h
theorem Fb.ok_says {K : PySem.W.Frag} {h : Heap} {mg : Str → Option Value} (X : K.In h) (G : h.Ns mainGlobals mg) (f : Fb) (e : f.ok K = true) : f.says K mg := by
  cases f with
  | glo x a => exact PySem.W.mg_of X G (isV_eq e)
  | fre x => exact PySem.W.mg_none_of X G (isN_eq e)
  | int x i =>
    obtain ⟨t, e⟩ := isI_eq e
    exact ⟨_, PySem.W.mg_of X G e, t, rfl⟩
  | cls C =>
    simp only [Fb.ok, Bool.and_eq_true] at e
    exact ⟨e.1, e.2.1, e.2.2.1, isB_eq e.2.2.2⟩
  | noat C f => exact isN_eq e
  | meth C m f =>
    simp only [Fb.ok, Bool.and_eq_true] at e
    exact ⟨isV_eq e.1, e.2.1, e.2.2⟩
  | mkr C f =>
    simp only [Fb.ok, Bool.and_eq_true] at e
    exact ⟨e.1, isV_eq e.2.1, e.2.2.1, e.2.2.2⟩
  | cfn C m f =>
    simp only [Fb.ok, Bool.and_eq_true] at e
    exact ⟨isB_eq e.1, ⟨_, e.2.1, isC_eq e.2.2.1⟩, e.2.2.2⟩
structure DefE where
  at_ : Addr
  qual : Str
  st : Stmt
  code : Addr
abbrev FnW : Type := Option (Str × Str × Arguments × FuncBody × Scope × Addr × List (Str × Addr) × Addr)
def nmOf : Stmt → Str
  | .FunctionDef n _ _ _ _ _ _ _ _ _ => n
  | _ => Str.empty
def fnW (K : PySem.W.Frag) (a : Addr) : FnW := match K.lookup a with
  | some ⟨_, _, .func fd, _⟩ => some (fd.name, fd.qualname, fd.params, fd.body, fd.scope, fd.globals, fd.closure, fd.builtins)
  | _ => none
def DefE.val (d : DefE) : FnW := some (nmOf d.st, d.qual, C8.fnArgs d.st, .stmts (C8.fnBody d.st), C8.fnScope d.st, mainGlobals, [], builtinsNs)
def isNo : Value → Bool
  | .none => true
  | _ => false
def isR (v : Value) (a : Addr) : Bool := match v with
  | .ref b => Nat.beq b a
  | _ => false
def DefE.ok (K : PySem.W.Frag) (d : DefE) : Bool := (match K.lookup d.at_ with
  | some ⟨_, _, .func fd, _⟩ => PySem.W.codeIn K fd.code d.qual && (isNo fd.defaults && (isNo fd.kwdefaults && isR fd.code d.code)) && PySem.W.keepIn K (.ref d.at_)
  | _ => false)
/-- the def as it stands, its code object told -/
def DefE.says (K : PySem.W.Frag) (d : DefE) : Prop := (∃ (oc : Value) (od : Option Addr) (doc pm : Value) (an : Option Addr) (ct : Value) (osl : Array (Option Value)),
    K.lookup d.at_ = some ⟨oc, od, .func (PySem.W.fnOf (nmOf d.st) d.qual (C8.fnArgs d.st) (C8.fnBody d.st) (C8.fnScope d.st) .none .none doc pm an (.ref d.code) ct), osl⟩ ∧ PySem.W.codeIn K (.ref d.code) d.qual = true) ∧ PySem.W.keepIn K (.ref d.at_) = true
theorem isNo_eq {v : Value} (h : isNo v = true) : v = .none := by
  cases v <;> first | rfl | cases h
theorem isR_eq {v : Value} {a : Addr} (h : isR v a = true) : v = .ref a := by
  unfold isR at h
  split at h
  · rw [Nat.eq_of_beq_eq_true h]
  · cases h
theorem DefE.ok_says {K : PySem.W.Frag} {d : DefE} (e : d.ok K = true) (v : fnW K d.at_ = d.val) : d.says K := by
  unfold DefE.ok at e
  unfold fnW at v
  split at e
  · rename_i oc od fd osl hl
    rw [hl] at v
    simp only [DefE.val, Option.some.injEq, Prod.mk.injEq] at v
    obtain ⟨v1, v2, v3, v4, v5, v6, v7, v8⟩ := v
    simp only [Bool.and_eq_true] at e
    obtain ⟨⟨e1, e2, e3, e4⟩, e5⟩ := e
    refine ⟨⟨oc, od, fd.doc, fd.pyModule, fd.annotations, fd.closureTuple, osl, ?_, by rw [← isR_eq e4]; exact e1⟩, e5⟩
    rw [hl]
    have h1 := isNo_eq e2
    have h2 := isNo_eq e3
    have h3 := isR_eq e4
    cases fd
    simp only at v1 v2 v3 v4 v5 v6 v7 v8 h1 h2 h3
    subst v1 v2 v3 v4 v5 v6 v7 v8 h1 h2 h3
    rfl
  · cases e

abbrev st0 : Stmt := top 8
def d0 : DefE := ⟨96, "next_begin", st0, 95⟩
abbrev st1 : Stmt := top 9
def d1 : DefE := ⟨101, "times_of", st1, 100⟩
abbrev st2 : Stmt := top 10
def d2 : DefE := ⟨106, "walk_times", st2, 105⟩
abbrev st3 : Stmt := top 11
def d3 : DefE := ⟨111, "walk_end", st3, 110⟩
abbrev st4 : Stmt := top 12
def d4 : DefE := ⟨116, "walk_idle", st4, 115⟩
abbrev st5 : Stmt := top 16
def d5 : DefE := ⟨123, "is_whole", st5, 122⟩
abbrev st6 : Stmt := top 17
def d6 : DefE := ⟨130, "is_between", st6, 129⟩
abbrev st7 : Stmt := top 18
def d7 : DefE := ⟨137, "is_rim", st7, 136⟩
abbrev st8 : Stmt := inClass (top 19) 0
def d8 : DefE := ⟨151, "Rim.__init__", st8, 150⟩
abbrev st9 : Stmt := inClass (top 19) 1
def d9 : DefE := ⟨158, "Rim.at_number", st9, 157⟩
abbrev st10 : Stmt := inClass (top 20) 0
def d10 : DefE := ⟨179, "MirrorRim.at_number", st10, 178⟩
abbrev st11 : Stmt := inClass (top 21) 0
def d11 : DefE := ⟨198, "FixedRim.__init__", st11, 197⟩
abbrev st12 : Stmt := inClass (top 21) 1
def d12 : DefE := ⟨205, "FixedRim.at_number", st12, 204⟩
abbrev st13 : Stmt := top 22
def d13 : DefE := ⟨217, "rim_of", st13, 216⟩
abbrev st14 : Stmt := inClass (top 30) 0
def d14 : DefE := ⟨231, "Term.below", st14, 230⟩
abbrev st15 : Stmt := inClass (top 30) 3
def d15 : DefE := ⟨252, "Term.own_take", st15, 251⟩
abbrev st16 : Stmt := inClass (top 30) 4
def d16 : DefE := ⟨259, "Term.own_wrong", st16, 258⟩
abbrev st17 : Stmt := inClass (top 30) 5
def d17 : DefE := ⟨266, "Term.first_wrong", st17, 265⟩
abbrev st18 : Stmt := inClass (top 30) 6
def d18 : DefE := ⟨271, "Term.takes", st18, 270⟩
abbrev st19 : Stmt := inClass (top 30) 7
def d19 : DefE := ⟨276, "Term.depth", st19, 275⟩
abbrev st20 : Stmt := inClass (top 30) 8
def d20 : DefE := ⟨281, "Term.parts", st20, 280⟩
abbrev st21 : Stmt := inClass (top 31) 0
def d21 : DefE := ⟨302, "Number.__init__", st21, 301⟩
abbrev st22 : Stmt := inClass (top 31) 1
def d22 : DefE := ⟨309, "Number.value_by", st22, 308⟩
abbrev st23 : Stmt := inClass (top 31) 3
def d23 : DefE := ⟨323, "Number.own_wrong", st23, 322⟩
abbrev st24 : Stmt := inClass (top 32) 0
def d24 : DefE := ⟨342, "Take.__init__", st24, 341⟩
abbrev st25 : Stmt := inClass (top 32) 1
def d25 : DefE := ⟨349, "Take.value_by", st25, 348⟩
abbrev st26 : Stmt := inClass (top 32) 3
def d26 : DefE := ⟨363, "Take.own_take", st26, 362⟩
abbrev st27 : Stmt := inClass (top 32) 4
def d27 : DefE := ⟨368, "Take.own_wrong", st27, 367⟩
abbrev st28 : Stmt := inClass (top 33) 0
def d28 : DefE := ⟨387, "Paired.__init__", st28, 386⟩
abbrev st29 : Stmt := inClass (top 33) 1
def d29 : DefE := ⟨394, "Paired.below", st29, 393⟩
abbrev st30 : Stmt := inClass (top 34) 0
def d30 : DefE := ⟨427, "Added.value_by", st30, 426⟩
abbrev st31 : Stmt := inClass (top 35) 1
def d31 : DefE := ⟨453, "Multiplied.value_by", st31, 452⟩
abbrev st32 : Stmt := top 36
def d32 : DefE := ⟨465, "lines_of", st32, 464⟩
abbrev st33 : Stmt := top 37
def d33 : DefE := ⟨472, "check_term", st33, 471⟩
abbrev st34 : Stmt := top 42
def d34 : DefE := ⟨477, "is_first", st34, 476⟩
abbrev st35 : Stmt := inClass (top 43) 0
def d35 : DefE := ⟨489, "Job.__init__", st35, 488⟩
abbrev st36 : Stmt := inClass (top 43) 1
def d36 : DefE := ⟨494, "Job.deep", st36, 493⟩
abbrev st37 : Stmt := inClass (top 43) 2
def d37 : DefE := ⟨499, "Job.all_spots", st37, 498⟩
abbrev st38 : Stmt := inClass (top 43) 3
def d38 : DefE := ⟨506, "Job.is_spot", st38, 505⟩
abbrev st39 : Stmt := inClass (top 43) 4
def d39 : DefE := ⟨513, "Job.where_of", st39, 512⟩
abbrev st40 : Stmt := inClass (top 43) 5
def d40 : DefE := ⟨518, "Job.reads_of", st40, 517⟩
abbrev st41 : Stmt := inClass (top 43) 6
def d41 : DefE := ⟨525, "Job.first_worth", st41, 524⟩
abbrev st42 : Stmt := inClass (top 43) 7
def d42 : DefE := ⟨532, "Job.worth_at", st42, 531⟩
abbrev st43 : Stmt := inClass (top 43) 8
def d43 : DefE := ⟨539, "Job.next_worth", st43, 538⟩
abbrev st44 : Stmt := top 49
def d44 : DefE := ⟨553, "is_below", st44, 552⟩
abbrev st45 : Stmt := top 50
def d45 : DefE := ⟨558, "are_spots", st45, 557⟩
abbrev st46 : Stmt := top 51
def d46 : DefE := ⟨563, "are_pieces", st46, 562⟩
abbrev st47 : Stmt := top 52
def d47 : DefE := ⟨568, "are_hands", st47, 567⟩
abbrev st48 : Stmt := top 53
def d48 : DefE := ⟨575, "is_wait", st48, 574⟩
abbrev st49 : Stmt := top 54
def d49 : DefE := ⟨580, "are_waits", st49, 579⟩
abbrev st50 : Stmt := top 55
def d50 : DefE := ⟨585, "are_slots", st50, 584⟩
abbrev st51 : Stmt := top 56
def d51 : DefE := ⟨592, "are_wanted", st51, 591⟩
abbrev st52 : Stmt := inClass (top 57) 0
def d52 : DefE := ⟨604, "Paper.__init__", st52, 603⟩
abbrev st53 : Stmt := inClass (top 61) 0
def d53 : DefE := ⟨623, "Grid.__init__", st53, 622⟩
abbrev st54 : Stmt := inClass (top 61) 1
def d54 : DefE := ⟨630, "Grid.lines", st54, 629⟩
abbrev st55 : Stmt := inClass (top 61) 2
def d55 : DefE := ⟨637, "Grid.places_many", st55, 636⟩
abbrev st56 : Stmt := inClass (top 61) 3
def d56 : DefE := ⟨642, "Grid.all_places", st56, 641⟩
abbrev st57 : Stmt := inClass (top 61) 4
def d57 : DefE := ⟨647, "Grid.has_place", st57, 646⟩
abbrev st58 : Stmt := inClass (top 61) 5
def d58 : DefE := ⟨654, "Grid.beside", st58, 653⟩
abbrev st59 : Stmt := top 63
def d59 : DefE := ⟨666, "leans_of", st59, 665⟩
abbrev st60 : Stmt := inClass (top 65) 0
def d60 : DefE := ⟨678, "Run.__init__", st60, 677⟩
abbrev st61 : Stmt := inClass (top 65) 1
def d61 : DefE := ⟨685, "Run.piece_at", st61, 684⟩
abbrev st62 : Stmt := inClass (top 65) 2
def d62 : DefE := ⟨692, "Run.next_spot", st62, 691⟩
abbrev st63 : Stmt := inClass (top 65) 3
def d63 : DefE := ⟨697, "Run.may_begin", st63, 696⟩
abbrev st64 : Stmt := inClass (top 65) 4
def d64 : DefE := ⟨704, "Run.can_step", st64, 703⟩
abbrev st65 : Stmt := inClass (top 65) 5
def d65 : DefE := ⟨709, "Run.ready", st65, 708⟩
abbrev st66 : Stmt := inClass (top 65) 6
def d66 : DefE := ⟨716, "Run.held", st66, 715⟩
abbrev st67 : Stmt := inClass (top 65) 7
def d67 : DefE := ⟨723, "Run.look", st67, 722⟩
abbrev st68 : Stmt := inClass (top 65) 8
def d68 : DefE := ⟨730, "Run.note_reads", st68, 729⟩
abbrev st69 : Stmt := inClass (top 65) 9
def d69 : DefE := ⟨737, "Run.step", st69, 736⟩
abbrev st70 : Stmt := inClass (top 65) 12
def d70 : DefE := ⟨756, "Run.is_over", st70, 755⟩
abbrev st71 : Stmt := top 67
def d71 : DefE := ⟨791, "_law_cell_at", st71, 790⟩
abbrev st72 : Stmt := top 68
def d72 : DefE := ⟨798, "_law_tape", st72, 797⟩
abbrev st73 : Stmt := top 69
def d73 : DefE := ⟨805, "_law_draw", st73, 804⟩
abbrev st74 : Stmt := top 70
def d74 : DefE := ⟨810, "_law_world", st74, 809⟩
abbrev st75 : Stmt := top 71
def d75 : DefE := ⟨815, "_law_places", st75, 814⟩
abbrev st76 : Stmt := top 72
def d76 : DefE := ⟨820, "_law_spots", st76, 819⟩
abbrev st77 : Stmt := top 73
def d77 : DefE := ⟨827, "_law_there", st77, 826⟩
abbrev st78 : Stmt := top 74
def d78 : DefE := ⟨834, "_law_leans", st78, 833⟩
abbrev st79 : Stmt := top 75
def d79 : DefE := ⟨839, "_law_job", st79, 838⟩
abbrev st80 : Stmt := top 76
def d80 : DefE := ⟨844, "_law_row", st80, 843⟩
abbrev st81 : Stmt := top 77
def d81 : DefE := ⟨851, "_law_pieces", st81, 850⟩
abbrev st82 : Stmt := top 78
def d82 : DefE := ⟨856, "_law_dealt", st82, 855⟩
abbrev st83 : Stmt := top 79
def d83 : DefE := ⟨861, "_law_made", st83, 860⟩
abbrev st84 : Stmt := top 80
def d84 : DefE := ⟨866, "_law_at_work", st84, 865⟩
abbrev st85 : Stmt := top 81
def d85 : DefE := ⟨873, "_law_turned", st85, 872⟩
abbrev st86 : Stmt := top 82
def d86 : DefE := ⟨878, "_law_ticks_right", st86, 877⟩
abbrev st87 : Stmt := top 83
def d87 : DefE := ⟨883, "law", st87, 882⟩
def fn0 : List DefE := [d0, d1, d2, d3, d4, d5, d6, d7, d8, d9, d10, d11, d12, d13, d14, d15, d16, d17, d18, d19]
def fn1 : List DefE := [d20, d21, d22, d23, d24, d25, d26, d27, d28, d29, d30, d31, d32, d33, d34, d35, d36, d37, d38, d39]
def fn2 : List DefE := [d40, d41, d42, d43, d44, d45, d46, d47, d48, d49, d50, d51, d52, d53, d54, d55, d56, d57, d58, d59]
def fn3 : List DefE := [d60, d61, d62, d63, d64, d65, d66, d67, d68, d69, d70, d71, d72, d73, d74, d75, d76, d77, d78, d79]
def fn4 : List DefE := [d80, d81, d82, d83, d84, d85, d86, d87]
def fn : List DefE := fn0 ++ fn1 ++ fn2 ++ fn3 ++ fn4
def fa0 : List Fb := [.glo "next_begin" 96, .glo "times_of" 101, .glo "walk_times" 106, .glo "walk_end" 111, .glo "walk_idle" 116, .glo "is_whole" 123, .glo "is_between" 130, .glo "is_rim" 137, .glo "rim_of" 217, .glo "lines_of" 465, .glo "check_term" 472, .glo "is_first" 477, .glo "is_below" 553, .glo "are_spots" 558, .glo "are_pieces" 563, .glo "are_hands" 568, .glo "is_wait" 575, .glo "are_waits" 580, .glo "are_slots" 585, .glo "are_wanted" 592]
def fa1 : List Fb := [.glo "leans_of" 666, .glo "_law_cell_at" 791, .glo "_law_tape" 798, .glo "_law_draw" 805, .glo "_law_world" 810, .glo "_law_places" 815, .glo "_law_spots" 820, .glo "_law_there" 827, .glo "_law_leans" 834, .glo "_law_job" 839, .glo "_law_row" 844, .glo "_law_pieces" 851, .glo "_law_dealt" 856, .glo "_law_made" 861, .glo "_law_at_work" 866, .glo "_law_turned" 873, .glo "_law_ticks_right" 878, .glo "law" 883, .glo "Rim" 161, .glo "MirrorRim" 182]
def fa2 : List Fb := [.glo "FixedRim" 208, .glo "Number" 326, .glo "Take" 371, .glo "Added" 430, .glo "Multiplied" 456, .glo "Job" 542, .glo "Grid" 657, .glo "Run" 780, .glo "Paper" 607, .int "MOST_SIZE" 9, .int "MOST_FIXED" 1000000000, .int "MOST_NUMBER" 1000000000000, .int "MOST_BACK" 3, .int "MOST_STEP" 9, .int "MOST_DEPTH" 12, .int "MOST_PARTS" 60, .int "MOST_TAKES" 6, .int "MOST_MODULUS" 1000000000, .int "MOST_ROUNDS" 12, .int "MOST_SPOTS" 120]
def fa3 : List Fb := [.int "MOST_PIECES" 120, .int "MOST_HANDS" 4, .int "MOST_WAITS" 400, .int "MOST_SLOTS" 120, .int "MOST_LINES" 3, .int "MOST_PLACES" 40, .fre "len", .fre "max", .fre "min", .fre "sum", .fre "all", .fre "sorted", .fre "set", .fre "list", .fre "dict", .fre "tuple", .fre "int", .fre "bool", .fre "isinstance", .fre "range"]
def fa4 : List Fb := [.fre "zip", .fre "enumerate", .cls 161, .cls 182, .cls 208, .cls 326, .cls 371, .cls 430, .cls 456, .cls 542, .cls 657, .cls 780, .cls 607, .mkr 161 151, .mkr 182 151, .mkr 208 198, .mkr 326 302, .mkr 371 342, .mkr 430 387, .mkr 456 387]
def fa5 : List Fb := [.mkr 542 489, .mkr 657 623, .mkr 780 678, .mkr 607 604, .meth 161 "at_number" 158, .meth 182 "at_number" 179, .meth 208 "at_number" 205, .meth 326 "below" 231, .meth 326 "value_by" 309, .meth 326 "own_take" 252, .meth 326 "own_wrong" 323, .meth 326 "first_wrong" 266, .meth 326 "takes" 271, .meth 326 "depth" 276, .meth 326 "parts" 281, .meth 371 "below" 231, .meth 371 "value_by" 349, .meth 371 "own_take" 363, .meth 371 "own_wrong" 368, .meth 371 "first_wrong" 266]
def fa6 : List Fb := [.meth 371 "takes" 271, .meth 371 "depth" 276, .meth 371 "parts" 281, .meth 430 "below" 394, .meth 430 "value_by" 427, .meth 430 "own_take" 252, .meth 430 "own_wrong" 259, .meth 430 "first_wrong" 266, .meth 430 "takes" 271, .meth 430 "depth" 276, .meth 430 "parts" 281, .meth 456 "below" 394, .meth 456 "value_by" 453, .meth 456 "own_take" 252, .meth 456 "own_wrong" 259, .meth 456 "first_wrong" 266, .meth 456 "takes" 271, .meth 456 "depth" 276, .meth 456 "parts" 281, .meth 542 "deep" 494]
def fa7 : List Fb := [.meth 542 "all_spots" 499, .meth 542 "is_spot" 506, .meth 542 "where_of" 513, .meth 542 "reads_of" 518, .meth 542 "first_worth" 525, .meth 542 "worth_at" 532, .meth 542 "next_worth" 539, .meth 657 "lines" 630, .meth 657 "places_many" 637, .meth 657 "all_places" 642, .meth 657 "has_place" 647, .meth 657 "beside" 654, .meth 780 "piece_at" 685, .meth 780 "next_spot" 692, .meth 780 "may_begin" 697, .meth 780 "can_step" 704, .meth 780 "ready" 709, .meth 780 "held" 716, .meth 780 "look" 723, .meth 780 "note_reads" 730]
def fa8 : List Fb := [.meth 780 "step" 737, .meth 780 "is_over" 756, .noat 161 "size", .noat 182 "size", .noat 208 "size", .noat 208 "beyond", .noat 326 "value", .noat 371 "back", .noat 371 "steps", .noat 430 "one", .noat 430 "other", .noat 456 "one", .noat 456 "other", .noat 542 "grid", .noat 542 "term", .noat 542 "taken", .noat 542 "modulus", .noat 542 "rounds", .noat 542 "first", .noat 657 "sizes"]
def fa9 : List Fb := [.noat 657 "rims", .noat 657 "edges", .noat 780 "paper", .noat 780 "at", .noat 780 "left", .noat 780 "room", .noat 780 "order", .noat 780 "amiss", .noat 607 "job", .noat 607 "pieces", .noat 607 "hands", .noat 607 "waits", .noat 607 "slots", .noat 607 "wanted", .cfn 161 "__init__" 151]
def fa : List Fb := fa0 ++ fa1 ++ fa2 ++ fa3 ++ fa4 ++ fa5 ++ fa6 ++ fa7 ++ fa8 ++ fa9
/-- what the walks take from the top -/
structure Txt (K : PySem.W.Frag) (mg : Str → Option Value) : Prop where
  fb : ∀ (i : Nat) (f : Fb), fa[i]? = some f → f.says K mg
  df : ∀ (i : Nat) (d : DefE), fn[i]? = some d → d.says K
section
variable {K : PySem.W.Frag} {mg : Str → Option Value}
theorem g_next_begin (T : Txt K mg) : mg "next_begin" = some (.ref 96) := T.fb 0 _ rfl
theorem g_times_of (T : Txt K mg) : mg "times_of" = some (.ref 101) := T.fb 1 _ rfl
theorem g_walk_times (T : Txt K mg) : mg "walk_times" = some (.ref 106) := T.fb 2 _ rfl
theorem g_walk_end (T : Txt K mg) : mg "walk_end" = some (.ref 111) := T.fb 3 _ rfl
theorem g_walk_idle (T : Txt K mg) : mg "walk_idle" = some (.ref 116) := T.fb 4 _ rfl
theorem g_is_whole (T : Txt K mg) : mg "is_whole" = some (.ref 123) := T.fb 5 _ rfl
theorem g_is_between (T : Txt K mg) : mg "is_between" = some (.ref 130) := T.fb 6 _ rfl
theorem g_is_rim (T : Txt K mg) : mg "is_rim" = some (.ref 137) := T.fb 7 _ rfl
theorem g_rim_of (T : Txt K mg) : mg "rim_of" = some (.ref 217) := T.fb 8 _ rfl
theorem g_lines_of (T : Txt K mg) : mg "lines_of" = some (.ref 465) := T.fb 9 _ rfl
theorem g_check_term (T : Txt K mg) : mg "check_term" = some (.ref 472) := T.fb 10 _ rfl
theorem g_is_first (T : Txt K mg) : mg "is_first" = some (.ref 477) := T.fb 11 _ rfl
theorem g_is_below (T : Txt K mg) : mg "is_below" = some (.ref 553) := T.fb 12 _ rfl
theorem g_are_spots (T : Txt K mg) : mg "are_spots" = some (.ref 558) := T.fb 13 _ rfl
theorem g_are_pieces (T : Txt K mg) : mg "are_pieces" = some (.ref 563) := T.fb 14 _ rfl
theorem g_are_hands (T : Txt K mg) : mg "are_hands" = some (.ref 568) := T.fb 15 _ rfl
theorem g_is_wait (T : Txt K mg) : mg "is_wait" = some (.ref 575) := T.fb 16 _ rfl
theorem g_are_waits (T : Txt K mg) : mg "are_waits" = some (.ref 580) := T.fb 17 _ rfl
theorem g_are_slots (T : Txt K mg) : mg "are_slots" = some (.ref 585) := T.fb 18 _ rfl
theorem g_are_wanted (T : Txt K mg) : mg "are_wanted" = some (.ref 592) := T.fb 19 _ rfl
theorem g_leans_of (T : Txt K mg) : mg "leans_of" = some (.ref 666) := T.fb 20 _ rfl
theorem g_law_cell_at (T : Txt K mg) : mg "_law_cell_at" = some (.ref 791) := T.fb 21 _ rfl
theorem g_law_tape (T : Txt K mg) : mg "_law_tape" = some (.ref 798) := T.fb 22 _ rfl
theorem g_law_draw (T : Txt K mg) : mg "_law_draw" = some (.ref 805) := T.fb 23 _ rfl
theorem g_law_world (T : Txt K mg) : mg "_law_world" = some (.ref 810) := T.fb 24 _ rfl
theorem g_law_places (T : Txt K mg) : mg "_law_places" = some (.ref 815) := T.fb 25 _ rfl
theorem g_law_spots (T : Txt K mg) : mg "_law_spots" = some (.ref 820) := T.fb 26 _ rfl
theorem g_law_there (T : Txt K mg) : mg "_law_there" = some (.ref 827) := T.fb 27 _ rfl
theorem g_law_leans (T : Txt K mg) : mg "_law_leans" = some (.ref 834) := T.fb 28 _ rfl
theorem g_law_job (T : Txt K mg) : mg "_law_job" = some (.ref 839) := T.fb 29 _ rfl
theorem g_law_row (T : Txt K mg) : mg "_law_row" = some (.ref 844) := T.fb 30 _ rfl
theorem g_law_pieces (T : Txt K mg) : mg "_law_pieces" = some (.ref 851) := T.fb 31 _ rfl
theorem g_law_dealt (T : Txt K mg) : mg "_law_dealt" = some (.ref 856) := T.fb 32 _ rfl
theorem g_law_made (T : Txt K mg) : mg "_law_made" = some (.ref 861) := T.fb 33 _ rfl
theorem g_law_at_work (T : Txt K mg) : mg "_law_at_work" = some (.ref 866) := T.fb 34 _ rfl
theorem g_law_turned (T : Txt K mg) : mg "_law_turned" = some (.ref 873) := T.fb 35 _ rfl
theorem g_law_ticks_right (T : Txt K mg) : mg "_law_ticks_right" = some (.ref 878) := T.fb 36 _ rfl
theorem g_law (T : Txt K mg) : mg "law" = some (.ref 883) := T.fb 37 _ rfl
theorem g_Rim (T : Txt K mg) : mg "Rim" = some (.ref 161) := T.fb 38 _ rfl
theorem g_MirrorRim (T : Txt K mg) : mg "MirrorRim" = some (.ref 182) := T.fb 39 _ rfl
theorem g_FixedRim (T : Txt K mg) : mg "FixedRim" = some (.ref 208) := T.fb 40 _ rfl
theorem g_Number (T : Txt K mg) : mg "Number" = some (.ref 326) := T.fb 41 _ rfl
theorem g_Take (T : Txt K mg) : mg "Take" = some (.ref 371) := T.fb 42 _ rfl
theorem g_Added (T : Txt K mg) : mg "Added" = some (.ref 430) := T.fb 43 _ rfl
theorem g_Multiplied (T : Txt K mg) : mg "Multiplied" = some (.ref 456) := T.fb 44 _ rfl
theorem g_Job (T : Txt K mg) : mg "Job" = some (.ref 542) := T.fb 45 _ rfl
theorem g_Grid (T : Txt K mg) : mg "Grid" = some (.ref 657) := T.fb 46 _ rfl
theorem g_Run (T : Txt K mg) : mg "Run" = some (.ref 780) := T.fb 47 _ rfl
theorem g_Paper (T : Txt K mg) : mg "Paper" = some (.ref 607) := T.fb 48 _ rfl
theorem i_MOST_SIZE (T : Txt K mg) : ∃ u, mg "MOST_SIZE" = some u ∧ RelV (V.int 9) u := T.fb 49 _ rfl
theorem i_MOST_FIXED (T : Txt K mg) : ∃ u, mg "MOST_FIXED" = some u ∧ RelV (V.int 1000000000) u := T.fb 50 _ rfl
theorem i_MOST_NUMBER (T : Txt K mg) : ∃ u, mg "MOST_NUMBER" = some u ∧ RelV (V.int 1000000000000) u := T.fb 51 _ rfl
theorem i_MOST_BACK (T : Txt K mg) : ∃ u, mg "MOST_BACK" = some u ∧ RelV (V.int 3) u := T.fb 52 _ rfl
theorem i_MOST_STEP (T : Txt K mg) : ∃ u, mg "MOST_STEP" = some u ∧ RelV (V.int 9) u := T.fb 53 _ rfl
theorem i_MOST_DEPTH (T : Txt K mg) : ∃ u, mg "MOST_DEPTH" = some u ∧ RelV (V.int 12) u := T.fb 54 _ rfl
theorem i_MOST_PARTS (T : Txt K mg) : ∃ u, mg "MOST_PARTS" = some u ∧ RelV (V.int 60) u := T.fb 55 _ rfl
theorem i_MOST_TAKES (T : Txt K mg) : ∃ u, mg "MOST_TAKES" = some u ∧ RelV (V.int 6) u := T.fb 56 _ rfl
theorem i_MOST_MODULUS (T : Txt K mg) : ∃ u, mg "MOST_MODULUS" = some u ∧ RelV (V.int 1000000000) u := T.fb 57 _ rfl
theorem i_MOST_ROUNDS (T : Txt K mg) : ∃ u, mg "MOST_ROUNDS" = some u ∧ RelV (V.int 12) u := T.fb 58 _ rfl
theorem i_MOST_SPOTS (T : Txt K mg) : ∃ u, mg "MOST_SPOTS" = some u ∧ RelV (V.int 120) u := T.fb 59 _ rfl
theorem i_MOST_PIECES (T : Txt K mg) : ∃ u, mg "MOST_PIECES" = some u ∧ RelV (V.int 120) u := T.fb 60 _ rfl
theorem i_MOST_HANDS (T : Txt K mg) : ∃ u, mg "MOST_HANDS" = some u ∧ RelV (V.int 4) u := T.fb 61 _ rfl
theorem i_MOST_WAITS (T : Txt K mg) : ∃ u, mg "MOST_WAITS" = some u ∧ RelV (V.int 400) u := T.fb 62 _ rfl
theorem i_MOST_SLOTS (T : Txt K mg) : ∃ u, mg "MOST_SLOTS" = some u ∧ RelV (V.int 120) u := T.fb 63 _ rfl
theorem i_MOST_LINES (T : Txt K mg) : ∃ u, mg "MOST_LINES" = some u ∧ RelV (V.int 3) u := T.fb 64 _ rfl
theorem i_MOST_PLACES (T : Txt K mg) : ∃ u, mg "MOST_PLACES" = some u ∧ RelV (V.int 40) u := T.fb 65 _ rfl
theorem z_len (T : Txt K mg) : mg "len" = none := T.fb 66 _ rfl
theorem z_max (T : Txt K mg) : mg "max" = none := T.fb 67 _ rfl
theorem z_min (T : Txt K mg) : mg "min" = none := T.fb 68 _ rfl
theorem z_sum (T : Txt K mg) : mg "sum" = none := T.fb 69 _ rfl
theorem z_all (T : Txt K mg) : mg "all" = none := T.fb 70 _ rfl
theorem z_sorted (T : Txt K mg) : mg "sorted" = none := T.fb 71 _ rfl
theorem z_set (T : Txt K mg) : mg "set" = none := T.fb 72 _ rfl
theorem z_list (T : Txt K mg) : mg "list" = none := T.fb 73 _ rfl
theorem z_dict (T : Txt K mg) : mg "dict" = none := T.fb 74 _ rfl
theorem z_tuple (T : Txt K mg) : mg "tuple" = none := T.fb 75 _ rfl
theorem z_int (T : Txt K mg) : mg "int" = none := T.fb 76 _ rfl
theorem z_bool (T : Txt K mg) : mg "bool" = none := T.fb 77 _ rfl
theorem z_isinstance (T : Txt K mg) : mg "isinstance" = none := T.fb 78 _ rfl
theorem z_range (T : Txt K mg) : mg "range" = none := T.fb 79 _ rfl
theorem z_zip (T : Txt K mg) : mg "zip" = none := T.fb 80 _ rfl
theorem z_enumerate (T : Txt K mg) : mg "enumerate" = none := T.fb 81 _ rfl
theorem c_Rim (T : Txt K mg) : Cls K 161 := T.fb 82 _ rfl
theorem c_MirrorRim (T : Txt K mg) : Cls K 182 := T.fb 83 _ rfl
theorem c_FixedRim (T : Txt K mg) : Cls K 208 := T.fb 84 _ rfl
theorem c_Number (T : Txt K mg) : Cls K 326 := T.fb 85 _ rfl
theorem c_Take (T : Txt K mg) : Cls K 371 := T.fb 86 _ rfl
theorem c_Added (T : Txt K mg) : Cls K 430 := T.fb 87 _ rfl
theorem c_Multiplied (T : Txt K mg) : Cls K 456 := T.fb 88 _ rfl
theorem c_Job (T : Txt K mg) : Cls K 542 := T.fb 89 _ rfl
theorem c_Grid (T : Txt K mg) : Cls K 657 := T.fb 90 _ rfl
theorem c_Run (T : Txt K mg) : Cls K 780 := T.fb 91 _ rfl
theorem c_Paper (T : Txt K mg) : Cls K 607 := T.fb 92 _ rfl
theorem k_Rim (T : Txt K mg) : Mk K 161 151 := T.fb 93 _ rfl
theorem k_MirrorRim (T : Txt K mg) : Mk K 182 151 := T.fb 94 _ rfl
theorem k_FixedRim (T : Txt K mg) : Mk K 208 198 := T.fb 95 _ rfl
theorem k_Number (T : Txt K mg) : Mk K 326 302 := T.fb 96 _ rfl
theorem k_Take (T : Txt K mg) : Mk K 371 342 := T.fb 97 _ rfl
theorem k_Added (T : Txt K mg) : Mk K 430 387 := T.fb 98 _ rfl
theorem k_Multiplied (T : Txt K mg) : Mk K 456 387 := T.fb 99 _ rfl
theorem k_Job (T : Txt K mg) : Mk K 542 489 := T.fb 100 _ rfl
theorem k_Grid (T : Txt K mg) : Mk K 657 623 := T.fb 101 _ rfl
theorem k_Run (T : Txt K mg) : Mk K 780 678 := T.fb 102 _ rfl
theorem k_Paper (T : Txt K mg) : Mk K 607 604 := T.fb 103 _ rfl
theorem m_Rim_at_number (T : Txt K mg) : Meth K 161 "at_number" 158 := T.fb 104 _ rfl
theorem m_MirrorRim_at_number (T : Txt K mg) : Meth K 182 "at_number" 179 := T.fb 105 _ rfl
theorem m_FixedRim_at_number (T : Txt K mg) : Meth K 208 "at_number" 205 := T.fb 106 _ rfl
theorem m_Number_below (T : Txt K mg) : Meth K 326 "below" 231 := T.fb 107 _ rfl
theorem m_Number_value_by (T : Txt K mg) : Meth K 326 "value_by" 309 := T.fb 108 _ rfl
theorem m_Number_own_take (T : Txt K mg) : Meth K 326 "own_take" 252 := T.fb 109 _ rfl
theorem m_Number_own_wrong (T : Txt K mg) : Meth K 326 "own_wrong" 323 := T.fb 110 _ rfl
theorem m_Number_first_wrong (T : Txt K mg) : Meth K 326 "first_wrong" 266 := T.fb 111 _ rfl
theorem m_Number_takes (T : Txt K mg) : Meth K 326 "takes" 271 := T.fb 112 _ rfl
theorem m_Number_depth (T : Txt K mg) : Meth K 326 "depth" 276 := T.fb 113 _ rfl
theorem m_Number_parts (T : Txt K mg) : Meth K 326 "parts" 281 := T.fb 114 _ rfl
theorem m_Take_below (T : Txt K mg) : Meth K 371 "below" 231 := T.fb 115 _ rfl
theorem m_Take_value_by (T : Txt K mg) : Meth K 371 "value_by" 349 := T.fb 116 _ rfl
theorem m_Take_own_take (T : Txt K mg) : Meth K 371 "own_take" 363 := T.fb 117 _ rfl
theorem m_Take_own_wrong (T : Txt K mg) : Meth K 371 "own_wrong" 368 := T.fb 118 _ rfl
theorem m_Take_first_wrong (T : Txt K mg) : Meth K 371 "first_wrong" 266 := T.fb 119 _ rfl
theorem m_Take_takes (T : Txt K mg) : Meth K 371 "takes" 271 := T.fb 120 _ rfl
theorem m_Take_depth (T : Txt K mg) : Meth K 371 "depth" 276 := T.fb 121 _ rfl
theorem m_Take_parts (T : Txt K mg) : Meth K 371 "parts" 281 := T.fb 122 _ rfl
theorem m_Added_below (T : Txt K mg) : Meth K 430 "below" 394 := T.fb 123 _ rfl
theorem m_Added_value_by (T : Txt K mg) : Meth K 430 "value_by" 427 := T.fb 124 _ rfl
theorem m_Added_own_take (T : Txt K mg) : Meth K 430 "own_take" 252 := T.fb 125 _ rfl
theorem m_Added_own_wrong (T : Txt K mg) : Meth K 430 "own_wrong" 259 := T.fb 126 _ rfl
theorem m_Added_first_wrong (T : Txt K mg) : Meth K 430 "first_wrong" 266 := T.fb 127 _ rfl
theorem m_Added_takes (T : Txt K mg) : Meth K 430 "takes" 271 := T.fb 128 _ rfl
theorem m_Added_depth (T : Txt K mg) : Meth K 430 "depth" 276 := T.fb 129 _ rfl
theorem m_Added_parts (T : Txt K mg) : Meth K 430 "parts" 281 := T.fb 130 _ rfl
theorem m_Multiplied_below (T : Txt K mg) : Meth K 456 "below" 394 := T.fb 131 _ rfl
theorem m_Multiplied_value_by (T : Txt K mg) : Meth K 456 "value_by" 453 := T.fb 132 _ rfl
theorem m_Multiplied_own_take (T : Txt K mg) : Meth K 456 "own_take" 252 := T.fb 133 _ rfl
theorem m_Multiplied_own_wrong (T : Txt K mg) : Meth K 456 "own_wrong" 259 := T.fb 134 _ rfl
theorem m_Multiplied_first_wrong (T : Txt K mg) : Meth K 456 "first_wrong" 266 := T.fb 135 _ rfl
theorem m_Multiplied_takes (T : Txt K mg) : Meth K 456 "takes" 271 := T.fb 136 _ rfl
theorem m_Multiplied_depth (T : Txt K mg) : Meth K 456 "depth" 276 := T.fb 137 _ rfl
theorem m_Multiplied_parts (T : Txt K mg) : Meth K 456 "parts" 281 := T.fb 138 _ rfl
theorem m_Job_deep (T : Txt K mg) : Meth K 542 "deep" 494 := T.fb 139 _ rfl
theorem m_Job_all_spots (T : Txt K mg) : Meth K 542 "all_spots" 499 := T.fb 140 _ rfl
theorem m_Job_is_spot (T : Txt K mg) : Meth K 542 "is_spot" 506 := T.fb 141 _ rfl
theorem m_Job_where_of (T : Txt K mg) : Meth K 542 "where_of" 513 := T.fb 142 _ rfl
theorem m_Job_reads_of (T : Txt K mg) : Meth K 542 "reads_of" 518 := T.fb 143 _ rfl
theorem m_Job_first_worth (T : Txt K mg) : Meth K 542 "first_worth" 525 := T.fb 144 _ rfl
theorem m_Job_worth_at (T : Txt K mg) : Meth K 542 "worth_at" 532 := T.fb 145 _ rfl
theorem m_Job_next_worth (T : Txt K mg) : Meth K 542 "next_worth" 539 := T.fb 146 _ rfl
theorem m_Grid_lines (T : Txt K mg) : Meth K 657 "lines" 630 := T.fb 147 _ rfl
theorem m_Grid_places_many (T : Txt K mg) : Meth K 657 "places_many" 637 := T.fb 148 _ rfl
theorem m_Grid_all_places (T : Txt K mg) : Meth K 657 "all_places" 642 := T.fb 149 _ rfl
theorem m_Grid_has_place (T : Txt K mg) : Meth K 657 "has_place" 647 := T.fb 150 _ rfl
theorem m_Grid_beside (T : Txt K mg) : Meth K 657 "beside" 654 := T.fb 151 _ rfl
theorem m_Run_piece_at (T : Txt K mg) : Meth K 780 "piece_at" 685 := T.fb 152 _ rfl
theorem m_Run_next_spot (T : Txt K mg) : Meth K 780 "next_spot" 692 := T.fb 153 _ rfl
theorem m_Run_may_begin (T : Txt K mg) : Meth K 780 "may_begin" 697 := T.fb 154 _ rfl
theorem m_Run_can_step (T : Txt K mg) : Meth K 780 "can_step" 704 := T.fb 155 _ rfl
theorem m_Run_ready (T : Txt K mg) : Meth K 780 "ready" 709 := T.fb 156 _ rfl
theorem m_Run_held (T : Txt K mg) : Meth K 780 "held" 716 := T.fb 157 _ rfl
theorem m_Run_look (T : Txt K mg) : Meth K 780 "look" 723 := T.fb 158 _ rfl
theorem m_Run_note_reads (T : Txt K mg) : Meth K 780 "note_reads" 730 := T.fb 159 _ rfl
theorem m_Run_step (T : Txt K mg) : Meth K 780 "step" 737 := T.fb 160 _ rfl
theorem m_Run_is_over (T : Txt K mg) : Meth K 780 "is_over" 756 := T.fb 161 _ rfl
theorem n_Rim_size (T : Txt K mg) : NoAttr K 161 "size" := T.fb 162 _ rfl
theorem n_MirrorRim_size (T : Txt K mg) : NoAttr K 182 "size" := T.fb 163 _ rfl
theorem n_FixedRim_size (T : Txt K mg) : NoAttr K 208 "size" := T.fb 164 _ rfl
theorem n_FixedRim_beyond (T : Txt K mg) : NoAttr K 208 "beyond" := T.fb 165 _ rfl
theorem n_Number_value (T : Txt K mg) : NoAttr K 326 "value" := T.fb 166 _ rfl
theorem n_Take_back (T : Txt K mg) : NoAttr K 371 "back" := T.fb 167 _ rfl
theorem n_Take_steps (T : Txt K mg) : NoAttr K 371 "steps" := T.fb 168 _ rfl
theorem n_Added_one (T : Txt K mg) : NoAttr K 430 "one" := T.fb 169 _ rfl
theorem n_Added_other (T : Txt K mg) : NoAttr K 430 "other" := T.fb 170 _ rfl
theorem n_Multiplied_one (T : Txt K mg) : NoAttr K 456 "one" := T.fb 171 _ rfl
theorem n_Multiplied_other (T : Txt K mg) : NoAttr K 456 "other" := T.fb 172 _ rfl
theorem n_Job_grid (T : Txt K mg) : NoAttr K 542 "grid" := T.fb 173 _ rfl
theorem n_Job_term (T : Txt K mg) : NoAttr K 542 "term" := T.fb 174 _ rfl
theorem n_Job_taken (T : Txt K mg) : NoAttr K 542 "taken" := T.fb 175 _ rfl
theorem n_Job_modulus (T : Txt K mg) : NoAttr K 542 "modulus" := T.fb 176 _ rfl
theorem n_Job_rounds (T : Txt K mg) : NoAttr K 542 "rounds" := T.fb 177 _ rfl
theorem n_Job_first (T : Txt K mg) : NoAttr K 542 "first" := T.fb 178 _ rfl
theorem n_Grid_sizes (T : Txt K mg) : NoAttr K 657 "sizes" := T.fb 179 _ rfl
theorem n_Grid_rims (T : Txt K mg) : NoAttr K 657 "rims" := T.fb 180 _ rfl
theorem n_Grid_edges (T : Txt K mg) : NoAttr K 657 "edges" := T.fb 181 _ rfl
theorem n_Run_paper (T : Txt K mg) : NoAttr K 780 "paper" := T.fb 182 _ rfl
theorem n_Run_at (T : Txt K mg) : NoAttr K 780 "at" := T.fb 183 _ rfl
theorem n_Run_left (T : Txt K mg) : NoAttr K 780 "left" := T.fb 184 _ rfl
theorem n_Run_room (T : Txt K mg) : NoAttr K 780 "room" := T.fb 185 _ rfl
theorem n_Run_order (T : Txt K mg) : NoAttr K 780 "order" := T.fb 186 _ rfl
theorem n_Run_amiss (T : Txt K mg) : NoAttr K 780 "amiss" := T.fb 187 _ rfl
theorem n_Paper_job (T : Txt K mg) : NoAttr K 607 "job" := T.fb 188 _ rfl
theorem n_Paper_pieces (T : Txt K mg) : NoAttr K 607 "pieces" := T.fb 189 _ rfl
theorem n_Paper_hands (T : Txt K mg) : NoAttr K 607 "hands" := T.fb 190 _ rfl
theorem n_Paper_waits (T : Txt K mg) : NoAttr K 607 "waits" := T.fb 191 _ rfl
theorem n_Paper_slots (T : Txt K mg) : NoAttr K 607 "slots" := T.fb 192 _ rfl
theorem n_Paper_wanted (T : Txt K mg) : NoAttr K 607 "wanted" := T.fb 193 _ rfl
theorem f_Rim_init (T : Txt K mg) : CFn K 161 "__init__" 151 := T.fb 194 _ rfl
end
end
section
set_option maxHeartbeats 0
-- tables: [(539, 538, 534), (737, 736, 732)]
def nms0 : List PySem.Str := ["_wall", "TileError", "NoGrid", "NoTerm", "NoJob", "NoPaper", "next_begin", "times_of", "walk_times", "walk_end", "walk_idle", "MOST_SIZE", "MOST_FIXED", "is_whole", "is_between", "is_rim", "Rim", "MirrorRim", "FixedRim", "rim_of"]
def nms1 : List PySem.Str := ["MOST_NUMBER", "MOST_BACK", "MOST_STEP", "MOST_DEPTH", "MOST_PARTS", "MOST_TAKES", "Term", "Number", "Take", "Paired", "Added", "Multiplied", "lines_of", "check_term", "MOST_MODULUS", "MOST_ROUNDS", "MOST_SPOTS", "is_first", "Job", "MOST_PIECES"]
def nms2 : List PySem.Str := ["MOST_HANDS", "MOST_WAITS", "MOST_SLOTS", "is_below", "are_spots", "are_pieces", "are_hands", "is_wait", "are_waits", "are_slots", "are_wanted", "Paper", "MOST_LINES", "MOST_PLACES", "Grid", "leans_of", "Run", "_law_cell_at", "_law_tape", "_law_draw"]
def nms3 : List PySem.Str := ["_law_world", "_law_places", "_law_spots", "_law_there", "_law_leans", "_law_job", "_law_row", "_law_pieces", "_law_dealt", "_law_made", "_law_at_work", "_law_turned", "_law_ticks_right"]
def nms : List PySem.Str := nms0 ++ nms1 ++ nms2 ++ nms3
def AD : List Addr := [2, 3, 161, 160, 182, 181, 208, 207, 326, 325, 371, 370, 430, 429, 456, 455, 542, 541, 657, 656, 780, 779, 607, 606, 411, 410, 284, 283, 96, 95, 101, 100, 106, 105, 111, 110, 116, 115, 123, 122, 130, 129, 137, 136, 151, 150, 158, 157, 179, 178, 198, 197, 205, 204, 217, 216, 231, 230, 252, 251, 259, 258, 266, 265, 271, 270, 276, 275, 281, 280, 302, 301, 309, 308, 323, 322, 342, 341, 349, 348, 363, 362, 368, 367, 387, 386, 394, 393, 427, 426, 453, 452, 465, 464, 472, 471, 477, 476, 489, 488, 494, 493, 499, 498, 506, 505, 513, 512, 518, 517, 525, 524, 532, 531, 539, 538, 553, 552, 558, 557, 563, 562, 568, 567, 575, 574, 580, 579, 585, 584, 592, 591, 604, 603, 623, 622, 630, 629, 637, 636, 642, 641, 647, 646, 654, 653, 666, 665, 678, 677, 685, 684, 692, 691, 697, 696, 704, 703, 709, 708, 716, 715, 723, 722, 730, 729, 737, 736, 756, 755, 791, 790, 798, 797, 805, 804, 810, 809, 815, 814, 820, 819, 827, 826, 834, 833, 839, 838, 844, 843, 851, 850, 856, 855, 861, 860, 866, 865, 873, 872, 878, 877, 883, 882]
abbrev R : PySem.W.OpenRow := PySem.W.OpenLaw.row PySem.Challenge.rw_slanttiles_k78_whole_a_walk_is_a_run
def tabE : Option Obj → Bool
  | some ⟨.none, none, .fields vs, sl⟩ => vs.isEmpty && sl.isEmpty
  | _ => false
def fInt : Value → Bool
  | .int _ _ => true
  | _ => false
def fStr : Value → Bool
  | .str _ _ => true
  | _ => false
def fBool : Value → Bool
  | .bool _ => true
  | _ => false
def fRef (P : Addr) : Option Value → Bool
  | some (.ref Q) => Nat.beq Q P
  | _ => false
def codeB (K : PySem.W.Frag) (c P : Addr) : Bool := match K.lookup c with
  | some ⟨.type t, _, .fields vs, _⟩ => (t == "code") && (fRef P (vs[11]?) && (fStr (vs.getD 18 .none) && (fInt (vs.getD 7 .none) && (fBool (vs.getD 9 .none) && (fInt (vs.getD 10 .none) && !Nat.beq c P)))))
  | _ => false
abbrev AlD : Type := Bool × List FnW × Bool
def obsK (K : PySem.W.Frag) : Bool × List FnW := ((fa.all fun f => f.ok K) && ((fn.all fun d => d.ok K) && (codeB K 538 534 && codeB K 736 732)) && ((K.lookup 534).isNone && (K.lookup 732).isNone), fn.map fun d => fnW K d.at_)
def valK : Bool × List FnW := (true, fn.map DefE.val)
def Says (h : Heap) : Prop := (∃ K : PySem.W.Frag, K.In h ∧ obsK K = valK) ∧ tabE (h.get? 534) = true ∧ tabE (h.get? 732) = true
def ob1 (g : Addr → Option Obj) : AlD := ((obsK (He.frG g AD)).1, (obsK (He.frG g AD)).2, tabE (g 534) && tabE (g 732))
theorem tabE_eq {o : Option Obj} (h : tabE o = true) : o = some { cls := .none, data := .fields #[] } := by
  unfold tabE at h
  split at h
  · rw [Bool.and_eq_true] at h
    rw [Array.isEmpty_iff.mp h.1, Array.isEmpty_iff.mp h.2]
  · cases h
def hk : PySem.W.Hook where
  α := AlD
  obs := fun s => ob1 s.heap.get?
  val := fun _ => (valK.1, valK.2, true)
  says := fun _ h => Says h
  of := fun w s e => by
    have e : ob1 s.heap.get? = (valK.1, valK.2, true) := e
    simp only [ob1, Prod.mk.injEq, Bool.and_eq_true] at e
    exact ⟨⟨_, He.frG_in, Prod.ext e.1 e.2.1⟩, e.2.2⟩
  keeps := fun _ _ _ ⟨⟨K, hK, c⟩, t1, t2⟩ k => ⟨⟨K, PySem.W.Frag.In.keeps hK k, c⟩, by rw [k _ _ (tabE_eq t1)]; rfl, by rw [k _ _ (tabE_eq t2)]; rfl⟩
def ob (s : PySem.W.SharedT) : AlD := ob1 (HandSHeadRun.getT s)
theorem ob_eq (s : PySem.W.SharedT) : ob s = hk.obs s.abs := by
  have e : HandSHeadRun.getT s = s.abs.heap.get? := funext (HandSHeadRun.getT_eq s)
  unfold ob
  rw [e] <;> rfl
theorem codeB_hd {K : PySem.W.Frag} {h : Heap} (X : K.In h) {c P : Addr} (e : codeB K c P = true) : PySem.W.CodeHd h c P := by
  unfold codeB at e
  split at e
  · rename_i t od vs sl hl
    simp only [Bool.and_eq_true, Bool.not_eq_true'] at e
    obtain ⟨e1, e2, e3, e4, e5, e6, e7⟩ := e
    have q1 := beq_iff_eq.mp e1
    subst q1
    have q2 : vs[11]? = some (.ref P) := by
      unfold fRef at e2
      split at e2
      · rename_i Q hq
        rw [hq, Nat.eq_of_beq_eq_true e2]
      · cases e2
    have q2' : vs.getD 11 .none = .ref P := by
      rw [Array.getD_eq_getD_getElem?, q2]
      rfl
    have q3 : ∃ f t, vs.getD 18 .none = .str f t := by
      revert e3
      cases vs.getD 18 .none <;> intro e3 <;> first | exact ⟨_, _, rfl⟩ | cases e3
    have q4 : ∃ f t, vs.getD 7 .none = .int f t := by
      revert e4
      cases vs.getD 7 .none <;> intro e4 <;> first | exact ⟨_, _, rfl⟩ | cases e4
    have q5 : ∃ f, vs.getD 9 .none = .bool f := by
      revert e5
      cases vs.getD 9 .none <;> intro e5 <;> first | exact ⟨_, rfl⟩ | cases e5
    have q6 : ∃ f t, vs.getD 10 .none = .int f t := by
      revert e6
      cases vs.getD 10 .none <;> intro e6 <;> first | exact ⟨_, _, rfl⟩ | cases e6
    obtain ⟨a1, a2, a3⟩ := q3
    obtain ⟨b1, b2, b3⟩ := q4
    obtain ⟨c1, c3⟩ := q5
    obtain ⟨d1, d2, d3⟩ := q6
    exact ⟨_, vs, a1, a2, b1, b2, c1, d1, d2, X _ _ hl, rfl, rfl, q2, q2', a3, b3, c3, d3, fun z => by rw [z, Nat.beq_refl] at e7; cases e7⟩
  · cases e
theorem facts {h : Heap} (S : Says h) : ∃ K : PySem.W.Frag, K.In h ∧ (∀ mg, h.Ns mainGlobals mg → Txt K mg) ∧ (h.get? 534 = some { cls := .none, data := .fields #[] } ∧ h.get? 732 = some { cls := .none, data := .fields #[] }) ∧ (K.lookup 534 = none ∧ K.lookup 732 = none) ∧
    PySem.W.CodeHd h 538 534 ∧ PySem.W.CodeHd h 736 732 := by
  obtain ⟨⟨K, X, c⟩, t1, t2⟩ := S
  have c1 := congrArg Prod.fst c
  have c2 := congrArg Prod.snd c
  simp only [obsK, valK, Bool.and_eq_true, List.all_eq_true, Option.isNone_iff_eq_none] at c1
  obtain ⟨⟨a1, a2, a3, a4⟩, a5, a6⟩ := c1
  have c2 : (fn.map fun d => fnW K d.at_) = fn.map DefE.val := c2
  refine ⟨K, X, fun mg G => ⟨fun i f hf => Fb.ok_says X G f (a1 f (List.mem_of_getElem? hf)), fun i d hd => DefE.ok_says (a2 d (List.mem_of_getElem? hd)) ?_⟩, ⟨tabE_eq t1, tabE_eq t2⟩, ⟨a5, a6⟩, codeB_hd X a3, codeB_hd X a4⟩
  have e := congrArg (fun l => l[i]?) c2
  simp only [List.getElem?_map, hd, Option.map_some, Option.some.injEq] at e
  exact e
theorem run (w : World) : HandSHeadRun.RunEq R (PySem.W.view R.prog [83]) hk ob 20000 nms w := by
  intro os
  kernel_rfl
end
end Z
section
set_option maxHeartbeats 0
open PySem PySem.W PySem.Calls PyProof.Rows
/-- the head: what is left is the law's promise at the head's heap -/
theorem Z.head (F : ∀ (w : World) (mg : PySem.Str → Option Value) (fa : Addr) (h : Heap), Z.Says h → h.Ns mainGlobals mg → mg ("law" : PySem.Str) = some (.ref fa) → ∃ K : PySem.W.Frag, K.In h ∧ LamX.LawAtS PySem.Challenge.rw_slanttiles_k78_whole_a_walk_is_a_run w K C8.CX0 14 63 "_law_script" mg fa h) :
    PySem.Challenge.rw_slanttiles_k78_whole_a_walk_is_a_run.Holds := by
  w_on; o_law
  refine HandSHeadRun.head_any (r := OpenLaw.row PySem.Challenge.rw_slanttiles_k78_whole_a_walk_is_a_run) (q := view (OpenLaw.row PySem.Challenge.rw_slanttiles_k78_whole_a_walk_is_a_run).prog [83]) (H := Z.hk) (ob := Z.ob) (M := 20000) (loose := Z.nms) (d := HandSHeadRun.topDef (OpenLaw.row PySem.Challenge.rw_slanttiles_k78_whole_a_walk_is_a_run).prog 83) (kwd := []) Z.ob_eq
    (by kernel_rfl) (fun s => by kernel_rfl) Z.run (by kernel_rfl) (by kernel_rfl) (by kernel_rfl) (by rfl) (by first | assumption | decide +kernel) (by decide +kernel) ⟨rfl, rfl, rfl, rfl, rfl, by decide +kernel⟩ ?hw ?hc
  case hw => w_witness2
  case hc =>
    refine LamX.walk_ofTsE (l := PySem.Challenge.rw_slanttiles_k78_whole_a_walk_is_a_run) (n := 63) (k := 14) (x := "_law_script") (CX := fun _ => C8.CX0) rfl (by decide) (by kernel_rfl) ⟨rfl, by decide, by decide⟩ ?F (fun _ _ _ _ _ z => z)
    intro w mg fa h Y G hmg0
    have hmg : mg ("law" : PySem.Str) = some (.ref fa) := by
      have e : (HandSHeadRun.topDef (OpenLaw.row PySem.Challenge.rw_slanttiles_k78_whole_a_walk_is_a_run).prog 83).name = ("law" : PySem.Str) := by kernel_rfl
      rw [← e]
      exact hmg0
    exact F w mg fa h Y G hmg
end
namespace Z
open PySem PySem.Spec PyProof.Rows L2
section
set_option maxHeartbeats 4000000
/-! ### a pair of an int and a tuple of ints: spots and takes -/
abbrev Sp2 : Type := Int × List Int
def kS (s : Sp2) : NestedKey := .tup [.num s.1, .tup (s.2.map .num)]
theorem nums_inj : ∀ {a b : List Int}, a.map NestedKey.num = b.map NestedKey.num → a = b
  | [], [], _ => rfl
  | [], _ :: _, h => by cases h
  | _ :: _, [], h => by cases h
  | x :: a, y :: b, h => by
    simp only [List.map_cons, List.cons.injEq, NestedKey.num.injEq] at h
    rw [h.1, nums_inj h.2]
theorem kS_inj {s t : Sp2} (h : kS s = kS t) : s = t := by
  unfold kS at h
  simp only [NestedKey.tup.injEq, List.cons.injEq, NestedKey.num.injEq, and_true] at h
  exact Prod.ext h.1 (nums_inj h.2)
theorem depth_nums : ∀ l : List Int, NestedKey.depthAll (l.map NestedKey.num) = 0
  | [] => by simp [NestedKey.depthAll]
  | x :: l => by simp [NestedKey.depthAll, NestedKey.depth, depth_nums l]
theorem kS_depth (s : Sp2) : (kS s).depth = 2 := by
  simp [kS, NestedKey.depth, NestedKey.depthAll, depth_nums]
/-- at a stands the tuple (s.1, s.2), s.2 a tuple -/
def IsS (h : Heap) (s : Sp2) (a : Addr) : Prop := ∃ (t : Tok) (b : Addr) (vs : List Value), h.IsTuple a #[.int s.1 t, .ref b] ∧ h.IsTuple b vs.toArray ∧ IntsAre vs s.2
theorem nums_all {h : Heap} : ∀ {vs : List Value} {ns : List Int}, IntsAre vs ns → NestedAll h (ns.map .num) vs
  | _, _, .nil => .nil
  | _, _, .cons n t x => .cons (.int n t) (nums_all x)
theorem IsS.key {h : Heap} {s : Sp2} {a : Addr} (x : IsS h s a) : NestedIs h (kS s) (.ref a) := by
  obtain ⟨t, b, vs, ⟨o, h1, h2, n, h3⟩, ⟨o', k1, k2, n', k3⟩, hi⟩ := x
  exact .tup h1 h2 h3 (.cons (.int _ _) (.cons (.tup k1 k2 k3 (by simpa using nums_all hi)) .nil))
theorem IsS.kind {P : Program} {w : World} {h : Heap} {s : Sp2} {a : Addr} (x : IsS h s a) : (nestedKind P w).is h (kS s) a := ⟨x.key, by rw [kS_depth]; decide⟩
theorem IsS.one {h : Heap} {s s' : Sp2} {a : Addr} (x : IsS h s a) (y : IsS h s' a) : s = s' := kS_inj (NestedIs.inj _ _ _ x.key y.key)
theorem IsS.stay {h h' : Heap} {s : Sp2} {a : Addr} (x : IsS h s a) (k : ∀ b o vs n, h.get? b = some o → o.data = .seq vs n → h'.get? b = some o) : IsS h' s a := by
  obtain ⟨t, b, vs, ⟨o, h1, h2, n, h3⟩, ⟨o', k1, k2, n', k3⟩, hi⟩ := x
  exact ⟨t, b, vs, ⟨o, k _ _ _ _ h1 h3, h2, n, h3⟩, ⟨o', k _ _ _ _ k1 k3, k2, n', k3⟩, hi⟩
theorem IsS.but {h h' : Heap} {s : Sp2} {a d : Addr} (x : IsS h s a) (hs : Heap.SameBut d h h') (hd : ∃ o es ep t, h.get? d = some o ∧ o.data = .set es ep t) : IsS h' s a := x.stay fun b o vs n e1 e2 => by
  refine (hs.2 b fun e => ?_).trans e1
  obtain ⟨o', es, ep, t, f1, f2⟩ := hd
  rw [e, f1] at e1
  cases e1
  rw [f2] at e2
  cases e2

section
variable {P : Program} {w : World} {A : Around} {E : Value → Shared → Prop} {s : Shared}
/-! ### what a search asks of tuples -/
theorem noClass_tup {n : Nat} {a : Addr} {items : Array Value} {Q : Bool → Shared → Prop} (ha : s.heap.IsTuple a items)
    (all : ∀ v ∈ items.toList, ∀ R : Bool → Shared → Prop, R false s → wpAny (model P w) A (ofAClassStatement n v) R E s) (q : Q false s) : wpAny (model P w) A (ofAClassStatement (n + 1) (.ref a)) Q E s := by
  obtain ⟨o, e1, e2, k, e3⟩ := ha
  have ty : s.TypeIs (.ref a) "tuple" := ⟨o, e1, e2⟩
  have c : (("tuple" : String) == "tuple") = true := by decide
  unfold ofAClassStatement
  apply wpAny_bind
  apply wpAny_typeOf ty
  dsimp only
  simp only [c, if_true, Bool.not_true, Bool.false_eq_true, if_false]
  try apply wpAny_bind
  try apply wpAny_pure
  try simp only [Bool.not_true, Bool.false_eq_true, if_false]
  show wpAny _ _ (seqItems? (.ref a) >>= _) _ _ s
  apply wpAny_bind
  apply wpAny_seqItems e1 e3
  dsimp only
  apply wpAny_bind
  show wpAny _ _ (forIn items _ _) _ _ s
  rw [← Array.forIn_toList]
  refine wpAny_forIn_list _ (fun l r z => (r.1 = none ∧ z = s) ∧ ∀ v ∈ l, v ∈ items.toList) _ (fun v l r z hz => ?_) (fun r z hz => ?_) _ _ ⟨⟨rfl, rfl⟩, fun _ m => m⟩
  · obtain ⟨⟨hr, rfl⟩, hm⟩ := hz
    apply wpAny_bind
    refine all v (hm v List.mem_cons_self) _ ?_
    simp only [Bool.false_eq_true, if_false]
    exact wpAny_pure ⟨⟨rfl, rfl⟩, fun u hu => hm u (List.mem_cons_of_mem _ hu)⟩
  · obtain ⟨r1, r2⟩ := r
    obtain ⟨⟨hr, rfl⟩, _⟩ := hz
    dsimp only at hr
    rw [hr]
    exact wpAny_pure q
theorem ints_shape : ∀ {vs : List Value} {ns : List Int}, IntsAre vs ns → ∀ v ∈ vs, ∃ i t, v = Value.int i t
  | _, _, .nil, _, h => by cases h
  | _, _, .cons n t x, v, h => by
    rcases List.mem_cons.mp h with e | m
    · exact ⟨n, t, e⟩
    · exact ints_shape x v m
theorem noClass_S {z : Sp2} {a : Addr} {Q : Bool → Shared → Prop} (x : IsS s.heap z a) (q : Q false s) : wpAny (model P w) A (ofAClassStatement 8 (.ref a)) Q E s := by
  obtain ⟨t, b, vs, ha, hb, hi⟩ := x
  refine noClass_tup (n := 7) ha (fun v hv R r => ?_) q
  have hv' : v = Value.int z.1 t ∨ v = Value.ref b := by simpa using hv
  rcases hv' with e | e
  · rw [e, ofAClass_int]
    exact wpAny_pure r
  · rw [e]
    refine noClass_tup (n := 6) hb (fun u hu R' r' => ?_) r
    obtain ⟨i, t', e'⟩ := ints_shape hi u (by simpa using hu)
    rw [e', ofAClass_int]
    exact wpAny_pure r'
theorem byValue_tup {n : Nat} {a : Addr} {items : Array Value} {Q : Bool → Shared → Prop} (ha : s.heap.IsTuple a items)
    (all : ∀ v ∈ items.toList, ∀ R : Bool → Shared → Prop, R true s → wpAny (model P w) A (hashByValue n v) R E s) (q : Q true s) : wpAny (model P w) A (hashByValue (n + 1) (.ref a)) Q E s := by
  obtain ⟨o, e1, e2, k, e3⟩ := ha
  have ty : s.TypeIs (.ref a) "tuple" := ⟨o, e1, e2⟩
  unfold hashByValue
  apply wpAny_bind
  apply wpAny_specialOf ty F.slot_tuple_hash.lookup
  show wpAny _ _ (seqItems? (.ref a) >>= _) _ _ s
  apply wpAny_bind
  apply wpAny_seqItems e1 e3
  apply wpAny_bind
  show wpAny _ _ (forIn items _ _) _ _ s
  rw [← Array.forIn_toList]
  refine wpAny_forIn_list _ (fun l r z => (r.1 = none ∧ z = s) ∧ ∀ v ∈ l, v ∈ items.toList) _ (fun v l r z hz => ?_) (fun r z hz => ?_) _ _ ⟨⟨rfl, rfl⟩, fun _ m => m⟩
  · obtain ⟨⟨hr, rfl⟩, hm⟩ := hz
    apply wpAny_bind
    refine all v (hm v List.mem_cons_self) _ ?_
    simp only [Bool.not_true, Bool.false_eq_true, if_false]
    exact wpAny_pure ⟨⟨rfl, rfl⟩, fun u hu => hm u (List.mem_cons_of_mem _ hu)⟩
  · obtain ⟨r1, r2⟩ := r
    obtain ⟨⟨hr, rfl⟩, _⟩ := hz
    dsimp only at hr
    rw [hr]
    exact wpAny_pure q
theorem byValue_S {z : Sp2} {a : Addr} {Q : Bool → Shared → Prop} (x : IsS s.heap z a) (q : Q true s) : wpAny (model P w) A (hashByValue 8 (.ref a)) Q E s := by
  obtain ⟨t, b, vs, ha, hb, hi⟩ := x
  refine byValue_tup (n := 7) ha (fun v hv R r => ?_) q
  have hv' : v = Value.int z.1 t ∨ v = Value.ref b := by simpa using hv
  rcases hv' with e | e
  · rw [e, hashBy_int]
    exact wpAny_pure r
  · rw [e]
    refine byValue_tup (n := 6) hb (fun u hu R' r' => ?_) r
    obtain ⟨i, t', e'⟩ := ints_shape hi u (by simpa using hu)
    rw [e', hashBy_int]
    exact wpAny_pure r'
theorem unseen_S {z : Sp2} {a : Addr} {Q : Bool → Shared → Prop} (x : IsS s.heap z a) {ys : List Value} (hy : ∀ y ∈ ys, ∃ z' c, y = Value.ref c ∧ IsS s.heap z' c) (q : Q false s) :
    wpAny (model P w) A (searchCouldBeSeen (.ref a) ys) Q E s := by
  unfold searchCouldBeSeen
  apply wpAny_bind
  refine wpAny_forIn_list _ (fun l r z => (r.1 = none ∧ z = s) ∧ ∀ v ∈ l, v ∈ ys) _ (fun v l r z' hz => ?_) (fun r z' hz => ?_) _ _ ⟨⟨rfl, rfl⟩, fun _ m => m⟩
  · obtain ⟨⟨hr, rfl⟩, hm⟩ := hz
    have next : ∀ u ∈ l, u ∈ ys := fun u hu => hm u (List.mem_cons_of_mem _ hu)
    obtain ⟨z2, c, rfl, hc⟩ := hy v (hm v List.mem_cons_self)
    dsimp only
    by_cases same : (a == c || (carriedByValue (.ref a) && carriedByValue (.ref c))) = true
    · exact wp_if_pos same (wpAny_pure ⟨⟨rfl, rfl⟩, next⟩)
    · refine wp_if_neg same ?_
      apply wpAny_bind
      refine quiet_key _ _ 8 _ x.key (by rw [kS_depth]; decide) _ _ _ ?_
      simp only [Bool.not_true, Bool.false_eq_true, if_false]
      apply wpAny_bind
      refine quiet_key _ _ 8 _ hc.key (by rw [kS_depth]; decide) _ _ _ ?_
      simp only [Bool.not_true, Bool.false_eq_true, if_false]
      apply wpAny_bind
      refine noClass_S x ?_
      simp only [Bool.false_eq_true, if_false]
      apply wpAny_bind
      refine noClass_S hc ?_
      simp only [Bool.false_eq_true, if_false]
      exact wpAny_pure ⟨⟨rfl, rfl⟩, next⟩
  · obtain ⟨r1, r2⟩ := r
    obtain ⟨⟨hr, rfl⟩, _⟩ := hz
    dsimp only at hr
    rw [hr]
    exact wpAny_pure q
theorem eq_S {z z' : Sp2} {a b : Addr} {Q : Bool → Shared → Prop} (hu : A.units + 8 < cLine) (x : IsS s.heap z a) (y : IsS s.heap z' b) (q : Q (decide (z = z')) s) : wpAny (model P w) A (eqBool (.ref a) (.ref b)) Q E s := by
  refine (nestedKind P w).eqBool (x := kS z) (y := kS z') hu x.kind y.kind ?_
  have e : decide (kS z = kS z') = decide (z = z') := by
    by_cases h : z = z'
    · rw [h, decide_eq_true rfl, decide_eq_true rfl]
    · rw [decide_eq_false h, decide_eq_false fun c => h (kS_inj c)]
  rw [e]
  exact q
theorem hash_S {z : Sp2} {a : Addr} {Q : Int → Shared → Prop} (hu : A.units + 8 < cLine) (x : IsS s.heap z a) (q : Q ((kS z).hash w) { s with toks := s.toks + (kS z).draws }) : wpAny (model P w) A (pyHash (.ref a)) Q E s :=
  (nestedKind P w).pyHash (k := kS z) hu x.kind q
end
end
section
set_option maxHeartbeats 4000000
def rowsS (hf : Sp2 → Int) (L : List (Addr × Sp2)) : List (Int × Value) := L.map fun p => (hf p.2, Value.ref p.1)
/-- a set of such pairs stands at a -/
structure SetS (w : World) (hf : Sp2 → Int) (h : Heap) (a : Addr) (L : List (Addr × Sp2)) (es : Array (Int × Value)) (ep : Nat) (t : SetTable) : Prop where
  obj : ∃ o, h.get? a = some o ∧ o.ExactSet ∧ o.data = .set es ep t
  rows : es.toList = rowsS hf L
  tab : TabOk t (L.map fun p => hf p.2)
  nd : (L.map (·.2)).Nodup
  plain : t.plain = true
  led : w.params.followText "set-order" = true ∨ t.led = true
  room : L.length * 5 < t.mask * 3
  few : L.length < 64
theorem rowsS_len (hf : Sp2 → Int) (L : List (Addr × Sp2)) : (rowsS hf L).length = L.length := by unfold rowsS; rw [List.length_map]
section
variable {P : Program} {w : World} {hf : Sp2 → Int} {A : Around} {E : Value → Shared → Prop} {s : Shared} {a : Addr} {L : List (Addr × Sp2)} {es : Array (Int × Value)} {ep : Nat} {t : SetTable}
theorem size_of_rows (h : es.toList = rowsS hf L) : es.size = L.length := by
  rw [← Array.length_toList, h, rowsS_len]
theorem entry_of_rows (h : es.toList = rowsS hf L) {i : Nat} {p : Addr × Sp2} (e : L[i]? = some p) : es[i]? = some (hf p.2, Value.ref p.1) := by
  rw [← Array.getElem?_toList, h]
  unfold rowsS
  rw [List.getElem?_map, e]
  rfl
theorem fits_of (tab : TabOk t (L.map fun p => hf p.2)) (h : es.toList = rowsS hf L) (hm : L.length ≤ t.mask) : t.fits es.size = true := by
  have h1 := tab.sz
  have h2 := size_of_rows h
  rw [List.length_map] at h1
  unfold SetTable.fits SetTable.fill
  rw [tab.dm, Bool.and_eq_true, beq_iff_eq, decide_eq_true_eq]
  show t.place.size = es.size ∧ t.place.size + 0 ≤ t.mask
  omega
theorem SetS.fits (R : SetS w hf s.heap a L es ep t) : t.fits es.size = true := fits_of R.tab R.rows (by have := R.room; omega)
/-- one look of the search, from the c-th place of the way: the K-th place is the first empty one -/
theorem look_from (R : SetS w hf s.heap a L es ep t) (tup : ∀ p ∈ L, IsS s.heap p.2 p.1) {x : Addr} {z : Sp2} (hx : IsS s.heap z x) (hu : A.units + 8 < cLine) {K : Nat} (hKf : K < 10 * SetTable.turns t.mask)
    (free : way t.mask (hf z) K ∉ t.place.toList) (full : ∀ c, c < K → way t.mask (hf z) c ∈ t.place.toList) {Q : SetFound → Shared → Prop}
    (hin : z ∈ L.map (·.2) → Q (.there none) s) (hout : z ∉ L.map (·.2) → Q (.free (way t.mask (hf z) K) false) s) :
    ∀ (left c f : Nat) (stand : Option SetTable.Probe), K - c ≤ left → c ≤ K → left < f →
      stand.getD (t.probeStart (hf z)) = nth t.mask (runAt t.mask (SetTable.bits (hf z) % (t.mask + 1)) (SetTable.bits (hf z))) c →
      (∀ (i : Nat) p, L[i]? = some p → p.2 = z → ∃ d, c ≤ d ∧ d < K ∧ t.place.toList[i]? = some (way t.mask (hf z) d)) →
      wpAny (model P w) A (setSearchFrom a (.ref x) (hf z) true f stand) Q E s := by
  obtain ⟨o, ho, hex, hd⟩ := R.obj
  have odd : ¬ t.gaveWay = true := by
    unfold SetTable.gaveWay
    rw [mask_odd R.tab.mok]
    decide
  have clean : ∀ (n : Nat) (p : SetTable.Probe), p.dummy = none → (nth t.mask p n).dummy = none := by
    intro n
    induction n with
    | zero => exact fun _ h => h
    | succ n ih =>
      intro p h
      refine ih (adv t.mask p) ?_
      unfold adv
      split <;> exact h
  have hash_at : ∀ (i : Nat) p, L[i]? = some p → (es[i]?.map (·.1)).getD 0 = hf p.2 := fun i p hp => by
    rw [entry_of_rows R.rows hp]
    rfl
  generalize hp0 : runAt t.mask (SetTable.bits (hf z) % (t.mask + 1)) (SetTable.bits (hf z)) = p0
  have wayE : ∀ n, way t.mask (hf z) n = (nth t.mask p0 n).j := fun n => by rw [← hp0]
  have dm0 : p0.dummy = none := by rw [← hp0]; rfl
  intro left
  induction left with
  | zero =>
    intro c f stand hl hc hfu hst inside
    have ec : c = K := by omega
    subst ec
    cases f with
    | zero => exact absurd hfu (Nat.not_lt_zero _)
    | succ f =>
      rw [setSearchFrom_succ]
      apply wpAny_bind
      apply wpAny_setState_of ho hd R.fits
      dsimp only
      refine wp_if_neg odd ?_
      try apply wpAny_bind; apply wpAny_pure
      have spec := go_spec t R.tab.ris R.tab.dm (fun i => (es[i]?.map (·.1)).getD 0) (hf z) (10 * SetTable.turns t.mask) 0 (nth t.mask p0 c) (clean c p0 dm0) (by omega) (fun k hk => absurd hk (Nat.not_lt_zero _)) (by
        show (nth t.mask p0 c).j ∉ t.place.toList
        rw [← wayE]
        exact free)
      rcases spec with ⟨k, _, hk, _⟩ | ⟨_, hpr⟩
      · exact absurd hk (Nat.not_lt_zero _)
      · have e : t.probe (fun i => (es[i]?.map (·.1)).getD 0) (hf z) (stand.getD (t.probeStart (hf z))) = some (.empty (way t.mask (hf z) c) none) := by
          rw [hst, wayE]
          exact hpr
        rw [e]
        dsimp only
        refine wpAny_pure (hout fun hm => ?_)
        obtain ⟨p, hp, e2⟩ := List.mem_map.mp hm
        obtain ⟨i, hi, e3⟩ := List.getElem_of_mem hp
        obtain ⟨d, d1, d2, _⟩ := inside i p (by rw [List.getElem?_eq_getElem hi, e3]) e2
        omega
  | succ left ih =>
    intro c f stand hl hc hfu hst inside
    cases f with
    | zero => exact absurd hfu (Nat.not_lt_zero _)
    | succ f =>
      rw [setSearchFrom_succ]
      apply wpAny_bind
      apply wpAny_setState_of ho hd R.fits
      dsimp only
      refine wp_if_neg odd ?_
      try apply wpAny_bind; apply wpAny_pure
      have shift : ∀ n, nth t.mask (nth t.mask p0 c) n = nth t.mask p0 (c + n) := fun n => (nth_add t.mask c p0 n).symm
      have spec := go_spec t R.tab.ris R.tab.dm (fun i => (es[i]?.map (·.1)).getD 0) (hf z) (10 * SetTable.turns t.mask) (K - c) (nth t.mask p0 c) (clean c p0 dm0) (by omega) (fun k hk => by
          rw [shift, ← wayE]
          exact full (c + k) (by omega)) (by
          rw [shift, ← wayE, show c + (K - c) = K by omega]
          exact free)
      rcases spec with ⟨q, i, hq, hi, hh, before, hpr⟩ | ⟨none_, hpr⟩
      · rw [shift, ← wayE] at hi
        have e : t.probe (fun i => (es[i]?.map (·.1)).getD 0) (hf z) (stand.getD (t.probeStart (hf z))) = some (.candidate (way t.mask (hf z) (c + q)) i (nth t.mask p0 (c + (q + 1)))) := by
          rw [hst, wayE, ← shift, ← shift]
          exact hpr
        rw [e]
        dsimp only
        have il : i < L.length := by
          have h1 := (List.getElem?_eq_some_iff.mp hi).1
          have h2 := R.tab.sz
          rw [List.length_map] at h2
          rw [Array.length_toList] at h1
          omega
        obtain ⟨p, hp⟩ : ∃ p, L[i]? = some p := ⟨_, List.getElem?_eq_getElem il⟩
        have pm : p ∈ L := List.mem_of_getElem? hp
        have slot : t.slot (way t.mask (hf z) (c + q)) = .live i := slot_live R.tab.ris hi
        have go : wpAny (model P w) A (searchRest a (.ref x) (hf z) true f es t (way t.mask (hf z) (c + q)) i (nth t.mask p0 (c + (q + 1)))) Q E s := by
          unfold searchRest
          rw [entry_of_rows R.rows hp]
          dsimp only
          apply wpAny_bind
          apply wpAny_holding
          refine eq_S hu (tup p pm) hx ?_
          apply wpAny_bind
          apply wpAny_setState_of ho hd R.fits
          dsimp only
          by_cases same : p.2 = z
          · refine wp_if_pos (by simp [same]) (wpAny_pure (hin ?_))
            exact List.mem_map.mpr ⟨p, pm, same⟩
          · refine wp_if_neg (by simp [same]) ?_
            try apply wpAny_bind; apply wpAny_pure
            rw [sameMem]
            dsimp only
            simp only [if_true, slot, entry_of_rows R.rows hp]
            refine wpAny_bind (wpAny_isSame_ref_self (wpAny_bind (wpAny_pure ?_)))
            simp only [if_true]
            refine wp_if_neg (by simp [same]) ?_
            refine ih (c + (q + 1)) f _ (by omega) (by omega) (by omega) rfl fun j p' hj hz' => ?_
            obtain ⟨d, d1, d2, d3⟩ := inside j p' hj hz'
            refine ⟨d, ?_, d2, d3⟩
            rcases Nat.lt_trichotomy d (c + q) with lt | eq | gt
            · refine absurd ((hash_at j p' hj).trans (congrArg hf hz')) (before (d - c) j (by omega) ?_)
              rw [shift, ← wayE, show c + (d - c) = d by omega]
              exact d3
            · rw [eq] at d3
              have other := slot_live R.tab.ris d3
              rw [slot] at other
              injection other with other
              rw [← other, hp] at hj
              exact absurd ((congrArg Prod.snd (Option.some.inj hj)).trans hz') same
            · omega
        by_cases hled : t.led = true
        · refine wp_if_neg (by simp [hled]) ?_
          try apply wpAny_bind; apply wpAny_pure
          exact go
        · refine wp_if_pos (by simp [hled]) ?_
          refine wpAny_bind (unseen_S hx (fun y hy => ?_) ?_)
          · obtain ⟨en, he, ee⟩ := List.mem_map.mp hy
            have he1 : en ∈ es ∧ en.1 = hf z := by simpa using he
            have he2 : en ∈ es.toList := by simpa using he1.1
            rw [R.rows] at he2
            obtain ⟨p2, hp2, e2⟩ := List.mem_map.mp he2
            refine ⟨p2.2, p2.1, ?_, tup p2 hp2⟩
            rw [← ee, ← e2]
          · refine wp_if_neg (by decide) ?_
            try apply wpAny_bind; apply wpAny_pure
            exact go
      · have e : t.probe (fun i => (es[i]?.map (·.1)).getD 0) (hf z) (stand.getD (t.probeStart (hf z))) = some (.empty (way t.mask (hf z) K) none) := by
          have e2 : way t.mask (hf z) K = (nth t.mask (nth t.mask p0 c) (K - c)).j := by
            rw [shift, wayE, show c + (K - c) = K by omega]
          rw [hst, e2]
          exact hpr
        rw [e]
        dsimp only
        refine wpAny_pure (hout fun hm => ?_)
        obtain ⟨p, hp, e2⟩ := List.mem_map.mp hm
        obtain ⟨i, hi, e3⟩ := List.getElem_of_mem hp
        have hi' : L[i]? = some p := by rw [List.getElem?_eq_getElem hi, e3]
        obtain ⟨d, d1, d2, d3⟩ := inside i p hi' e2
        refine absurd ((hash_at i p hi').trans (congrArg hf e2)) (none_ (d - c) i (by omega) ?_)
        rw [shift, ← wayE, show c + (d - c) = d by omega]
        exact d3
/-- the search as adding asks for it -/
theorem look_S (R : SetS w hf s.heap a L es ep t) (tup : ∀ p ∈ L, IsS s.heap p.2 p.1) {x : Addr} {z : Sp2} (hx : IsS s.heap z x) (hu : A.units + 8 < cLine) {Q : SetFound → Shared → Prop}
    (hin : z ∈ L.map (·.2) → Q (.there none) s)
    (hout : ∀ K, z ∉ L.map (·.2) → way t.mask (hf z) K ∉ t.place.toList → (∀ c, c < K → way t.mask (hf z) c ∈ t.place.toList) → Q (.free (way t.mask (hf z) K) false) s) :
    wpAny (model P w) A (setSearch a (.ref x) (hf z) true) Q E s := by
  have rm := R.room
  obtain ⟨K, k1, k2, k3⟩ := R.tab.first (by rw [List.length_map]; omega) (hf z)
  have big : K < 100000 := by
    have : 10 * SetTable.turns t.mask ≤ 1420 := by
      unfold SetTable.turns
      rcases R.tab.mok with e | e | e <;> omega
    omega
  unfold setSearch
  refine look_from R tup hx hu k1 k2 k3 hin (fun hn => hout K hn k2 k3) K 0 100000 none (by omega) (Nat.zero_le _) big rfl fun i p hp hz' => ?_
  have h1 : (L.map fun p => hf p.2)[i]? = some (hf z) := by rw [List.getElem?_map, hp, ← hz']; rfl
  have h2 : i < t.place.toList.length := by
    have q := (List.getElem?_eq_some_iff.mp hp).1
    have q2 := R.tab.sz
    rw [List.length_map] at q2
    rw [Array.length_toList]
    omega
  obtain ⟨d, d1, d2⟩ := R.tab.before k2 h1 (List.getElem?_eq_getElem h2)
  exact ⟨d, Nat.zero_le _, d1, by rw [List.getElem?_eq_getElem h2, d2]⟩
end
end
section
set_option maxHeartbeats 4000000
section
variable {P : Program} {w : World} {hf : Sp2 → Int} {A : Around} {E : Value → Shared → Prop} {s : Shared} {a : Addr} {L : List (Addr × Sp2)} {es : Array (Int × Value)} {ep : Nat} {t : SetTable}
theorem middle_perm {α : Type} (L : List α) (p : Nat) (x : α) : (L.take p ++ x :: L.drop p).Perm (x :: L) := by
  have h : (L.take p ++ x :: L.drop p).Perm (x :: (L.take p ++ L.drop p)) := List.perm_middle
  rwa [List.take_append_drop] at h
/-- the entries in another order -/
theorem reorder (hr : es.toList = rowsS hf L) (order : Array Nat) (hp : order.toList.Perm (List.range L.length)) :
    ∃ L2, (order.filterMap (es[·]?)).toList = rowsS hf L2 ∧ L2.Perm L ∧ (L2.map fun p => hf p.2) = order.toList.map fun i => (es.map (·.1)).getD i 0 := by
  have key : ∀ l : List Nat, (∀ i ∈ l, i < L.length) → ∃ L2 : List (Addr × Sp2), l.filterMap (fun i => es[i]?) = rowsS hf L2 ∧ L2 = l.filterMap (fun i => L[i]?) ∧ (L2.map fun p => hf p.2) = l.map fun i => (es.map (·.1)).getD i 0 := by
    intro l
    induction l with
    | nil => exact fun _ => ⟨[], rfl, rfl, rfl⟩
    | cons i l ih =>
      intro hl
      obtain ⟨L2, e1, e2, e3⟩ := ih fun j hj => hl j (List.mem_cons_of_mem _ hj)
      have hi := List.getElem?_eq_getElem (hl i List.mem_cons_self)
      have he := entry_of_rows hr hi
      refine ⟨L[i]'(hl i List.mem_cons_self) :: L2, ?_, ?_, ?_⟩
      · rw [List.filterMap_cons_some he, e1]
        rfl
      · rw [List.filterMap_cons_some hi, e2]
      · have h1 : (es.map (·.1))[i]? = some (hf (L[i]'(hl i List.mem_cons_self)).2) := by rw [Array.getElem?_map, he]; rfl
        rw [List.map_cons, List.map_cons, e3]
        congr 1
        simp [Array.getD_eq_getD_getElem?, h1]
  obtain ⟨L2, e1, e2, e3⟩ := key order.toList fun i hi => List.mem_range.mp (hp.mem_iff.mp hi)
  refine ⟨L2, by first | (rw [Array.toList_filterMap]; exact e1) | simpa using e1, ?_, e3⟩
  have all : ∀ n, n ≤ L.length → (List.range n).filterMap (fun i => L[i]?) = L.take n := by
    intro n
    induction n with
    | zero => exact fun _ => rfl
    | succ n ih =>
      intro hn
      rw [List.range_succ, List.filterMap_append, ih (Nat.le_of_lt hn), List.take_succ, List.getElem?_eq_getElem hn]
      rw [List.filterMap_cons_some (List.getElem?_eq_getElem hn)]
      rfl
  have q : L2.Perm ((List.range L.length).filterMap fun i => L[i]?) := by
    rw [e2]
    exact hp.filterMap _
  rwa [all _ (Nat.le_refl _), List.take_length] at q
/-- the table laid anew, larger -/
theorem relay_S {o : Obj} (ho : s.heap.get? a = some o) (hex : o.ExactSet) (hd : o.data = .set es ep t) (hr : es.toList = rowsS hf L) (tab : TabOk t (L.map fun p => hf p.2)) (hm : L.length ≤ t.mask) (nd : (L.map (·.2)).Nodup)
    (pl : t.plain = true) (ld : w.params.followText "set-order" = true ∨ t.led = true) (few : L.length < 64) {wanted M : Nat}
    (hw : SetTable.sizeAbove wanted - 1 = M) (hM : MaskOk M) (hw2 : SetTable.sizeAbove wanted ≤ 128) (hn : L.length * 5 < M * 3) {Q : Unit → Shared → Prop}
    (hQ : ∀ h' L' es' ep' t', Heap.SameBut a s.heap h' → SetS w hf h' a L' es' ep' t' → L'.Perm L → Q () { s with heap := h' }) : wpAny (model P w) A (setRelay a wanted) Q E s := by
  have sz := size_of_rows hr
  obtain ⟨t', order, e, hp, T, em, el, ep2, ed⟩ := relaid_ok t (hs := es.map (·.1)) (wanted := wanted) hw hM (by rw [Array.size_map, sz]; omega)
  rw [Array.size_map, sz] at hp
  obtain ⟨L2, r1, r2, r3⟩ := reorder hr order hp
  rw [← r3] at T
  have sz2 : (order.filterMap (es[·]?)).size = es.size := by rw [size_of_rows r1, r2.length_eq, sz]
  rw [setRelay_eq]
  apply wpAny_bind
  apply wpAny_setState_of ho hd (fits_of tab hr hm)
  dsimp only
  refine wp_if_neg (by rw [sizeLine_eq]; omega) ?_
  try apply wpAny_bind; apply wpAny_pure
  rw [e]
  dsimp only
  apply wpAny_bind
  refine wp_if_neg (by rw [sz2]; simp) ?_
  try apply wpAny_bind; apply wpAny_pure
  apply wpAny_pure
  dsimp only
  refine wpAny_storeSet_of ho hd ?_ (by rw [sz2, sz, sizeLine_eq]; omega)
  refine hQ _ L2 (order.filterMap (es[·]?)) (ep + 1) t' (Heap.SameBut.update ..) ⟨⟨_, store_at ho hd, ⟨hex.1, hex.2.1, hex.2.2⟩, rfl⟩, r1, T, (r2.map (·.2)).nodup_iff.mpr nd, by rw [ep2]; exact pl, by rw [el]; exact ld, ?_, by rw [r2.length_eq]; exact few⟩ r2
  rw [r2.length_eq, em]
  exact hn
/-- adding -/
theorem add_S (R : SetS w hf s.heap a L es ep t) (tup : ∀ p ∈ L, IsS s.heap p.2 p.1) {x : Addr} {z : Sp2} (hx : IsS s.heap z x) (hu : A.units + 8 < cLine) (hfew : L.length + 1 < 64) {Q : Bool → Shared → Prop}
    (hQ : ∀ b h' L' es' ep' t', Heap.SameBut a s.heap h' → SetS w hf h' a L' es' ep' t' → (z ∈ L.map (·.2) → L' = L) → (z ∉ L.map (·.2) → L'.Perm ((x, z) :: L)) → Q b { s with heap := h' }) :
    wpAny (model P w) A (setAddHashed a (.ref x) (hf z)) Q E s := by
  obtain ⟨o, ho, hex, hd⟩ := R.obj
  have sz := size_of_rows R.rows
  have rm := R.room
  unfold setAddHashed
  apply wpAny_holding
  rw [show (100000 : Nat) = 99999 + 1 from rfl, setAddHashedIn_succ]
  apply wpAny_bind
  apply wpAny_setState_of ho hd R.fits
  dsimp only
  refine wp_if_neg (by simp [byScan, Value.scannable]) ?_
  try apply wpAny_bind; apply wpAny_pure
  apply wpAny_bind
  refine look_S R tup hx hu (fun hm => ?_) fun K hm free full => ?_
  · dsimp only
    exact wpAny_pure (hQ false s.heap L es ep t (Heap.SameBut.refl a s.heap) R (fun _ => rfl) fun c => absurd hm c)
  · dsimp only
    apply wpAny_bind
    apply wpAny_setState_of ho hd R.fits
    dsimp only
    obtain ⟨q1, q2, q3, q4, q5, q6, q7, q8, q9⟩ := R.tab.put free full
    have pl1 : (t.put (way t.mask (hf z) K)).1.plain = true := by rw [q6]; exact R.plain
    generalize hpt : t.put (way t.mask (hf z) K) = pt at q1 q3 q4 q5 q6 q7 q8 q9 pl1 ⊢
    obtain ⟨t1, p⟩ := pt
    dsimp only at q1 q3 q4 q5 q6 q7 q8 q9 pl1 ⊢
    subst q1
    first
      | (apply wpAny_bind; refine wp_if_pos pl1 ?_; refine byValue_S hx ?_)
      | refine wp_if_pos pl1 (wpAny_bind (byValue_S hx ?_))
    simp only [if_true]
    have rows1 : (SetTable.insertAt es (SetTable.below t.place (way t.mask (hf z) K)) (hf z, Value.ref x)).toList = rowsS hf (L.take (SetTable.below t.place (way t.mask (hf z) K)) ++ (x, z) :: L.drop (SetTable.below t.place (way t.mask (hf z) K))) := by
      rw [SetTable.toList_insertAt, R.rows]
      unfold rowsS
      rw [List.map_append, List.map_cons, List.map_take, List.map_drop]
    generalize SetTable.below t.place (way t.mask (hf z) K) = p at q2 q3 rows1 ⊢
    have pm := middle_perm L p (x, z)
    have len1 : (L.take p ++ (x, z) :: L.drop p).length = L.length + 1 := pm.length_eq
    have maps : (L.take p ++ (x, z) :: L.drop p).map (fun p => hf p.2) = (L.map fun p => hf p.2).take p ++ hf z :: (L.map fun p => hf p.2).drop p := by
      rw [List.map_append, List.map_cons, List.map_take, List.map_drop]
    rw [← maps] at q3
    have nd1 : ((L.take p ++ (x, z) :: L.drop p).map (·.2)).Nodup := by
      refine (pm.map (·.2)).nodup_iff.mpr ?_
      rw [List.map_cons]
      exact List.nodup_cons.mpr ⟨hm, R.nd⟩
    generalize SetTable.insertAt es p (hf z, Value.ref x) = es1 at rows1 ⊢
    generalize L.take p ++ (x, z) :: L.drop p = L1 at pm len1 q3 nd1 rows1
    have sz1 := size_of_rows rows1
    apply wpAny_bind
    refine wpAny_storeSet_of ho hd ?_ (by rw [sz1, len1, sizeLine_eq]; omega)
    have sb : Heap.SameBut a s.heap (s.heap.update a (Obj.putSet es1 t1)) := Heap.SameBut.update ..
    have ho1 := store_at (es' := es1) (t' := t1) ho hd
    generalize s.heap.update a (Obj.putSet es1 t1) = h1 at sb ho1 ⊢
    have ld1 : w.params.followText "set-order" = true ∨ t1.led = true := by rw [q5]; exact R.led
    by_cases full1 : t1.tooFull = true
    · first
        | (apply wpAny_bind; refine wp_if_pos (by simp [full1]) ?_)
        | (refine wp_if_pos (by simp [full1]) ?_; apply wpAny_bind)
      have much : (L.length + 1) * 5 ≥ t1.mask * 3 := by
        have h := full1
        unfold SetTable.tooFull at h
        rw [decide_eq_true_eq, q9, List.length_map] at h
        exact h
      rw [sz]
      have which : (t.mask = 7 ∧ L.length = 4) ∨ (t.mask = 31 ∧ L.length = 18) := by
        rcases R.tab.mok with e | e | e
        · left; rw [q4, e] at much; rw [e] at rm; exact ⟨e, by omega⟩
        · right; rw [q4, e] at much; rw [e] at rm; exact ⟨e, by omega⟩
        · exfalso; rw [q4, e] at much; omega
      have go : ∀ M, SetTable.sizeAbove (SetTable.grown (L.length + 1)) - 1 = M → MaskOk M → SetTable.sizeAbove (SetTable.grown (L.length + 1)) ≤ 128 → (L.length + 1) * 5 < M * 3 →
          wpAny (model P w) A (setRelay a (SetTable.grown (L.length + 1))) (fun _ s' => wpAny (model P w) A (pure true) Q E s') E { s with heap := h1 } := fun M g1 g2 g3 g4 =>
        relay_S (s := { s with heap := h1 }) ho1 ⟨hex.1, hex.2.1, hex.2.2⟩ rfl rows1 q3 (by rw [len1, q4]; rcases which with ⟨e, e2⟩ | ⟨e, e2⟩ <;> omega) nd1 pl1 ld1 (by rw [len1]; exact hfew) g1 g2 g3 (by rw [len1]; exact g4)
          fun h2 L2 es2 ep2 t2 sb2 R2 pm2 => wpAny_pure (hQ true h2 L2 es2 ep2 t2 (sb.trans sb2) R2 (fun c => absurd c hm) fun _ => pm2.trans pm)
      rcases which with ⟨_, e2⟩ | ⟨_, e2⟩
      · exact go 31 (by rw [e2, size_20]) (.inr (.inl rfl)) (by rw [e2, size_20]; decide) (by omega)
      · exact go 127 (by rw [e2, size_76]) (.inr (.inr rfl)) (by rw [e2, size_76]; decide) (by omega)
    · first
        | refine wp_if_neg (by simp [full1]) ?_
        | (apply wpAny_bind; refine wp_if_neg (by simp [full1]) ?_; apply wpAny_pure)
      refine wpAny_pure (hQ true h1 L1 es1 (ep + 1) t1 sb ⟨⟨_, ho1, ⟨hex.1, hex.2.1, hex.2.2⟩, rfl⟩, rows1, q3, nd1, pl1, ld1, ?_, by rw [len1]; exact hfew⟩ (fun c => absurd c hm) fun _ => pm)
      have h := full1
      unfold SetTable.tooFull at h
      rw [decide_eq_true_eq, q9, List.length_map] at h
      rw [len1]
      omega
/-- what the set has of the first i -/
structure Has (ks : List (Addr × Sp2)) (i : Nat) (L : List (Addr × Sp2)) : Prop where
  sub : ∀ p ∈ L, p ∈ ks.take i
  all : ∀ p ∈ ks.take i, p.2 ∈ L.map (·.2)
  len : L.length ≤ i
theorem take_one {α : Type} {l : List α} {i : Nat} {x : α} (h : l[i]? = some x) : l.take (i + 1) = l.take i ++ [x] := by
  rw [List.take_succ, h]
  rfl
theorem Has.next {ks L L' : List (Addr × Sp2)} {i : Nat} {x : Addr × Sp2} (g : Has ks i L) (h : ks[i]? = some x) (c1 : x.2 ∈ L.map (·.2) → L' = L) (c2 : x.2 ∉ L.map (·.2) → L'.Perm (x :: L)) : Has ks (i + 1) L' := by
  have e := take_one h
  rcases Classical.em (x.2 ∈ L.map (·.2)) with c | c
  · rw [c1 c]
    refine ⟨fun p hp => by rw [e]; exact List.mem_append_left _ (g.sub p hp), fun p hp => ?_, Nat.le_succ_of_le g.len⟩
    rw [e] at hp
    rcases List.mem_append.mp hp with m | m
    · exact g.all p m
    · rw [List.mem_singleton.mp m]; exact c
  · have pm := c2 c
    refine ⟨fun p hp => ?_, fun p hp => ?_, ?_⟩
    · rw [e]
      rcases List.mem_cons.mp (pm.mem_iff.mp hp) with m | m
      · rw [m]; exact List.mem_append_right _ (List.mem_singleton.mpr rfl)
      · exact List.mem_append_left _ (g.sub p m)
    · rw [(pm.map (·.2)).mem_iff, List.map_cons]
      rw [e] at hp
      rcases List.mem_append.mp hp with m | m
      · exact List.mem_cons_of_mem _ (g.all p m)
      · rw [List.mem_singleton.mp m]; exact List.mem_cons_self
    · rw [pm.length_eq, List.length_cons]
      exact Nat.succ_le_succ g.len
theorem SetS.stay {h h' : Heap} (R : SetS w hf h a L es ep t) (k : ∀ o, h.get? a = some o → h'.get? a = some o) : SetS w hf h' a L es ep t := by
  obtain ⟨o, ho, r⟩ := R.obj
  exact ⟨⟨o, k o ho, r⟩, R.rows, R.tab, R.nd, R.plain, R.led, R.room, R.few⟩
abbrev newSet (w : World) : Obj := { cls := .type "set", dict := none, data := .set #[] 0 (.fresh 0 0 (!w.params.followText "set-order")) }
theorem setS_new {h : Heap} (ho : h.get? a = some (newSet w)) : SetS w hf h a [] #[] 0 (.fresh 0 0 (!w.params.followText "set-order")) where
  obj := ⟨_, ho, ⟨rfl, rfl, rfl⟩, rfl⟩
  rows := rfl
  tab := ⟨List.Pairwise.nil, rfl, rfl, .inl rfl, fun x hx => (by cases hx), fun i h j hi => (by simp at hi)⟩
  nd := List.nodup_nil
  plain := rfl
  led := by
    show _ ∨ (!w.params.followText "set-order") = true
    cases w.params.followText "set-order"
    · exact .inr rfl
    · exact .inl rfl
  room := by
    show 0 * 5 < 7 * 3
    decide
  few := by
    show 0 < 64
    decide
end
end
section
set_option maxHeartbeats 4000000
def hz (w : World) (z : Sp2) : Int := (kS z).hash w
section
variable {P : Program} {w : World} {A : Around} {E : Value → Shared → Prop} {s : Shared} {a : Addr} {L : List (Addr × Sp2)} {es : Array (Int × Value)} {ep : Nat} {t : SetTable}
theorem hash_Z {z : Sp2} {a : Addr} {Q : Int → Shared → Prop} (hu : A.units + 8 < cLine) (x : IsS s.heap z a) (q : Q (hz w z) { s with toks := s.toks + (kS z).draws }) : wpAny (model P w) A (pyHash (.ref a)) Q E s := hash_S hu x q
/-- set.update's loop over a walk of such pairs -/
theorem fill_S {I : Addr} {fp wr : List Addr} {G : Array GenState → Array GenState → Prop} {n : Nat} {Pv : Nat → Value → Prop} {St : Nat → Shared → Prop} {R : Result → Shared → Prop}
    (W : WalksS P w A.in1 I fp wr G n Pv St) (S : Addr) (nfp : S ∉ fp) (ks : List (Addr × Sp2)) (hn : n = ks.length) (few : ks.length < 64) (val : ∀ i v, Pv i v → ∃ p, ks[i]? = some p ∧ v = .ref p.1)
    (h0 : Heap) (hk : ∀ p ∈ ks, IsS h0 p.2 p.1) (fresh : h0.get? S = none) (freshw : ∀ b ∈ wr, h0.get? b = none) (hu : A.in1.units + 8 < cLine) :
    ∀ (k i : Nat) (s : Shared), n - i = k → i ≤ n → St i s → (∀ b o, h0.get? b = some o → s.heap.get? b = some o) → (∃ L es ep t, SetS w (hz w) s.heap S L es ep t ∧ Has ks i L) →
      (∀ s' L es ep t, Moved (S :: wr) G s s' → SetS w (hz w) s'.heap S L es ep t → Has ks n L → (∀ b o, h0.get? b = some o → s'.heap.get? b = some o) → R (.ok (.ret .none)) s') →
      codeAny (model P w) A (.builtin "set.update.loop" ⟨[.ref S, .ref I], []⟩) R s := by
  have nw : S ∉ wr := fun h => nfp (W.sub _ h)
  have more : ∀ b ∈ wr, b ∈ S :: wr := fun b hb => List.mem_cons_of_mem _ hb
  have keep : ∀ {s s' : Shared}, Moved wr G s s' → (∀ b o, h0.get? b = some o → s.heap.get? b = some o) → ∀ b o, h0.get? b = some o → s'.heap.get? b = some o := fun hm kp b o e =>
    hm.heap b o (fun hb => by rw [freshw b hb] at e; cases e) (kp b o e)
  have tups : ∀ {h : Heap} {L : List (Addr × Sp2)} {i : Nat}, (∀ b o, h0.get? b = some o → h.get? b = some o) → Has ks i L → ∀ p ∈ L, IsS h p.2 p.1 := fun kp g p hp =>
    (hk p (List.mem_of_mem_take (g.sub p hp))).stay fun b o _ _ e _ => kp b o e
  intro k
  induction k with
  | zero =>
    intro i s e1 hi st kp ⟨L, es, ep, t, hS, g⟩ hR
    obtain rfl : i = n := by omega
    refine codeAny_builtin F.entry_set_update_loop ?_
    rw [Around.under_plainId F.plain_set_update_loop _]
    show wpAny _ A.in1 (pyNext (.ref I) >>= _) _ _ s
    apply wpAny_bind
    refine W.done s _ _ st fun s' hm => ?_
    show wpAny _ A.in1 (ret Value.none) _ _ s'
    exact wpAny_pure (hR s' L es ep t (hm.mono more) (hS.stay fun o e => hm.heap S o nw e) g (keep hm kp))
  | succ k ih =>
    intro i s e1 hi st kp ⟨L, es, ep, t, hS, g⟩ hR
    have lt : i < n := by omega
    refine codeAny_builtin F.entry_set_update_loop ?_
    rw [Around.under_plainId F.plain_set_update_loop _]
    show wpAny _ A.in1 (pyNext (.ref I) >>= _) _ _ s
    apply wpAny_bind
    refine W.item i s _ _ lt st fun v s' hP st' hm => ?_
    obtain ⟨p, hp, rfl⟩ := val i v hP
    have kp' := keep hm kp
    have hS' : SetS w (hz w) s'.heap S L es ep t := hS.stay fun o e => hm.heap S o nw e
    have hx : IsS s'.heap p.2 p.1 := (hk p (List.mem_of_getElem? hp)).stay fun b o _ _ e _ => kp' b o e
    show wpAny _ A.in1 (holding [Value.ref p.1] (setAdd S (.ref p.1)) >>= _) _ _ s'
    apply wpAny_bind
    apply wpAny_holding
    unfold setAdd
    apply wpAny_holding
    apply wpAny_bind
    refine hash_Z hu hx ?_
    refine add_S (s := { s' with toks := s'.toks + (kS p.2).draws }) hS' (tups kp' g) hx hu (by have := g.len; omega) fun b h' L' es' ep' t' sb hS2 c1 c2 => ?_
    have kp2 : ∀ b o, h0.get? b = some o → h'.get? b = some o := fun b o e => (sb.2 b (fun c => by rw [c, fresh] at e; cases e)).trans (kp' b o e)
    refine wpAny_pure ⟨plainId_quiet F.plain_set_update_loop _, ih (i + 1) _ (by omega) lt (W.frame _ s' _ _ st' (Nat.le_add_right _ _) fun b hb o e => ?_) kp2 ⟨L', es', ep', t', hS2, g.next hp c1 c2⟩ fun s'' L2 es2 ep2 t2 hm2 hS3 g3 kp3 => ?_⟩
    · rw [sb.2 b (fun c : b = S => nfp (by rw [← c]; exact hb))]
      exact e
    · refine hR s'' L2 es2 ep2 t2 (Moved.trans W.gtrans ((hm.mono more).then_heap (Nat.le_add_right _ _) fun b o hb e => ?_) hm2) hS3 g3 kp3
      rw [sb.2 b (fun c : b = S => hb (by rw [c]; exact List.mem_cons_self))]
      exact e
/-- set(xs), xs a list of such pairs -/
theorem call_setS {l : Addr} {items : Array Value} (ks : List (Addr × Sp2)) {Q : Value → Shared → Prop} (hh : A.handled = none) (hl : s.heap.IsList l items) (hit : items.toList = ks.map fun p => Value.ref p.1)
    (hk : ∀ p ∈ ks, IsS s.heap p.2 p.1) (few : ks.length < 64) (hu : A.units + 16 < cLine)
    (h : ∀ (h' : Heap) (tk : Nat) L es ep t, SetS w (hz w) h' s.heap.objs.size L es ep t → Has ks ks.length L → (∀ b o, s.heap.get? b = some o → h'.get? b = some o) → Q (.ref s.heap.objs.size) { s with heap := h', toks := tk }) :
    wpAny (model P w) A (call (.type "set") [.ref l]) Q E s := by
  have isz : items.size = ks.length := by
    rw [← Array.length_toList, hit, List.length_map]
  obtain ⟨c, tl, hmro⟩ := F.called_set.mro
  have hmade := F.called_set.made
  have hsub := F.called_set.sub
  refine wpAny_call (codeAny_of_tree ?_)
  show wpAny _ _ (callAny (.type "set") _) _ _ _
  refine wpAny_pure ⟨Code.quiet_builtin _ (by decide +kernel), codeAny_builtin F.entry_type_call ?_⟩
  rw [Around.under_plain (weight_type_call_type "set" [.ref l] []) rfl]
  have h1 := F.called_set.notType
  have h2 := F.called_set.canCreate
  have hct := F.typeCall_set_1 (.ref l)
  repeat (any_goals (first | assumption | wp_step))
  refine codeAny_mono (code_set_led1 (.ref l) (E := E) (Q₁ := fun v z => v = .ref s.heap.objs.size ∧ z = { s with heap := s.heap.push (newSet w) }) ⟨rfl, rfl⟩) fun r s₁ hr => ?_
  cases r with
  | error e => exact hr
  | ok fl =>
    cases fl with
    | next => exact hr.elim
    | brk => exact hr.elim
    | cont => exact hr.elim
    | ret v =>
      obtain ⟨rfl, rfl⟩ := hr
      have hS : (s.heap.push (newSet w)).get? s.heap.objs.size = some (newSet w) := Heap.get?_push_size _ rfl
      have hT : Shared.TypeIs { s with heap := s.heap.push (newSet w) } (.ref s.heap.objs.size) "set" := ⟨_, hS, rfl⟩
      have hli := F.called_set.init.lookup
      have hbi := F.called_set.init.bind (.ref s.heap.objs.size)
      repeat (any_goals (first | assumption | wp_step))
      refine codeAny_mono (codeAny_call_builtin (R := wants (fun r z => r = .none ∧ ∃ h' tk L es ep t, z = { s with heap := h', toks := tk } ∧ SetS w (hz w) h' s.heap.objs.size L es ep t ∧ Has ks ks.length L ∧
          (∀ b o, s.heap.get? b = some o → h'.get? b = some o)) E) F.called_set.init.plain F.entry_set_init (check_set_init_1 hT ?_)) fun r₂ s₂ hr₂ => ?_
      · obtain ⟨ol, hol, hcl, nl, hdl⟩ := hl
        obtain ⟨oc, od, odt, osl⟩ := ol
        simp only at hcl hdl
        subst hcl; subst hdl
        have hsls := F.sub_list_set
        have hslf := F.sub_list_frozenset
        have nd : (Value.type "list" == Value.type "dict") = false := by decide
        have hol' : (s.heap.push (newSet w)).get? l = some { cls := .type "list", dict := od, data := .seq items nl, slots := osl } := Heap.get?_push_of_some _ hol
        have hl1 : (s.heap.push (newSet w)).IsList l items := ⟨_, hol', rfl, nl, rfl⟩
        unfold Builtin.«set.__init__» noKeywords Builtin.Frozenset.updateFrom
        generalize hPI : pyIter = PI
        wp_walk
        subst hPI
        refine wpAny_pyIter_list hl1 ?_
        refine wpAny_bind (wpAny_runValue ?_)
        have hh3 : A.in1.in1.in1.handled = none := by simp [hh]
        have ltl : l < s.heap.objs.size := Heap.lt_size hol
        have none_of : ∀ b, s.heap.objs.size ≤ b → s.heap.get? b = none := fun b hb => by
          cases q : s.heap.get? b with
          | none => rfl
          | some o => exact absurd (Nat.lt_of_lt_of_le (Heap.lt_size q) hb) (Nat.lt_irrefl _)
        refine fill_S ((Walks.list hh3 _ l (by rw [Heap.size_push]; exact Nat.ne_of_lt (Nat.lt_succ_of_lt ltl)) items).toS) s.heap.objs.size ?nfp ks isz few ?val s.heap hk (none_of _ (Nat.le_refl _)) (fun b hb => none_of b (by
            rw [List.mem_singleton.mp hb, Heap.size_push]
            exact Nat.le_succ _)) ?hu (items.size - 0) 0 _ (by omega) (Nat.zero_le _)
          ⟨⟨_, Heap.get?_push_size _ rfl, rfl, rfl⟩, (hl1.push _)⟩ (fun b o e => Heap.get?_push_of_some _ (Heap.get?_push_of_some _ e)) ?hS0 ?hR
        case hu =>
          simp only [Around.in1_units]
          omega
        case nfp =>
          rw [Heap.size_push]
          simp only [List.mem_cons, List.mem_singleton, List.not_mem_nil, or_false, not_or]
          exact ⟨Nat.ne_of_lt (Nat.lt_succ_self _), Nat.ne_of_gt ltl⟩
        case val =>
          intro i v hv
          have q : items.toList[i]? = some v := by rw [Array.getElem?_toList]; exact hv
          rw [hit, List.getElem?_map] at q
          obtain ⟨p, hp, e⟩ := Option.map_eq_some_iff.mp q
          exact ⟨p, hp, e.symm⟩
        case hS0 => exact ⟨[], #[], 0, _, setS_new (Heap.get?_push_of_some _ hS), ⟨fun p h => (by cases h), fun p h => (by simp at h), Nat.le_refl _⟩⟩
        case hR =>
          intro s' L es ep t hm hS' g' kp
          obtain ⟨h', g2, d', tk', os'⟩ := s'
          obtain rfl : g2 = s.gens := hm.gens
          obtain rfl : d' = s.drawn := hm.drawn
          obtain rfl : os' = s.os := hm.os
          show wpAny _ _ _ _ _ _
          apply wpAny_pure
          show wpAny _ _ (ret Value.none) _ _ _
          rw [isz] at g'
          exact wpAny_pure ⟨rfl, h', tk', L, es, ep, t, rfl, hS', g', kp⟩
      · cases r₂ with
        | error e => exact hr₂
        | ok fl₂ =>
          cases fl₂ with
          | next => exact hr₂.elim
          | brk => exact hr₂.elim
          | cont => exact hr₂.elim
          | ret r =>
            obtain ⟨rfl, h', tk, L, es, ep, t, rfl, hS', g', kp⟩ := hr₂
            repeat (any_goals (first | assumption | wp_step))
            exact h _ _ _ _ _ _ hS' g' kp
end
end
section
set_option maxHeartbeats 4000000
/-! ### pairs in the abstract heap -/
/-- at a stands (z.1, z.2), z.2 a tuple of ints -/
def SpA (H : Hp) (a : Addr) (z : Sp2) : Prop := ∃ b, H a = some (.tup [.int z.1, .ref b]) ∧ H b = some (.tup (z.2.map V.int))
/-- tuples stay -/
def Tups (H H' : Hp) : Prop := ∀ b xs, H b = some (.tup xs) → H' b = some (.tup xs)
theorem Tups.refl (H : Hp) : Tups H H := fun _ _ h => h
theorem Tups.trans {H H1 H2 : Hp} (a : Tups H H1) (b : Tups H1 H2) : Tups H H2 := fun c xs h => b c xs (a c xs h)
theorem Same.tups {H H' : Hp} (s : Same H H') : Tups H H' := fun b xs h => s b _ h
theorem Tups.upd {H H' : Hp} {a : Addr} {o : HO} (t : Tups H H') (n : ∀ xs, H a ≠ some (.tup xs)) : Tups H (upd H' a o) := fun b xs h => by
  have nb : b ≠ a := fun e => n xs (by rw [← e]; exact h)
  rw [upd_ne nb]
  exact t b xs h
theorem SpA.mono {H H' : Hp} {a : Addr} {z : Sp2} (x : SpA H a z) (t : Tups H H') : SpA H' a z := by
  obtain ⟨b, h1, h2⟩ := x
  exact ⟨b, t _ _ h1, t _ _ h2⟩
theorem ints_of : ∀ {ns : List Int} {us : List Value}, Vals (ns.map V.int) us → IntsAre us ns
  | [], _, .nil => .nil
  | n :: ns, _, .cons r t => by
    obtain ⟨k, rfl⟩ := r
    exact .cons n k (ints_of t)
section
variable {X : Cx} {pins : List (Addr × Obj)} {σ : L2.St} {H : Hp} {s : Shared}
theorem tup_at (I : Inv X pins σ H s) {a : Addr} {xs : List V} (h : H a = some (.tup xs)) : ∃ its, Vals xs its ∧ s.heap.IsTuple a its.toArray := by
  obtain ⟨_, its, r, t⟩ := (show ObjOk X.prog X.w H s.heap a (.tup xs) from I.hok a _ h)
  exact ⟨its, r, t⟩
theorem SpA.at (I : Inv X pins σ H s) {a : Addr} {z : Sp2} (x : SpA H a z) : IsS s.heap z a := by
  obtain ⟨b, h1, h2⟩ := x
  obtain ⟨i1, r1, t1⟩ := tup_at I h1
  obtain ⟨i2, r2, t2⟩ := tup_at I h2
  cases r1 with
  | cons a1 r1 =>
    obtain ⟨k, rfl⟩ := a1
    cases r1 with
    | cons a2 r1 =>
      cases a2
      cases r1
      exact ⟨k, b, i2, t1, t2, ints_of r2⟩
end
/-- a set of such pairs -/
def SetO (w : World) (a : Addr) (L : List (Addr × Sp2)) : HO := .ext fun h => ∃ es ep t, SetS w (hz w) h a L es ep t
theorem setO_ok {P : Program} {w : World} {H : Hp} {h : Heap} {a : Addr} {L : List (Addr × Sp2)} {es : Array (Int × Value)} {ep : Nat} {t : SetTable} (R : SetS w (hz w) h a L es ep t) : ObjOk P w H h a (SetO w a L) := by
  refine ⟨⟨es, ep, t, R⟩, ?_, fun h1 h2 p k => ?_⟩
  · obtain ⟨o, ho, _⟩ := R.obj
    exact ⟨o, ho⟩
  · obtain ⟨es', ep', t', R'⟩ := p
    exact ⟨es', ep', t', R'.stay k⟩
theorem refs_eq : ∀ {ks : List (Addr × Sp2)} {us : List Value}, Vals (ks.map fun p => V.ref p.1) us → us = ks.map fun p => Value.ref p.1
  | [], _, .nil => rfl
  | p :: ks, _, .cons r t => by
    cases r
    rw [refs_eq t]
    rfl
theorem refs_vals : ∀ (ks : List (Addr × Sp2)), Vals (ks.map fun p => V.ref p.1) (ks.map fun p => Value.ref p.1)
  | [] => .nil
  | _ :: ks => .cons rfl (refs_vals ks)
section
variable {X : Cx}
/-- set(xs), xs a list of fewer than 64 pairs -/
def rSet (K : PySem.W.Frag) (w : World) : List V → Hp → VK → Prop := fun xs H Q => ∃ (l : Addr) (ks : List (Addr × Sp2)), xs = [V.ref l] ∧ SqL K H l (ks.map fun p => V.ref p.1) ∧ (∀ p ∈ ks, SpA H p.1 p.2) ∧ ks.length < 64 ∧
  ∀ a L, H a = none → (∀ p ∈ L, p ∈ ks) → (∀ p ∈ ks, p.2 ∈ L.map (·.2)) → (L.map (·.2)).Nodup → Q (.ref a) (upd H a (SetO w a L))
theorem cr_set (hc : X.calm = true) (hu : X.A.units + 64 < cLine) : CallR X (.type "set") (rSet X.K X.w) := by
  intro pins s σ H xs us Q I r h
  obtain ⟨l, ks, rfl, hl, hk, few, q⟩ := h
  rw [Vals.ref1 r]
  obtain ⟨its, rv, pl, hz'⟩ := I.list hl
  have hn : H s.heap.objs.size = none := I.hok.fresh (Nat.le_refl _)
  refine call_setS (P := X.prog) (w := X.w) ks (I.ok.hd hc) pl.isList (by simpa using refs_eq rv) (fun p hp => (hk p hp).at I) few (by omega) fun h' tk L es ep t R g k => ?_
  refine ⟨.ref s.heap.objs.size, upd H s.heap.objs.size (SetO X.w s.heap.objs.size L), I.laid (t' := tk) k (Nat.le_refl _) (setO_ok R), rfl, q _ L hn (fun p hp => List.mem_of_mem_take (g.sub p hp)) (fun p hp => g.all p (by rw [List.take_length]; exact hp)) R.nd⟩
/-- len of such a set -/
def rLenO (w : World) : List V → Hp → VK → Prop := fun xs H Q => ∃ (a : Addr) (L : List (Addr × Sp2)), xs = [V.ref a] ∧ H a = some (SetO w a L) ∧ Q (.int L.length) H
theorem cr_lenO : CallR X (.builtin "len") (rLenO X.w) := by
  intro pins s σ H xs us Q I r h
  obtain ⟨a, L, rfl, ha, q⟩ := h
  rw [Vals.ref1 r]
  obtain ⟨es, ep, t, R⟩ := (I.hok a _ ha).1
  obtain ⟨o, ho, hex, hd⟩ := R.obj
  have sz := size_of_rows R.rows
  have few := R.few
  refine call_len_set ho hex hd R.fits (by rw [sz]; omega) ⟨.int L.length, H, I.tok _, ⟨_, by rw [sz]⟩, q⟩
/-! ### sorted -/
def dS (z : Sp2) : PyData := .tuple [.int z.1, .tuple (z.2.map .int)]
theorem dS_depth (z : Sp2) : (dS z).depth = 2 := by
  simp [dS, PyData.depth, PyData.depthAll, PySem.W.depth_ints]
theorem dS_alike (z z' : Sp2) : PySem.W.alike (dS z) (dS z') = true := by
  simp [dS, PySem.W.alike, PySem.W.alikeAll, PySem.W.alike_ints]
theorem reads_ints {h : Heap} : ∀ {us : List Value} {ns : List Int}, IntsAre us ns → ∃ as, ReadsAll h us (ns.map .int) as
  | _, _, .nil => ⟨_, ReadsAll.nil⟩
  | _, _, .cons n t x => by
    obtain ⟨as, q⟩ := reads_ints (h := h) x
    exact ⟨_, ReadsAll.cons (.int n t) q⟩
theorem IsS.reads {h : Heap} {z : Sp2} {a : Addr} (x : IsS h z a) : Reads h (.ref a) (dS z) [] := by
  obtain ⟨t, b, vs, ⟨o, h1, h2, n, h3⟩, ⟨o', k1, k2, n', k3⟩, hi⟩ := x
  have q : ∀ {us : List Value} {ns : List Int}, IntsAre us ns → ReadsAll h us (ns.map .int) [] := by
    intro us ns x
    induction x with
    | nil => exact ReadsAll.nil
    | cons n t _ ih => exact ReadsAll.cons (as := []) (bs := []) (.int n t) ih
  exact Reads.tuple h1 h2 h3 (ReadsAll.cons (as := []) (bs := []) (.int _ _) (ReadsAll.cons (as := []) (bs := []) (Reads.tuple k1 k2 k3 (by simpa using q hi)) ReadsAll.nil))
abbrev isRef (v : Value) (p : Addr × Sp2) : Prop := v = Value.ref p.1
theorem each_refs : ∀ (L : List (Addr × Sp2)), PySem.W.EachIs isRef (L.map fun p => Value.ref p.1) L
  | [] => .nil
  | _ :: L => .cons rfl (each_refs L)
theorem refs_each : ∀ {us : List Value} {L : List (Addr × Sp2)}, PySem.W.EachIs isRef us L → us = L.map fun p => Value.ref p.1
  | _, _, .nil => rfl
  | _, _, .cons e t => by
    rw [show _ = Value.ref _ from e, refs_each t]
    rfl
theorem each_reads {h : Heap} : ∀ {L : List (Addr × Sp2)}, (∀ p ∈ L, IsS h p.2 p.1) → PySem.W.EachIs (fun v (b : Addr × Sp2) => ∃ as, Reads h v (dS b.2) as) (L.map fun p => Value.ref p.1) L
  | [], _ => .nil
  | p :: L, k => .cons ⟨_, (k p List.mem_cons_self).reads⟩ (each_reads fun q hq => k q (List.mem_cons_of_mem _ hq))
theorem each_reads' {h : Heap} {a : Addr} : ∀ {L : List (Addr × Sp2)}, (∀ p ∈ L, IsS h p.2 p.1) → PySem.W.EachIs (fun v (b : Addr × Sp2) => ∃ as, Reads h v (dS b.2) as ∧ a ∉ as) (L.map fun p => Value.ref p.1) L
  | [], _ => .nil
  | p :: L, k => .cons ⟨[], (k p List.mem_cons_self).reads, by simp⟩ (each_reads' fun q hq => k q (List.mem_cons_of_mem _ hq))
theorem all_alike (L : List (Addr × Sp2)) : PySem.W.AllAlike (L.map fun p => dS p.2) := PySem.W.AllAlike.of fun b b' => dS_alike b.2 b'.2
theorem all_sort (L : List (Addr × Sp2)) : PySem.W.Sortable (L.map fun p => dS p.2) := PySem.W.Sortable.tuples fun b => ⟨_, _, rfl⟩
/-- sorted(xs), xs a list of pairs: the same in another order -/
def rSortP (K : PySem.W.Frag) : List V → Hp → VK → Prop := fun vs H Q => ∃ (l : Addr) (ks : List (Addr × Sp2)), vs = [V.ref l] ∧ SqL K H l (ks.map fun p => V.ref p.1) ∧ (∀ p ∈ ks, SpA H p.1 p.2) ∧
  ∀ p (L : List (Addr × Sp2)), H p = none → L.Perm ks → Q (.ref p) (upd H p (.lst (L.map fun q => V.ref q.1)))
theorem cr_sortP (hu : X.A.units + 64 < cLine) : CallR X (.builtin "sorted") (rSortP X.K) := by
  intro pins s σ H vs us Q I r h
  obtain ⟨l, ks, rfl, hl, hk, q⟩ := h
  rw [Vals.ref1 r]
  obtain ⟨its, rv, pl, hz'⟩ := I.list hl
  have e := refs_eq rv
  subst e
  have hlen : ks.length ≤ sizeLine := by simpa using hz'
  refine PySem.W.sorted_data (R := isRef) (bs := ks) (enc := fun b : Addr × Sp2 => dS b.2) pl.isList (each_refs ks) (each_reads fun p hp => (hk p hp).at I) (all_alike ks) (all_sort ks) hlen (fun b _ => by rw [dS_depth]; omega) fun out ho er => ?_
  have eo := refs_each er
  have hp : H (s.heap.objs.size + 1) = none := I.hok.fresh (Nat.le_succ _)
  have keep : ∀ b u, s.heap.get? b = some u → (sortedAll s.heap (ks.map fun p => Value.ref p.1) (List.toArray out)).get? b = some u := fun b u e => sortedAll_old e
  obtain ⟨c, hc⟩ := sortedAll_at s.heap (ks.map fun p => Value.ref p.1) (List.toArray out)
  have pm : (ks.mergeSort (PySem.W.dataLe false fun b : Addr × Sp2 => dS b.2)).Perm ks := List.mergeSort_perm ks _
  have ob : ObjOk X.prog X.w (upd H (s.heap.objs.size + 1) (.lst ((ks.mergeSort (PySem.W.dataLe false fun b : Addr × Sp2 => dS b.2)).map fun q => V.ref q.1))) (sortedAll s.heap (ks.map fun p => Value.ref p.1) (List.toArray out)) (s.heap.objs.size + 1)
      (.lst ((ks.mergeSort (PySem.W.dataLe false fun b : Addr × Sp2 => dS b.2)).map fun q => V.ref q.1)) :=
    ⟨by rw [List.length_map, pm.length_eq]; exact hlen, out, c, by rw [eo]; exact refs_vals _, hc⟩
  exact ⟨.ref (s.heap.objs.size + 1), _, I.laid (t' := s.toks) keep (Nat.le_succ _) ob, rfl, q _ (ks.mergeSort (PySem.W.dataLe false fun b : Addr × Sp2 => dS b.2)) hp pm⟩
/-- sorted(S), S such a set -/
def rSortO (w : World) : List V → Hp → VK → Prop := fun vs H Q => ∃ (a : Addr) (L : List (Addr × Sp2)), vs = [V.ref a] ∧ H a = some (SetO w a L) ∧ (∀ p ∈ L, SpA H p.1 p.2) ∧
  ∀ p (L' : List (Addr × Sp2)), H p = none → (∀ q ∈ L', q ∈ L) → L'.length = L.length → Q (.ref p) (upd H p (.lst (L'.map fun q => V.ref q.1)))
theorem cr_sortO (hc : X.calm = true) (hu : X.A.units + 64 < cLine) : CallR X (.builtin "sorted") (rSortO X.w) := by
  intro pins s σ H vs us Q I r h
  obtain ⟨a, L, rfl, ha, hk, q⟩ := h
  rw [Vals.ref1 r]
  obtain ⟨es, ep, t, R⟩ := (I.hok a _ ha).1
  obtain ⟨o, ho, hex, hd⟩ := R.obj
  have sz := size_of_rows R.rows
  have few := R.few
  refine Calls.call_function_entry kind_sorted plain_sorted entry_sorted (args_sorted1 _) ?_
  unfold Builtin.«sorted»
  refine wpAny_bind (m := checkCount "sorted" 1 1 _) (wpAny_pure ?_)
  refine wpAny_bind (collect_set (A := X.A.in1) (I.ok.hd hc) ⟨o, ho, hex.1, hd⟩ R.fits (by unfold scanBound; omega) R.tab.ris R.led fun s1 vs k1 hz1 g1 o1 pm => ?_)
  have hes : es.toList.map (·.2) = L.map fun q => Value.ref q.1 := by
    rw [R.rows]
    unfold rowsS
    rw [List.map_map]
    rfl
  rw [hes] at pm
  -- the values are the addresses of the set's pairs
  have ord : ∀ vs : List Value, (∀ v ∈ vs, ∃ q ∈ L, v = Value.ref q.1) → ∃ L1 : List (Addr × Sp2), vs = L1.map (fun q => Value.ref q.1) ∧ ∀ q ∈ L1, q ∈ L := by
    intro vs
    induction vs with
    | nil => exact fun _ => ⟨[], rfl, fun q hq => (by cases hq)⟩
    | cons v vs ih =>
      intro hv
      obtain ⟨q, hq, e⟩ := hv v List.mem_cons_self
      obtain ⟨L1, e1, hs⟩ := ih fun u hu => hv u (List.mem_cons_of_mem _ hu)
      refine ⟨q :: L1, by rw [List.map_cons, e, e1], fun r hr => ?_⟩
      rcases List.mem_cons.mp hr with z | z
      · rw [z]; exact hq
      · exact hs r z
  obtain ⟨L1, rfl, sub1⟩ := ord vs fun v hv => by
    obtain ⟨q, hq, e⟩ := List.mem_map.mp (pm.mem_iff.mp hv)
    exact ⟨q, hq, e.symm⟩
  have len1 : L1.length = L.length := by simpa using pm.length_eq
  have k1' : ∀ b u, s.heap.get? b = some u → (s1.heap.push (seqObj "list" (L1.map fun q => Value.ref q.1).toArray 0)).get? b = some u := fun b u e => Heap.get?_push_of_some _ (k1 b u e)
  refine wpAny_bind (wpAny_newList ?_ (by rw [sizeLine_eq]; simp only [List.size_toArray, List.length_map]; omega))
  have hoL : (s1.heap.push (seqObj "list" (L1.map fun q => Value.ref q.1).toArray 0)).get? s1.heap.objs.size = some (seqObj "list" (L1.map fun q => Value.ref q.1).toArray 0) := Heap.get?_push_size _ rfl
  have isS : ∀ p ∈ L1, IsS (s1.heap.push (seqObj "list" (L1.map fun q => Value.ref q.1).toArray 0)) p.2 p.1 := fun p hp => ((hk p (sub1 p hp)).at I).stay fun b o _ _ e _ => k1' b o e
  refine wpAny_bind (wpAny_holding (PySem.W.list_sort_data (s := { s1 with heap := s1.heap.push (seqObj "list" (L1.map fun q => Value.ref q.1).toArray 0) }) (R := isRef) (bs := L1) (enc := fun b : Addr × Sp2 => dS b.2) hoL (each_refs L1) (each_reads' isS) (all_alike L1) (all_sort L1) (by rw [sizeLine_eq]; omega)
    (fun b _ => by rw [dS_depth]; simp only [Around.in1_units]; omega) fun out ho er => ?_))
  have eo := refs_each er
  obtain ⟨c, hc'⟩ := sortedHeap_at (vs := L1.map fun q => Value.ref q.1) (out := List.toArray out) hoL
  have pm2 : (L1.mergeSort (PySem.W.dataLe false fun b : Addr × Sp2 => dS b.2)).Perm L1 := List.mergeSort_perm L1 _
  have hp : H s1.heap.objs.size = none := I.hok.fresh hz1
  have keep : ∀ b u, s.heap.get? b = some u → (sortedHeap (s1.heap.push (seqObj "list" (L1.map fun q => Value.ref q.1).toArray 0)) s1.heap.objs.size (L1.map fun q => Value.ref q.1) (List.toArray out)).get? b = some u := fun b u e => by
    have lt := Heap.lt_size (k1 b u e)
    rw [sortedHeap_old (Nat.ne_of_lt lt) (by rw [Heap.size_push]; exact Nat.lt_succ_of_lt lt)]
    exact Heap.get?_push_of_some _ (k1 b u e)
  have J : Inv X pins σ (upd H s1.heap.objs.size (.lst ((L1.mergeSort (PySem.W.dataLe false fun b : Addr × Sp2 => dS b.2)).map fun q => V.ref q.1))) { s with heap := sortedHeap (s1.heap.push (seqObj "list" (L1.map fun q => Value.ref q.1).toArray 0)) s1.heap.objs.size (L1.map fun q => Value.ref q.1) (List.toArray out), gens := s1.gens, drawn := s1.drawn, toks := s1.toks } :=
    I.call (ch := []) (Un.laid keep hz1 hp) (I.hok.laid keep hz1 ⟨by rw [List.length_map, pm2.length_eq, sizeLine_eq]; omega, out, c, by rw [eo]; exact refs_vals _, hc'⟩) (by rw [g1]; exact I.bare) (fun _ z => nomatch z)
  refine wpAny_pure ⟨_, rfl, ?_⟩
  have e : ∀ hh : Heap, { s1 with heap := hh } = { s with heap := hh, gens := s1.gens, drawn := s1.drawn, toks := s1.toks } := fun hh => by
    cases s1
    cases s
    cases o1
    rfl
  show EP X pins σ Q (.ref s1.heap.objs.size) { s1 with heap := sortedHeap (s1.heap.push (seqObj "list" (L1.map fun q => Value.ref q.1).toArray 0)) s1.heap.objs.size (L1.map fun q => Value.ref q.1) (List.toArray out) }
  rw [e]
  exact ⟨.ref s1.heap.objs.size, _, J, rfl, q _ _ hp (fun r hr => sub1 r (pm2.mem_iff.mp hr)) (by rw [pm2.length_eq, len1])⟩
end
end
section
set_option maxHeartbeats 4000000
/-! ### dicts whose keys are such pairs -/
abbrev DE : Type := Sp2 × Addr × V
abbrev DRel (p : DE) (q : NestedKey × Addr × Value) : Prop := q.1 = kS p.1 ∧ q.2.1 = p.2.1 ∧ RelV p.2.2 q.2.2
def valD (xs : List DE) (z : Sp2) : Option V := (xs.find? fun p => decide (p.1 = z)).map (·.2.2)
def putD (xs : List DE) (z : Sp2) (a : Addr) (v : V) : List DE := if (valD xs z).isSome then xs.map (fun p => if p.1 = z then (p.1, p.2.1, v) else p) else xs ++ [(z, a, v)]
/-- the object o is the dict of these entries -/
def DK (P : Program) (w : World) (o : Obj) (xs : List DE) : Prop := ∃ ys : List (NestedKey × Addr × Value), Paired DRel xs ys ∧
  ∃ es ep, o.ExactDict ∧ o.data = .dict es ep ∧ es.toList = ys.map (entryOfKey (nestedKind P w)) ∧ (ys.map (·.1)).Nodup
def DicO (P : Program) (w : World) (a : Addr) (o : Obj) (xs : List DE) : HO := .ext fun h => xs.length ≤ sizeLine ∧ (a == sysModules) = false ∧ h.get? a = some o ∧ DK P w o xs
theorem dicO_ok {P : Program} {w : World} {H : Hp} {h : Heap} {a : Addr} {o : Obj} {xs : List DE} (hl : xs.length ≤ sizeLine) (hs : (a == sysModules) = false) (ho : h.get? a = some o) (hd : DK P w o xs) : ObjOk P w H h a (DicO P w a o xs) :=
  ⟨⟨hl, hs, ho, hd⟩, ⟨o, ho⟩, fun _ _ p k => ⟨p.1, p.2.1, k _ p.2.2.1, p.2.2.2⟩⟩
theorem drel_at {xs : List DE} {ys : List (NestedKey × Addr × Value)} (r : Paired DRel xs ys) (z : Sp2) : (∀ v, valD xs z = some v → ∃ p, atKey ys (kS z) = some p ∧ RelV v p.2) ∧ (valD xs z = none → atKey ys (kS z) = none) := by
  induction r with
  | nil => exact ⟨fun v h => (by cases h), fun _ => rfl⟩
  | @cons p q ps qs h t ih =>
    obtain ⟨h1, h2, h3⟩ := h
    by_cases e : p.1 = z
    · have e' : q.1 = kS z := by rw [h1, e]
      have c1 : valD (p :: ps) z = some p.2.2 := by simp [valD, e]
      have c2 : atKey (q :: qs) (kS z) = some q.2 := by simp [atKey, e']
      rw [c1, c2]
      exact ⟨fun v hv => ⟨_, rfl, by cases hv; exact h3⟩, fun hn => (by cases hn)⟩
    · have e' : ¬ q.1 = kS z := fun c => e (kS_inj (h1.symm.trans c))
      have c1 : valD (p :: ps) z = valD ps z := by simp [valD, e]
      have c2 : atKey (q :: qs) (kS z) = atKey qs (kS z) := by simp [atKey, e']
      rw [c1, c2]
      exact ih
theorem drel_put {xs : List DE} {ys : List (NestedKey × Addr × Value)} (r : Paired DRel xs ys) (z : Sp2) (a : Addr) {v : V} {u : Value} (hv : RelV v u) : Paired DRel (putD xs z a v) (storedH ys (kS z) a u) := by
  obtain ⟨k1, k2⟩ := drel_at r z
  have maps : ∀ {xs : List DE} {ys : List (NestedKey × Addr × Value)}, Paired DRel xs ys → Paired DRel (xs.map fun p => if p.1 = z then (p.1, p.2.1, v) else p) (ys.map (putAt (kS z) u)) := by
    intro xs ys r
    induction r with
    | nil => exact .nil
    | @cons p q ps qs h t ih =>
      obtain ⟨h1, h2, h3⟩ := h
      refine .cons ?_ ih
      show DRel (if p.1 = z then (p.1, p.2.1, v) else p) (if q.1 = kS z then (q.1, q.2.1, u) else q)
      by_cases e : p.1 = z
      · rw [if_pos e, if_pos (by rw [h1, e])]
        exact ⟨h1, h2, hv⟩
      · rw [if_neg e, if_neg fun c => e (kS_inj (h1.symm.trans c))]
        exact ⟨h1, h2, h3⟩
  have app : ∀ {xs : List DE} {ys : List (NestedKey × Addr × Value)}, Paired DRel xs ys → Paired DRel (xs ++ [(z, a, v)]) (ys ++ [(kS z, a, u)]) := by
    intro xs ys r
    induction r with
    | nil => exact .cons ⟨rfl, rfl, hv⟩ .nil
    | cons h t ih => exact .cons h ih
  unfold putD
  cases e : valD xs z with
  | none =>
    rw [storedH_new (k2 e)]
    exact app r
  | some y =>
    obtain ⟨p, hp, _⟩ := k1 y e
    rw [storedH_old hp]
    exact maps r
theorem putD_len (xs : List DE) (z : Sp2) (a : Addr) (v : V) : (putD xs z a v).length ≤ xs.length + 1 := by
  unfold putD
  split
  · rw [List.length_map]; omega
  · rw [List.length_append]; exact Nat.le_refl _
theorem drel_mem {xs : List DE} {ys : List (NestedKey × Addr × Value)} (r : Paired DRel xs ys) : ∀ q ∈ ys, ∃ p ∈ xs, DRel p q := by
  induction r with
  | nil => intro q hq; cases hq
  | cons h t ih =>
    intro q hq
    rcases List.mem_cons.mp hq with e | hq
    · rw [e]; exact ⟨_, List.mem_cons_self, h⟩
    · obtain ⟨p, hp, r⟩ := ih q hq
      exact ⟨p, List.mem_cons_of_mem _ hp, r⟩
theorem drel_get {xs : List DE} {ys : List (NestedKey × Addr × Value)} (r : Paired DRel xs ys) : ∀ {i : Nat} {q : NestedKey × Addr × Value}, ys[i]? = some q → ∃ p, xs[i]? = some p ∧ DRel p q := by
  induction r with
  | nil => intro i q h; simp at h
  | cons h t ih =>
    intro i q hq
    cases i with
    | zero => simp at hq; subst hq; exact ⟨_, rfl, h⟩
    | succ i => exact ih (by simpa using hq)
section
variable {X : Cx} {pins : List (Addr × Obj)} {σ : L2.St} {H : Hp} {s : Shared}
/-- the dict that stands there, for the library's rules -/
theorem dic_at (I : Inv X pins σ H s) {d : Addr} {o : Obj} {xs : List DE} (h : H d = some (DicO X.prog X.w d o xs)) (hk : ∀ p ∈ xs, SpA H p.2.1 p.1) :
    xs.length ≤ sizeLine ∧ (d == sysModules) = false ∧ ∃ ys, Paired DRel xs ys ∧ s.heap.DictOfH (nestedKind X.prog X.w) d ys := by
  obtain ⟨h1, h2, h3, ys, r, es, ep, e1, e2, e3, e4⟩ := (I.hok d _ h).1
  refine ⟨h1, h2, ys, r, o, es, ep, h3, e1, e2, e3, fun q hq => ?_, e4⟩
  obtain ⟨p, hp, r1, r2, _⟩ := drel_mem r q hq
  rw [r1, r2]
  exact ((hk p hp).at I).kind
theorem dic_raw (I : Inv X pins σ H s) {d : Addr} {o : Obj} {xs : List DE} (h : H d = some (DicO X.prog X.w d o xs)) :
    xs.length ≤ sizeLine ∧ (d == sysModules) = false ∧ ∃ ys es ep, Paired DRel xs ys ∧ s.heap.DictRaw d es ep ∧ o.data = .dict es ep ∧ es.toList = ys.map (entryOfKey (nestedKind X.prog X.w)) ∧ es.size = xs.length := by
  obtain ⟨h1, h2, h3, ys, r, es, ep, e1, e2, e3, e4⟩ := (I.hok d _ h).1
  exact ⟨h1, h2, ys, es, ep, r, ⟨o, h3, e1, e2⟩, e2, e3, by rw [size_of_entries e3, ← r.length]⟩
theorem of_dictH {h : Heap} {d : Addr} {ys : List (NestedKey × Addr × Value)} {xs : List DE} {P : Program} {w : World} (x : h.DictOfH (nestedKind P w) d ys) (r : Paired DRel xs ys) : ∃ o, h.get? d = some o ∧ DK P w o xs := by
  obtain ⟨o, es, ep, h1, h2, h3, h4, h5, h6⟩ := x
  exact ⟨o, h1, ys, r, es, ep, h2, h3, h4, h6⟩
theorem notSys (I : Inv X pins σ H s) : (s.heap.objs.size == sysModules) = false := beq_eq_false_iff_ne.mpr (Ne.symm (Nat.ne_of_lt I.big))
end
section
variable {X : Cx}
/-- {} whose keys will be such pairs -/
def tDNewD (P : Program) (w : World) : TE := fun _ H Q => ∀ p o, H p = none → Q (.ref p) (upd H p (DicO P w p o []))
theorem pe_dnewD {pos : Pos} : PE X (.Dict [] [] pos) (tDNewD X.prog X.w) := ⟨fun pins s σ H Q I h => by
  have hn : (s.heap.push { cls := .type "dict", data := .dict #[] }).DictOfH (nestedKind X.prog X.w) s.heap.objs.size [] := Heap.DictOfH.new s.heap
  obtain ⟨o, ho, hd⟩ := of_dictH (xs := []) hn .nil
  exact wpAny_Dict_empty ⟨.ref s.heap.objs.size, _, I.laid (t' := s.toks) (fun _ _ q => Heap.get?_push_of_some _ q) (Nat.le_refl _) (dicO_ok (Nat.zero_le _) (notSys I) ho hd), rfl, h _ _ (I.hok.fresh (Nat.le_refl _))⟩⟩
theorem room8 {A : Around} (hu : A.units + 64 < cLine) (P : Program) (w : World) : (nestedKind P w).room A.in1 := by
  show A.in1.units + 8 < cLine
  simp only [Around.in1_units]
  omega
theorem room9 {A : Around} (hu : A.units + 64 < cLine) (P : Program) (w : World) : (nestedKind P w).room A.in1.in1 := by
  show A.in1.in1.units + 8 < cLine
  simp only [Around.in1_units]
  omega
/-- d[k] -/
def tGetD (P : Program) (w : World) (td ty : TE) : TE := fun σ H Q => td σ H fun x H1 => ty σ H1 fun y H2 => ∃ (d : Addr) (o : Obj) (xs : List DE) (a : Addr) (z : Sp2) (v : V), x = .ref d ∧ y = .ref a ∧
  H2 d = some (DicO P w d o xs) ∧ (∀ p ∈ xs, SpA H2 p.2.1 p.1) ∧ SpA H2 a z ∧ valD xs z = some v ∧ Q v H2
theorem pe_getD {o i : Expr} {pos : Pos} {td ty : TE} (hu : X.A.units + 64 < cLine) (ho : PE X o td) (hi : PE X i ty) (hs : NoSl i) : PE X (.Subscript o i pos) (tGetD X.prog X.w td ty) := by
  refine ⟨fun pins s σ H Q I h => ?_⟩
  refine subD_of PySem.F.slot_dict_getitem.lookup hs (thn (ho.run pins s σ H _ I h) fun u s1 ⟨x, H1, I1, rx, q1⟩ => thn (hi.run pins s1 σ H1 _ I1 q1) fun iv s2 ⟨y, H2, I2, ry, d, ob, xs, a, z, v, ex, ey, hd, hk, ha, hv, q2⟩ => ?_)
  subst ex ey
  obtain rfl : u = Value.ref d := rx
  obtain rfl : iv = Value.ref a := ry
  obtain ⟨h1, h2, ys, r, hm⟩ := dic_at I2 hd hk
  obtain ⟨p, hp, rp⟩ := (drel_at r z).1 v hv
  exact ⟨hm.typeIs, wpAny_getItem_heap (room8 hu _ _) (ha.at I2).kind hm hp ⟨v, H2, I2.tok _, rp, q2⟩⟩
/-- d[k] = v -/
def rSetD (P : Program) (w : World) : V → V → V → Hp → (Hp → Prop) → Prop := fun x y v H Q => ∃ (d : Addr) (o : Obj) (xs : List DE) (a : Addr) (z : Sp2), x = .ref d ∧ y = .ref a ∧
  H d = some (DicO P w d o xs) ∧ (∀ p ∈ xs, SpA H p.2.1 p.1) ∧ SpA H a z ∧ xs.length < sizeLine ∧ ∀ o', Q (upd H d (DicO P w d o' (putD xs z a v)))
theorem set_dic (hu : X.A.units + 64 < cLine) : PSet X (rSetD X.prog X.w) := by
  intro pins s σ H o i v ov iv u Q I ro ri rv h
  obtain ⟨d, ob, xs, a, z, rfl, rfl, hd, hk, ha, hl, q⟩ := h
  cases ro
  cases ri
  obtain ⟨h1, h2, ys, r, hm⟩ := dic_at I hd hk
  refine wpAny_setItem_heap (hsz := by rw [← r.length]; exact h1) (room8 hu _ _) (ha.at I).kind hm fun h' hm' hs => ?_
  obtain ⟨o', ho', hd'⟩ := of_dictH hm' (drel_put r z a rv)
  have hl' : (putD xs z a v).length ≤ sizeLine := Nat.le_trans (putD_len xs z a v) hl
  exact ⟨_, I.write (e := d) (by rw [hd]; exact True.intro) (.inl rfl) (fun b w hb e => (hs.2 b hb).trans e) ⟨o', ho'⟩ (dicO_ok hl' h2 ho' hd'), q o'⟩
/-- len(d) -/
def rLenD (P : Program) (w : World) : List V → Hp → VK → Prop := fun xs H Q => ∃ (d : Addr) (o : Obj) (es : List DE), xs = [V.ref d] ∧ H d = some (DicO P w d o es) ∧ Q (.int es.length) H
theorem cr_lenD : CallR X (.builtin "len") (rLenD X.prog X.w) := by
  intro pins s σ H xs us Q I r h
  obtain ⟨d, o, es, rfl, hd, q⟩ := h
  rw [Vals.ref1 r]
  obtain ⟨h1, h2, ys, en, ep, rr, raw, hdt, he, hz'⟩ := dic_raw I hd
  rw [sizeLine_eq] at h1
  refine PyProof.Rows.call_len_slot (n := es.length) raw.typeIs PySem.F.slot_dict_len (fun Q' hq => call_len_raw h2 raw (by rw [hz']; exact hq)) (by omega) (by omega) ⟨.int es.length, H, I.tok _, ⟨_, rfl⟩, q⟩
/-- list(d): its keys -/
def rListD (P : Program) (w : World) : List V → Hp → VK → Prop := fun xs H Q => ∃ (d : Addr) (o : Obj) (es : List DE), xs = [V.ref d] ∧ H d = some (DicO P w d o es) ∧ ∀ p, H p = none → Q (.ref p) (upd H p (.lst (es.map fun e => V.ref e.2.1)))
theorem keys_of {P : Program} {w : World} {xs : List DE} {ys : List (NestedKey × Addr × Value)} {en : Array DictEntry} (r : Paired DRel xs ys) (he : en.toList = ys.map (entryOfKey (nestedKind P w))) (hz' : en.size = xs.length)
    {acc : Array Value} (h : ItemsOf (fun i v => ∃ hi : i < en.size, v = en[i].key) acc en.size) : Vals (xs.map fun e => V.ref e.2.1) acc.toList := by
  have key : ∀ {xs : List DE} {us : List Value}, xs.length = us.length → (∀ (i : Nat) (p : DE) (u : Value), xs[i]? = some p → us[i]? = some u → u = Value.ref p.2.1) → Vals (xs.map fun e => V.ref e.2.1) us := by
    intro xs
    induction xs with
    | nil => intro us hl _; cases us with
      | nil => exact .nil
      | cons _ _ => cases hl
    | cons p ps ih =>
      intro us hl h
      cases us with
      | nil => cases hl
      | cons u us => exact .cons (h 0 p u rfl rfl) (ih (by simpa using hl) fun i p u h1 h2 => h (i + 1) p u (by simpa using h1) (by simpa using h2))
  have el : acc.toList.length = en.size := by rw [Array.length_toList]; exact h.1
  refine key (by rw [el, hz']) fun i p u h1 h2 => ?_
  obtain ⟨hi, e⟩ := h.2 i u (by rw [← Array.getElem?_toList]; exact h2)
  have e2 : en[i]? = some en[i] := by simp [hi]
  rw [← Array.getElem?_toList, he, List.getElem?_map] at e2
  obtain ⟨q, hq, e3⟩ := Option.map_eq_some_iff.mp e2
  obtain ⟨p', hp', r1, r2, _⟩ := drel_get r hq
  rw [h1] at hp'
  cases hp'
  rw [e, ← e3]
  show Value.ref q.2.1 = _
  rw [r2]
theorem cr_listD (hc : X.calm = true) : CallR X (.type "list") (rListD X.prog X.w) := by
  intro pins s σ H xs us Q I r h
  obtain ⟨d, o, es, rfl, hd, q⟩ := h
  rw [Vals.ref1 r]
  obtain ⟨h1, h2, ys, en, ep, rr, raw, hdt, he, hz'⟩ := dic_raw I hd
  refine PySem.W.kdl_call (PySem.KdlSrc.rawDict (es := en) (ep := ep) h2) (I.ok.hd hc) raw (by rw [hz']; exact h1) fun h' tk acc c kp ho hit => ?_
  have hv := keys_of rr he hz' hit
  exact ⟨.ref s.heap.objs.size, _, I.laid (t' := tk) (o := .lst (es.map fun e => V.ref e.2.1)) kp (Nat.le_refl _) ⟨by rw [List.length_map]; exact h1, acc.toList, c, hv, by simpa using ho⟩, rfl, q _ (I.hok.fresh (Nat.le_refl _))⟩
/-- isinstance(d, dict) -/
def rIsiD (P : Program) (w : World) : List V → Hp → VK → Prop := fun xs H Q => ∃ (d : Addr) (o : Obj) (es : List DE), xs = [V.ref d, .ty "dict"] ∧ H d = some (DicO P w d o es) ∧ Q (.bl true) H
theorem cr_isiD : CallR X (.builtin "isinstance") (rIsiD X.prog X.w) := by
  intro pins s σ H xs us Q I r h
  obtain ⟨d, o, es, rfl, hd, q⟩ := h
  obtain ⟨u1, u2, rfl, r1, r2⟩ := vals2 r
  cases r1
  cases r2
  obtain ⟨h1, h2, ys, en, ep, rr, ⟨ob, ho, hex, _⟩, _⟩ := dic_raw I hd
  exact PySem.W.kia_one (PySem.W.kitx_dict (K := X.K) (a := d)) I.kIn ⟨ob, ho, hex.1⟩ (kit_ty (by decide +kernel)) (fun z => nomatch z) fun tk => ⟨.bl true, H, I.tok tk, rfl, q⟩
/-- dict(xs), xs a list of pairs (key, value), unlike keys -/
def rDictP (P : Program) (w : World) : List V → Hp → VK → Prop := fun xs H Q => ∃ (l : Addr) (Ts : List Addr) (es : List DE), xs = [V.ref l] ∧ H l = some (.lst (Ts.map V.ref)) ∧ Paired (fun T (e : DE) => H T = some (.tup [.ref e.2.1, e.2.2])) Ts es ∧
  (∀ e ∈ es, SpA H e.2.1 e.1) ∧ (es.map (·.1)).Nodup ∧ ∀ p o, H p = none → Q (.ref p) (upd H p (DicO P w p o es))
theorem pairs_at {pins : List (Addr × Obj)} {σ : L2.St} {H : Hp} {s : Shared} (I : Inv X pins σ H s) {Ts : List Addr} {es : List DE} (r : Paired (fun T (e : DE) => H T = some (.tup [.ref e.2.1, e.2.2])) Ts es) :
    ∃ ys : List (NestedKey × Addr × Value), Paired DRel es ys ∧ ∀ (j : Nat) (T : Addr) (y : NestedKey × Addr × Value), Ts[j]? = some T → ys[j]? = some y → s.heap.IsTuple T #[.ref y.2.1, y.2.2] := by
  induction r with
  | nil => exact ⟨[], .nil, fun j T y h => by simp at h⟩
  | @cons T e Ts es h t ih =>
    obtain ⟨ys, r, k⟩ := ih
    obtain ⟨its, rv, ti⟩ := tup_at I h
    cases rv with
    | cons a1 rv =>
      cases a1
      cases rv with
      | @cons _ u _ _ a2 rv =>
        cases rv
        refine ⟨(kS e.1, e.2.1, u) :: ys, .cons ⟨rfl, rfl, a2⟩ r, fun j T' y h1 h2 => ?_⟩
        cases j with
        | zero =>
          simp at h1 h2
          subst h1 h2
          exact ti
        | succ j => exact k j T' y (by simpa using h1) (by simpa using h2)
theorem cr_dictP (hc : X.calm = true) (hu : X.A.units + 64 < cLine) : CallR X (.type "dict") (rDictP X.prog X.w) := by
  intro pins s σ H xs us Q I r h
  obtain ⟨l, Ts, es, rfl, hl, hT, hk, hnd, q⟩ := h
  rw [Vals.ref1 r]
  obtain ⟨its, n, rv, ho, hz'⟩ := I.lst hl
  obtain ⟨ys, ry, hy⟩ := pairs_at I hT
  have lenT : Ts.length = es.length := hT.length
  have lenY : es.length = ys.length := ry.length
  have hz2 : Ts.length ≤ sizeLine := by simpa using hz'
  have ndY : (ys.map (·.1)).Nodup := by
    have e : ∀ {es : List DE} {ys : List (NestedKey × Addr × Value)}, Paired DRel es ys → ys.map (·.1) = (es.map (·.1)).map kS := by
      intro es ys r
      induction r with
      | nil => rfl
      | cons h t ih => rw [List.map_cons, List.map_cons, List.map_cons, h.1, ih]
    rw [e ry]
    exact List.Pairwise.map kS (fun a b hab c => hab (kS_inj c)) hnd
  have items : PairItems s.heap its.toArray (fun j => Ts.getD j 0) (ys.map fun y => (Value.ref y.2.1, y.2.2)) := by
    refine ⟨by rw [List.size_toArray, ← rv.length, List.length_map, List.length_map, lenT, lenY], fun j k v hj => ?_⟩
    rw [List.getElem?_map] at hj
    obtain ⟨y, hy1, hy2⟩ := Option.map_eq_some_iff.mp hj
    cases hy2
    have jl : j < Ts.length := by
      have := (List.getElem?_eq_some_iff.mp hy1).1
      omega
    have jT : Ts[j]? = some Ts[j] := List.getElem?_eq_getElem jl
    have gT : Ts.getD j 0 = Ts[j] := by rw [List.getD_eq_getElem?_getD, jT]; rfl
    refine ⟨?_, .inl ?_⟩
    · obtain ⟨u, hu1, hu2⟩ := rv.get (i := j) (x := V.ref Ts[j]) (by rw [List.getElem?_map, jT]; rfl)
      cases hu2
      show its.toArray[j]? = some (Value.ref (Ts.getD j 0))
      rw [gT]
      simpa using hu1
    · show s.heap.IsTuple (Ts.getD j 0) _
      rw [gT]
      exact hy j _ y jT hy1
  refine call_dict_pairsH (knd := nestedKind X.prog X.w) (ps := ys) (PairArg.list l its.toArray (fun j => Ts.getD j 0) (ys.map fun y => (Value.ref y.2.1, y.2.2))) (I.ok.hd hc) (room9 hu _ _) ⟨⟨_, n, ho, rfl, rfl, rfl⟩, items⟩ ?_ ?_ (by rw [List.length_map, ← lenY, ← lenT]; exact hz2) fun h' tk hd' kp => ?_
  · refine ⟨by rw [List.length_map], fun i k v hi => ?_⟩
    have hi' : (ys.map fun y => (Value.ref y.2.1, y.2.2))[i]? = some (k, v) := hi
    rw [List.getElem?_map] at hi'
    obtain ⟨y, hy1, hy2⟩ := Option.map_eq_some_iff.mp hi'
    cases hy2
    exact ⟨y.1, y.2.1, hy1, rfl⟩
  · intro h' kp x hx
    obtain ⟨p, hp, r1, r2, _⟩ := drel_mem ry x hx
    rw [r1, r2]
    exact (((hk p hp).at I).stay fun b o vs m e _ => kp b o (Nat.ne_of_lt (Heap.lt_size e)) (fun z => nomatch z) e).kind
  · rw [storedAllH_nil_of_nodup ys ndY] at hd'
    obtain ⟨o, ho', hd2⟩ := of_dictH hd' ry
    exact ⟨.ref s.heap.objs.size, _, I.laid (t' := tk) (fun b u e => kp b u (fun z => nomatch z) e) (Nat.le_refl _) (dicO_ok (by rw [← lenT]; exact hz2) (notSys I) ho' hd2), rfl, q _ _ (I.hok.fresh (Nat.le_refl _))⟩
/-- dict(d): a copy -/
def rDictD (P : Program) (w : World) : List V → Hp → VK → Prop := fun xs H Q => ∃ (d : Addr) (o : Obj) (es : List DE), xs = [V.ref d] ∧ H d = some (DicO P w d o es) ∧ (∀ e ∈ es, SpA H e.2.1 e.1) ∧ (es.map fun e => hz w e.1).Nodup ∧
  ∀ p o', H p = none → Q (.ref p) (upd H p (DicO P w p o' es))
theorem copy_dictH {A : Around} {E : Value → Shared → Prop} {P : Program} {w : World} {s : Shared} {d : Addr} {ys : List (NestedKey × Addr × Value)} {Q : Value → Shared → Prop} (hu : A.units + 64 < cLine) (hs : (d == sysModules) = false) (hm : s.heap.DictOfH (nestedKind P w) d ys) (hl : ys.length ≤ sizeLine)
    (hap : (ys.map fun x => (nestedKind P w).hash x.1).Nodup) (h : ∀ h', h'.DictOfH (nestedKind P w) s.heap.objs.size ys → (∀ b o, s.heap.get? b = some o → h'.get? b = some o) → Q (.ref s.heap.objs.size) { s with heap := h' }) :
    wpAny (model P w) A (call (.type "dict") [.ref d]) Q E s := by
  refine callType_codes (Q₁ := fun obj s₁ => obj = .ref s.heap.objs.size ∧ s₁ = { s with heap := s.heap.push { cls := .type "dict", data := .dict #[] } }) PySem.F.kt_called_dict (PySem.F.kt_typeCall_dict_1 _) PySem.F.entry_dict_init (kt_code_dict_new _ ⟨rfl, rfl⟩) ?_
  rintro obj s₁ ⟨rfl, rfl⟩
  have lt : d < s.heap.objs.size := let ⟨_, _, _, e, _⟩ := hm; Heap.lt_size e
  have new : (s.heap.push { cls := .type "dict", data := .dict #[] }).DictOfH (nestedKind P w) s.heap.objs.size [] := Heap.DictOfH.new s.heap
  have kp : ∀ b o, s.heap.get? b = some o → (s.heap.push { cls := .type "dict", data := .dict #[] }).get? b = some o := fun b o e => Heap.get?_push_of_some _ e
  have old : (s.heap.push { cls := .type "dict", data := .dict #[] }).DictOfH (nestedKind P w) d ys := by
    obtain ⟨o, es, ep, e1, e2, e3, e4, e5, e6⟩ := hm
    exact ⟨o, es, ep, kp _ _ e1, e2, e3, e4, fun x hx => nestedKind_stays.stays (fun b o _ _ e _ => kp b o e) (e5 x hx), e6⟩
  refine ⟨new.typeIs, PySem.F.args_dict_init_2 _ _, ?_⟩
  unfold Builtin.«dict.__init__»
  apply wpAny_bind
  unfold Builtin.Dict.selfAndRest
  apply wpAny_bind
  apply wpAny_notOrdered_dict new.typeIs
  show wpAny _ _ (pure (s.heap.objs.size, [Value.ref d])) _ _ _
  apply wpAny_pure
  show wpAny _ _ (Builtin.Dict.updateFrom "dict.__init__" s.heap.objs.size (.ref d) [] .none) _ _ _
  refine updateFrom_dictH (s := { s with heap := s.heap.push { cls := .type "dict", data := .dict #[] } }) .none (A := A.in1) (room9 hu _ _) (Nat.ne_of_gt lt) hs new old (.inr ⟨fun x hx => ?_, hap⟩) (by simpa using hl) fun h' hd' _ sb => ?_
  · obtain ⟨_, _, _, _, _, _, _, his, _⟩ := old
    exact nestedKind_stays.tuple (his x hx)
  · rw [storedAllH_nil_of_nodup ys hm.nodup] at hd'
    exact ⟨rfl, h h' hd' fun b o e => (sb.2 b (Nat.ne_of_lt (Heap.lt_size e))).trans (kp b o e)⟩
theorem cr_dictD (hu : X.A.units + 64 < cLine) : CallR X (.type "dict") (rDictD X.prog X.w) := by
  intro pins s σ H xs us Q I r h
  obtain ⟨d, o, es, rfl, hd, hk, hap, q⟩ := h
  rw [Vals.ref1 r]
  obtain ⟨h1, h2, ys, ry, hm⟩ := dic_at I hd hk
  have hsh : ∀ {es : List DE} {ys : List (NestedKey × Addr × Value)}, Paired DRel es ys → (ys.map fun x => (nestedKind X.prog X.w).hash x.1) = es.map fun e => hz X.w e.1 := by
    intro es ys r
    induction r with
    | nil => rfl
    | cons h t ih =>
      rw [List.map_cons, List.map_cons, ih, h.1]
      rfl
  refine copy_dictH hu h2 hm (by rw [← ry.length]; exact h1) (by rw [hsh ry]; exact hap) fun h' hd' kp => ?_
  obtain ⟨o', ho', hd2⟩ := of_dictH hd' ry
  exact ⟨.ref s.heap.objs.size, _, I.laid (t' := s.toks) kp (Nat.le_refl _) (dicO_ok h1 (notSys I) ho' hd2), rfl, q _ _ (I.hok.fresh (Nat.le_refl _))⟩
end
end
section
set_option maxHeartbeats 4000000
/-- the values of such a dict, in their order -/
def ItV (P : Program) (w : World) (d : Addr) (o : Obj) (xs : List DE) : It :=
  ⟨fun i H => H d = some (DicO P w d o xs) ∧ i < xs.length, fun i H x H' => H' = H ∧ ∃ p, xs[i]? = some p ∧ x = p.2.2, fun i H => H d = some (DicO P w d o xs) ∧ xs.length ≤ i⟩
section
variable {P : Program} {w : World} {K : PySem.W.Frag} {tg : Expr} {d : Addr} {o : Obj} {es : Array DictEntry} {ep : Nat}
theorem data_eq {es' : Array DictEntry} {ep' : Nat} (h : o.data = .dict es ep) (h' : o.data = .dict es' ep') : es' = es ∧ ep' = ep := by
  rw [h] at h'
  cases h'
  exact ⟨rfl, rfl⟩
theorem turn_valsD {xs : List DE} (it : Addr) (hod : o.data = .dict es ep) : Turn P w K tg (ItV P w d o xs) [it] it (fun i h => h.IsValIter it d i xs.length ep) where
  mem := by simp
  obj := fun i h st b hb => by
    obtain rfl : b = it := by simpa using hb
    obtain ⟨oi, e, c, dd⟩ := st
    exact ⟨oi, e, fun v z => by rw [dd] at z; cases z⟩
  keep := fun i h h' st k => by
    obtain ⟨oi, e, r⟩ := st
    exact ⟨oi, k it (by simp) oi e, r⟩
  item := by
    intro X hP hw hK hc i pins s σ H E I hf st hg
    subst hP hw hK
    obtain ⟨hd, hi⟩ := hg
    obtain ⟨f0, f1, f2, f3, f4, f5⟩ := hf it (by simp)
    obtain ⟨h1, h2, ys, en, ep', rr, raw, hdt, he, hz'⟩ := dic_raw I hd
    obtain ⟨rfl, rfl⟩ := data_eq hod hdt
    obtain ⟨p, hp⟩ : ∃ p, xs[i]? = some p := ⟨xs[i], List.getElem?_eq_getElem hi⟩
    rw [← hz'] at st
    have hlt : i < en.size := by rw [hz']; exact hi
    have e2 : en[i]? = some en[i] := by simp [hlt]
    rw [← Array.getElem?_toList, he, List.getElem?_map] at e2
    obtain ⟨q, hq, e3⟩ := Option.map_eq_some_iff.mp e2
    obtain ⟨p', hp', _, _, rv⟩ := drel_get rr hq
    rw [hp] at hp'
    cases hp'
    refine wpAny_pyNext_values_item_raw st raw hlt fun h' st' sb => ?_
    have I1 : Inv X pins σ H { s with heap := h' } := I.turned (t' := s.toks) (fun b ob hb e => (sb.2 b hb).trans e) f0 f1 f3 f4 f5
    obtain ⟨oi, e, c, dd⟩ := id st'
    refine ⟨en[i].val, rfl, go_of (s := { s with heap := h' }) e c dd (by decide) ⟨p.2.2, H, I1, ?_, ⟨rfl, p, hp, rfl⟩, ?_, fun b hb => (hf b hb).1⟩⟩
    · rw [← e3]
      exact rv
    · show h'.IsValIter it d (i + 1) xs.length _
      rw [← hz']
      exact st'
  done := by
    intro X hP hw hK hc i pins s σ H E I hf st hg
    subst hP hw hK
    obtain ⟨hd, hi⟩ := hg
    obtain ⟨f0, f1, f2, f3, f4, f5⟩ := hf it (by simp)
    obtain ⟨h1, h2, ys, en, ep', rr, raw, hdt, he, hz'⟩ := dic_raw I hd
    obtain ⟨rfl, rfl⟩ := data_eq hod hdt
    rw [← hz'] at st
    exact wpAny_pyNext_values_end_raw (I.ok.hd hc) st raw (by omega) fun h' eb => ⟨rfl, I.turned (t' := s.toks) (fun b ob hb e => eb b ob hb e) f0 f1 f3 f4 f5⟩
  self := fun A i s Q E st h => wpAny_pyIter_valiter st h
end
def iValsD (P : Program) (w : World) (td : TE) : TI := fun σ H R => td σ H fun x H1 => ∃ d o xs, x = .ref d ∧ H1 d = some (DicO P w d o xs) ∧ R (ItV P w d o xs) H1
section
variable {X : Cx} {tg e : Expr} {td : TE} {apos cpos : Pos}
theorem pi_valsD (he : PE X e td) (hbase : attributeBase e "values" X.env (eval e X.env) = eval e X.env := by rfl) (hline : (apos.endLine == cpos.line) = true := by rfl) : PI X tg (.Call (.Attribute e "values" apos) [] [] cpos) (iValsD X.prog X.w td) := by
  refine ⟨fun pins s σ H R I h => ?_⟩
  refine wpAny_Call_method (T := "dict") (id := "dict.values") hbase rfl hline PySem.F.plainAttrs_dict PySem.F.slot_dict_values PySem.F.type_dict_values (thn (he.run pins s σ H _ I h) fun u s1 ⟨x, H1, I1, rx, d, o, xs, ex, hd, q⟩ => ?_)
  subst ex
  obtain rfl : u = Value.ref d := rx
  obtain ⟨h1, h2, ys, en, ep, rr, raw, hdt, hen, hz'⟩ := dic_raw I1 hd
  refine ⟨raw.typeIs, fun b e => ?_, ?_⟩
  · injection e with e
    subst e
    obtain ⟨ob, ho, hx, _⟩ := raw
    exact ⟨ob, ho, hx.2.1⟩
  have I2 : Inv X pins σ H1 { s1 with heap := s1.heap.push { cls := .type "dict_values", data := .fields #[.ref d] } } := I1.kept (t' := s1.toks) fun b ob q => Heap.get?_push_of_some _ q
  have fin : wpAny (model X.prog X.w) X.A (pyIter (.ref s1.heap.objs.size)) (PIE X pins σ tg R) X.xe { s1 with heap := s1.heap.push { cls := .type "dict_values", data := .fields #[.ref d] } } := by
    refine wpAny_pyIter_values_raw (d := d) ⟨_, Heap.get?_push_size _ rfl, rfl, rfl⟩ (raw.push _) (pi_one (tk := s1.toks) I2 _ (turn_valsD _ hdt) ⟨_, Heap.get?_push_size _ rfl, rfl, ?_⟩ q)
    rw [hz'] <;> rfl
  show wpAny _ _ (callWith cpos (.builtin "dict.values") [.ref d] [] []) _ X.xe s1
  exact method_meetsIn PySem.F.slot_dict_values PySem.F.entry_dict_values rfl (PySem.evalArgs_none ⟨rfl, raw.typeIs, PySem.F.args_dict_values_1 _, _, meets_dict_values_raw d h2, ⟨⟨en, ep, raw⟩, fin⟩⟩)
theorem walk_valsD {P : Program} {w : World} {d : Addr} {o : Obj} {xs : List DE} : Walk (ItV P w d o xs) xs.length (fun H => H d = some (DicO P w d o xs)) (fun i H x H' => H' = H ∧ ∃ p, xs[i]? = some p ∧ x = p.2.2) :=
  ⟨fun _ _ hi q => ⟨q, hi⟩, fun _ q => ⟨q, Nat.le_refl _⟩, fun _ _ _ _ _ _ y => y⟩
end
end
section
set_option maxHeartbeats 4000000
/-! ### zip of a tuple and a list; of a list and two tuples -/
/-- the x with a relation to u, and the index -/
theorem vals_ix {xs : List V} {us : List Value} (r : Vals xs us) {i : Nat} {u : Value} (h : us[i]? = some u) : ∃ x, xs[i]? = some x ∧ RelV x u := by
  have hl := r.length
  have hi := (List.getElem?_eq_some_iff.mp h).1
  have hx : xs[i]? = some xs[i] := List.getElem?_eq_getElem (by omega)
  obtain ⟨u', h1, h2⟩ := r.get hx
  rw [h] at h1
  cases h1
  exact ⟨_, hx, h2⟩
def ItTL (K : PySem.W.Frag) (a b : Addr) : It :=
  ⟨fun i H => ∃ (xs ys : List V), SqT K H a xs ∧ SqL K H b ys ∧ i < xs.length ∧ i < ys.length,
    fun i H v H' => ∃ T x y, v = .ref T ∧ H T = none ∧ H' = upd H T (.tup [x, y]) ∧ (∀ xs, SqT K H a xs → xs[i]? = some x) ∧ ∀ ys, SqL K H b ys → ys[i]? = some y,
    fun i H => ∃ xs ys : List V, SqT K H a xs ∧ SqL K H b ys ∧ i ≤ xs.length ∧ i ≤ ys.length ∧ (i = xs.length ∨ i = ys.length)⟩
section
variable {X : Cx} {pins : List (Addr × Obj)} {σ : L2.St} {H : Hp} {s : Shared}
theorem tup_inj (I : Inv X pins σ H s) {a : Addr} {xs ys : List V} (h1 : SqT X.K H a xs) (h2 : SqT X.K H a ys) : xs = ys := I.tuple_inj h1 h2
end
theorem turn_TL {P : Program} {w : World} {K : PySem.W.Frag} {elts : List Expr} {kk : Nat} {tpos : Pos} {a b z TI TO i1 i2 : Addr} (S : ZipSep2 z TI TO i1 i2 [i1, a] [i2, b]) (n1 : a ≠ i1) (n2 : b ≠ i2) (n3 : a ≠ i2) (n4 : b ≠ i1) :
    Turn P w K (.Tuple elts kk tpos) (ItTL K a b) [z, TI, TO, i1, i2] z (fun i h => IsZip h z TI TO .none ∧ IsTupOf2 h TI (.ref i1) (.ref i2) ∧ (∃ x y, IsTupOf2 h TO x y) ∧ h.IsTupleIter i1 a i ∧ h.IsListIter i2 b i) where
  mem := by simp
  obj := fun i h st c hc => by
    obtain ⟨hz, hTI, ⟨x, y, hTO⟩, ⟨o1, e1, _, d1⟩, ⟨o2, e2, _, d2⟩⟩ := st
    have e' : c = z ∨ c = TI ∨ c = TO ∨ c = i1 ∨ c = i2 := by simpa using hc
    rcases e' with q | q | q | q | q
    · rw [q]; exact ⟨_, hz, fun v q => nomatch q⟩
    · rw [q]; exact ⟨_, hTI, fun v q => nomatch q⟩
    · rw [q]; exact ⟨_, hTO, fun v q => nomatch q⟩
    · rw [q]; exact ⟨o1, e1, fun v q => by rw [d1] at q; cases q⟩
    · rw [q]; exact ⟨o2, e2, fun v q => by rw [d2] at q; cases q⟩
  keep := fun i h h' st k => by
    obtain ⟨hz, hTI, ⟨x, y, hTO⟩, h1, h2⟩ := st
    exact ⟨k z (by simp) _ hz, k TI (by simp) _ hTI, ⟨x, y, k TO (by simp) _ hTO⟩, h1.at fun o q => k i1 (by simp) o q, h2.at fun o q => k i2 (by simp) o q⟩
  item := by
    intro X hP hw hK hc i pins s σ H E I hf st hg
    subst hP hw hK
    obtain ⟨hz, hTI, ⟨x0, y0, hTO⟩, h1, h2⟩ := st
    obtain ⟨xs, ys, hqx, hqy, hx, hy⟩ := hg
    obtain ⟨its, rv, p, _⟩ := I.tuple hqx
    obtain ⟨its2, rv2, p2, _⟩ := I.list hqy
    have l1 := rv.length
    have l2 := rv2.length
    have hzl : z < s.heap.objs.size := Heap.lt_size hz
    have hh : X.A.in1.handled = none := by simp [I.ok.hd hc]
    refine wpAny_pyNext_zipD2_item S (Draws.tuple hh i1 a n1 its.toArray) (Draws.list hh i2 b n2 its2.toArray) hz hTI hTO ⟨h1, p⟩ ⟨h2, p2.isList⟩ (by simp; omega) (by simp; omega) fun u u2 h' tk e1 e2 z' TO' s1' s2' hT hsz hk => ?_
    obtain ⟨x, hx', ru⟩ := vals_ix rv (i := i) (by simpa using e1)
    obtain ⟨y, hy', ru2⟩ := vals_ix rv2 (i := i) (by simpa using e2)
    refine ⟨_, rfl, wpAny_letOwnedTupleGo_zip (s := { s with heap := h', toks := tk }) z' fun h'' z'' sb => ?_⟩
    have hT2 : h''.get? s.heap.objs.size = some { cls := .type "tuple", data := .seq #[u, u2] } := (sb.2 _ (Nat.ne_of_gt hzl)).trans hT
    have new : ObjOk X.prog X.w (upd H s.heap.objs.size (.tup [x, y])) h'' s.heap.objs.size (.tup [x, y]) :=
      ⟨by show 2 ≤ sizeLine; decide, [u, u2], .cons ru (.cons ru2 .nil), ⟨_, hT2, rfl, _, rfl⟩⟩
    have I1 : Inv X pins σ (upd H s.heap.objs.size (.tup [x, y])) { s with heap := h'', toks := tk } :=
      I.turnedNew (t' := tk) (ch := [z, TI, TO, i1, i2]) (fun c o hb q => (sb.2 c (fun q' => hb (by simp [q']))).trans (hk c o (fun q' => hb (by simp [q'])) (fun q' => hb (by simp [q'])) (fun q' => hb (by simp [q'])) (fun q' => hb (by simp [q'])) q)) hf (Nat.le_refl _) new
    have kz : ∀ c, c ≠ z → ∀ o, h'.get? c = some o → h''.get? c = some o := fun c hc o q => (sb.2 c hc).trans q
    refine ⟨.ref s.heap.objs.size, _, I1, rfl, ⟨_, x, y, rfl, I.hok.fresh (Nat.le_refl _), rfl, fun l hl => by rw [I.tuple_inj hl hqx]; exact hx', fun l hl => by rw [I.list_inj hl hqy]; exact hy'⟩, ⟨z'', ?_, ⟨u, u2, ?_⟩, ?_, ?_⟩, fun c hcm => ?_⟩
    · exact kz _ S.TIz _ (hk _ _ S.TIz S.TITO S.TIi1 S.TIi2 hTI)
    · exact kz _ S.TOz _ TO'
    · exact s1'.1.at fun o q => kz _ (Ne.symm S.zi1) o q
    · exact s2'.1.at fun o q => kz _ (Ne.symm S.zi2) o q
    · have hlt : c < s.heap.objs.size := by
        have e' : c = z ∨ c = TI ∨ c = TO ∨ c = i1 ∨ c = i2 := by simpa using hcm
        rcases e' with q | q | q | q | q
        · rw [q]; exact hzl
        · rw [q]; exact Heap.lt_size hTI
        · rw [q]; exact Heap.lt_size hTO
        · rw [q]; obtain ⟨_, e1, _⟩ := h1; exact Heap.lt_size e1
        · rw [q]; obtain ⟨_, e2, _⟩ := h2; exact Heap.lt_size e2
      rw [upd_ne (Nat.ne_of_lt hlt)]
      exact (hf c hcm).1
  done := by
    intro X hP hw hK hc i pins s σ H E I hf st hg
    subst hP hw hK
    obtain ⟨hz, hTI, ⟨x0, y0, hTO⟩, h1, h2⟩ := st
    obtain ⟨xs, ys, hqx, hqy, hx, hy, hend⟩ := hg
    obtain ⟨its, rv, p, _⟩ := I.tuple hqx
    obtain ⟨its2, rv2, p2, _⟩ := I.list hqy
    have l1 := rv.length
    have l2 := rv2.length
    have hh : X.A.in1.handled = none := by simp [I.ok.hd hc]
    exact wpAny_pyNext_zipD2_end S (Draws.tuple hh i1 a n1 its.toArray) (Draws.list hh i2 b n2 its2.toArray) hz hTI hTO ⟨h1, p⟩ ⟨h2, p2.isList⟩ (by simp; omega) (by simp; omega) (by simp; omega) fun h' tk hk => ⟨rfl, I.turnedL (t' := tk) (ch := [z, TI, TO, i1, i2]) (fun c o hb q =>
      hk c o (fun q' => hb (by simp [q'])) (fun q' => hb (by simp [q'])) (fun q' => hb (by simp [q'])) (fun q' => hb (by simp [q'])) q) hf⟩
  self := fun A i s Q E st h => wpAny_pyIter_zip st.1 h
def iZipTL (K : PySem.W.Frag) (ta : TA) : TI := fun σ H R => ta σ H fun vs H1 => ∃ a b xs ys, vs = [.ref a, .ref b] ∧ SqT K H1 a xs ∧ SqL K H1 b ys ∧ R (ItTL K a b) H1
theorem pi_zipTL {X : Cx} {e e2 : Expr} {ta : TA} {p pos tpos : Pos} {elts : List Expr} {kk : Nat} (hg : Gl X "zip") (hm : X.mg "zip" = none) (ha : PA X [e, e2] ta)
    (hs : starEach [e, e2] X.env = (false, eval e X.env) :: starEach [e2] X.env := by rfl) (hpl : (backTo pos (starEach [e2] X.env)).any (·.1) = false := by rfl) :
    PI X (.Tuple elts kk tpos) (.Call (.Name "zip" p) [e, e2] [] pos) (iZipTL X.K ta) := by
  refine ⟨fun pins s σ H R I h => ?_⟩
  refine Call_ (ld_blt I hg hm PyProof.Rows.boot_zip (PyProof.Rows.callWith_type1 (thn (ha.run pos pins s σ H _ I h) fun us s1 ⟨vs, H1, I1, r1, q1⟩ => ?_) hs hpl))
  obtain ⟨a, b, xs, ys, ex, hqx, hqy, q⟩ := q1
  subst ex
  obtain ⟨u1, u2, rfl, r, r'⟩ := vals2 r1
  cases r
  cases r'
  obtain ⟨its, rv, p1, _⟩ := I1.tuple hqx
  obtain ⟨its2, rv2, p2, _⟩ := I1.list hqy
  have la : a < s1.heap.objs.size := let ⟨_, e, _⟩ := p1; Heap.lt_size e
  have lb : b < s1.heap.objs.size := p2.lt
  refine zip_begins2 (begins_tuple a its.toArray) (begins_list b its2.toArray) p1 p2.isList fun h' hz hTI hTO h1 h2 hsz hk => wpAny_pyIter_zip hz ?_
  have I2 : Inv X pins σ H1 { s1 with heap := h' } := I1.kept (t' := s1.toks) hk
  have sep : ZipSep2 (s1.heap.objs.size + 4) (s1.heap.objs.size + 2) (s1.heap.objs.size + 3) s1.heap.objs.size (s1.heap.objs.size + 1) [s1.heap.objs.size, a] [s1.heap.objs.size + 1, b] :=
    zip_sep2 (fun c hc => by rw [List.mem_singleton.mp hc]; exact la) (fun c hc => by rw [List.mem_singleton.mp hc]; exact lb)
  refine ⟨s1.heap.objs.size + 4, [s1.heap.objs.size + 4, s1.heap.objs.size + 2, s1.heap.objs.size + 3, s1.heap.objs.size, s1.heap.objs.size + 1], _, _, H1, rfl, I2,
    turn_TL sep (Nat.ne_of_lt la) (Nat.ne_of_lt (Nat.lt_succ_of_lt lb)) (Nat.ne_of_lt (Nat.lt_succ_of_lt la)) (Nat.ne_of_lt lb), ⟨hz, hTI, ⟨_, _, hTO⟩, ⟨_, h1, rfl, rfl⟩, ⟨_, h2, rfl, rfl⟩⟩, fun c hcm => ?_, q⟩
  have e' : c = s1.heap.objs.size + 4 ∨ c = s1.heap.objs.size + 2 ∨ c = s1.heap.objs.size + 3 ∨ c = s1.heap.objs.size ∨ c = s1.heap.objs.size + 1 := by simpa using hcm
  have hle : s1.heap.objs.size ≤ c := by
    rcases e' with z | z | z | z | z
    · rw [z]; exact Nat.le_add_right _ _
    · rw [z]; exact Nat.le_add_right _ _
    · rw [z]; exact Nat.le_add_right _ _
    · rw [z]; exact Nat.le_refl _
    · rw [z]; exact Nat.le_add_right _ _
  exact I1.fpOk hle (I1.hok.fresh hle)
theorem walk_TL {K : PySem.W.Frag} {a b : Addr} {xs ys : List V} (hn : xs.length = ys.length) : Walk (ItTL K a b) xs.length (fun H => SqT K H a xs ∧ SqL K H b ys) (YPair (fun i => xs[i]?) (fun i => ys[i]?)) :=
  ⟨fun i _ hi q => ⟨xs, ys, q.1, q.2, hi, by omega⟩, fun _ q => ⟨xs, ys, q.1, q.2, Nat.le_refl _, by omega, .inl rfl⟩, fun i H v H' _ q y => by
    obtain ⟨T, x, z, h1, h2, h3, h4, h5⟩ := y
    exact ⟨T, x, z, h1, h2, h3, h4 xs q.1, h5 ys q.2⟩⟩
end
section
set_option maxHeartbeats 4000000
def It3 (K : PySem.W.Frag) (a b d : Addr) : It :=
  ⟨fun i H => ∃ (xs ys zs : List V), SqL K H a xs ∧ SqT K H b ys ∧ SqT K H d zs ∧ i < xs.length ∧ i < ys.length ∧ i < zs.length,
    fun i H v H' => ∃ T x y z, v = .ref T ∧ H T = none ∧ H' = upd H T (.tup [x, y, z]) ∧ (∀ xs, SqL K H a xs → xs[i]? = some x) ∧ (∀ ys, SqT K H b ys → ys[i]? = some y) ∧ ∀ zs, SqT K H d zs → zs[i]? = some z,
    fun i H => ∃ xs ys zs : List V, SqL K H a xs ∧ SqT K H b ys ∧ SqT K H d zs ∧ i ≤ xs.length ∧ i ≤ ys.length ∧ i ≤ zs.length ∧ (i = xs.length ∨ i = ys.length ∨ i = zs.length)⟩
theorem turn_3 {P : Program} {w : World} {K : PySem.W.Frag} {elts : List Expr} {kk : Nat} {tpos : Pos} {a b d z TI TO i1 i2 i3 : Addr} (S : ZipSep3 z TI TO i1 i2 i3 [i1, a] [i2, b] [i3, d]) (n1 : a ≠ i1) (n2 : b ≠ i2) (n3 : d ≠ i3) :
    Turn P w K (.Tuple elts kk tpos) (It3 K a b d) [z, TI, TO, i1, i2, i3] z (fun i h => IsZip h z TI TO .none ∧ IsTupOf3 h TI (.ref i1) (.ref i2) (.ref i3) ∧ (∃ x y u, IsTupOf3 h TO x y u) ∧ h.IsListIter i1 a i ∧ h.IsTupleIter i2 b i ∧ h.IsTupleIter i3 d i) where
  mem := by simp
  obj := fun i h st c hc => by
    obtain ⟨hz, hTI, ⟨x, y, u, hTO⟩, ⟨o1, e1, _, d1⟩, ⟨o2, e2, _, d2⟩, ⟨o3, e3, _, d3⟩⟩ := st
    have e' : c = z ∨ c = TI ∨ c = TO ∨ c = i1 ∨ c = i2 ∨ c = i3 := by simpa using hc
    rcases e' with q | q | q | q | q | q
    · rw [q]; exact ⟨_, hz, fun v q => nomatch q⟩
    · rw [q]; exact ⟨_, hTI, fun v q => nomatch q⟩
    · rw [q]; exact ⟨_, hTO, fun v q => nomatch q⟩
    · rw [q]; exact ⟨o1, e1, fun v q => by rw [d1] at q; cases q⟩
    · rw [q]; exact ⟨o2, e2, fun v q => by rw [d2] at q; cases q⟩
    · rw [q]; exact ⟨o3, e3, fun v q => by rw [d3] at q; cases q⟩
  keep := fun i h h' st k => by
    obtain ⟨hz, hTI, ⟨x, y, u, hTO⟩, h1, h2, h3⟩ := st
    exact ⟨k z (by simp) _ hz, k TI (by simp) _ hTI, ⟨x, y, u, k TO (by simp) _ hTO⟩, h1.at fun o q => k i1 (by simp) o q, h2.at fun o q => k i2 (by simp) o q, h3.at fun o q => k i3 (by simp) o q⟩
  item := by
    intro X hP hw hK hc i pins s σ H E I hf st hg
    subst hP hw hK
    obtain ⟨hz, hTI, ⟨x0, y0, u0, hTO⟩, h1, h2, h3⟩ := st
    obtain ⟨xs, ys, zs, hqx, hqy, hqz, hx, hy, hz3⟩ := hg
    obtain ⟨its, rv, p, _⟩ := I.list hqx
    obtain ⟨its2, rv2, p2, _⟩ := I.tuple hqy
    obtain ⟨its3, rv3, p3, _⟩ := I.tuple hqz
    have l1 := rv.length
    have l2 := rv2.length
    have l3 := rv3.length
    have hzl : z < s.heap.objs.size := Heap.lt_size hz
    have hh : X.A.in1.handled = none := by simp [I.ok.hd hc]
    refine wpAny_pyNext_zipD3_item S (Draws.list hh i1 a n1 its.toArray) (Draws.tuple hh i2 b n2 its2.toArray) (Draws.tuple hh i3 d n3 its3.toArray) hz hTI hTO ⟨h1, p.isList⟩ ⟨h2, p2⟩ ⟨h3, p3⟩ (by simp; omega) (by simp; omega) (by simp; omega)
      fun u u2 u3 h' tk e1 e2 e3 z' TO' s1' s2' s3' hT hsz hk => ?_
    obtain ⟨x, hx', ru⟩ := vals_ix rv (i := i) (by simpa using e1)
    obtain ⟨y, hy', ru2⟩ := vals_ix rv2 (i := i) (by simpa using e2)
    obtain ⟨v3, hv', ru3⟩ := vals_ix rv3 (i := i) (by simpa using e3)
    refine ⟨_, rfl, wpAny_letOwnedTupleGo_zip (s := { s with heap := h', toks := tk }) z' fun h'' z'' sb => ?_⟩
    have hT2 : h''.get? s.heap.objs.size = some { cls := .type "tuple", data := .seq #[u, u2, u3] } := (sb.2 _ (Nat.ne_of_gt hzl)).trans hT
    have new : ObjOk X.prog X.w (upd H s.heap.objs.size (.tup [x, y, v3])) h'' s.heap.objs.size (.tup [x, y, v3]) :=
      ⟨by show 3 ≤ sizeLine; decide, [u, u2, u3], .cons ru (.cons ru2 (.cons ru3 .nil)), ⟨_, hT2, rfl, _, rfl⟩⟩
    have I1 : Inv X pins σ (upd H s.heap.objs.size (.tup [x, y, v3])) { s with heap := h'', toks := tk } :=
      I.turnedNew (t' := tk) (ch := [z, TI, TO, i1, i2, i3]) (fun c o hb q => (sb.2 c (fun q' => hb (by simp [q']))).trans (hk c o (fun q' => hb (by simp [q'])) (fun q' => hb (by simp [q'])) (fun q' => hb (by simp [q'])) (fun q' => hb (by simp [q'])) (fun q' => hb (by simp [q'])) q)) hf (Nat.le_refl _) new
    have kz : ∀ c, c ≠ z → ∀ o, h'.get? c = some o → h''.get? c = some o := fun c hc o q => (sb.2 c hc).trans q
    refine ⟨.ref s.heap.objs.size, _, I1, rfl, ⟨_, x, y, v3, rfl, I.hok.fresh (Nat.le_refl _), rfl, fun l hl => by rw [I.list_inj hl hqx]; exact hx', fun l hl => by rw [I.tuple_inj hl hqy]; exact hy', fun l hl => by rw [I.tuple_inj hl hqz]; exact hv'⟩, ⟨z'', ?_, ⟨u, u2, u3, ?_⟩, ?_, ?_, ?_⟩, fun c hcm => ?_⟩
    · exact kz _ S.TIz _ (hk _ _ S.TIz S.TITO S.TIi1 S.TIi2 S.TIi3 hTI)
    · exact kz _ S.TOz _ TO'
    · exact s1'.1.at fun o q => kz _ (Ne.symm S.zi1) o q
    · exact s2'.1.at fun o q => kz _ (Ne.symm S.zi2) o q
    · exact s3'.1.at fun o q => kz _ (Ne.symm S.zi3) o q
    · have hlt : c < s.heap.objs.size := by
        have e' : c = z ∨ c = TI ∨ c = TO ∨ c = i1 ∨ c = i2 ∨ c = i3 := by simpa using hcm
        rcases e' with q | q | q | q | q | q
        · rw [q]; exact hzl
        · rw [q]; exact Heap.lt_size hTI
        · rw [q]; exact Heap.lt_size hTO
        · rw [q]; obtain ⟨_, e1, _⟩ := h1; exact Heap.lt_size e1
        · rw [q]; obtain ⟨_, e2, _⟩ := h2; exact Heap.lt_size e2
        · rw [q]; obtain ⟨_, e3, _⟩ := h3; exact Heap.lt_size e3
      rw [upd_ne (Nat.ne_of_lt hlt)]
      exact (hf c hcm).1
  done := by
    intro X hP hw hK hc i pins s σ H E I hf st hg
    subst hP hw hK
    obtain ⟨hz, hTI, ⟨x0, y0, u0, hTO⟩, h1, h2, h3⟩ := st
    obtain ⟨xs, ys, zs, hqx, hqy, hqz, hx, hy, hz3, hend⟩ := hg
    obtain ⟨its, rv, p, _⟩ := I.list hqx
    obtain ⟨its2, rv2, p2, _⟩ := I.tuple hqy
    obtain ⟨its3, rv3, p3, _⟩ := I.tuple hqz
    have l1 := rv.length
    have l2 := rv2.length
    have l3 := rv3.length
    have hh : X.A.in1.handled = none := by simp [I.ok.hd hc]
    exact wpAny_pyNext_zipD3_end S (Draws.list hh i1 a n1 its.toArray) (Draws.tuple hh i2 b n2 its2.toArray) (Draws.tuple hh i3 d n3 its3.toArray) hz hTI hTO ⟨h1, p.isList⟩ ⟨h2, p2⟩ ⟨h3, p3⟩ (by simp; omega) (by simp; omega) (by simp; omega) (by simp; omega)
      fun h' tk hk => ⟨rfl, I.turnedL (t' := tk) (ch := [z, TI, TO, i1, i2, i3]) (fun c o hb q =>
      hk c o (fun q' => hb (by simp [q'])) (fun q' => hb (by simp [q'])) (fun q' => hb (by simp [q'])) (fun q' => hb (by simp [q'])) (fun q' => hb (by simp [q'])) q) hf⟩
  self := fun A i s Q E st h => wpAny_pyIter_zip st.1 h
def iZip3 (K : PySem.W.Frag) (ta : TA) : TI := fun σ H R => ta σ H fun vs H1 => ∃ a b d xs ys zs, vs = [.ref a, .ref b, .ref d] ∧ SqL K H1 a xs ∧ SqT K H1 b ys ∧ SqT K H1 d zs ∧ R (It3 K a b d) H1
theorem vals3 {xs : List Value} {x y z : V} (r : Vals [x, y, z] xs) : ∃ u v w, xs = [u, v, w] ∧ RelV x u ∧ RelV y v ∧ RelV z w := by
  cases r with
  | cons a r =>
    obtain ⟨v, w, rfl, b, c⟩ := vals2 r
    exact ⟨_, v, w, rfl, a, b, c⟩
theorem pi_zip3 {X : Cx} {e e2 e3 : Expr} {ta : TA} {p pos tpos : Pos} {elts : List Expr} {kk : Nat} (hg : Gl X "zip") (hm : X.mg "zip" = none) (ha : PA X [e, e2, e3] ta)
    (hs : starEach [e, e2, e3] X.env = (false, eval e X.env) :: starEach [e2, e3] X.env := by rfl) (hpl : (backTo pos (starEach [e2, e3] X.env)).any (·.1) = false := by rfl) :
    PI X (.Tuple elts kk tpos) (.Call (.Name "zip" p) [e, e2, e3] [] pos) (iZip3 X.K ta) := by
  refine ⟨fun pins s σ H R I h => ?_⟩
  refine Call_ (ld_blt I hg hm PyProof.Rows.boot_zip (PyProof.Rows.callWith_type1 (thn (ha.run pos pins s σ H _ I h) fun us s1 ⟨vs, H1, I1, r1, q1⟩ => ?_) hs hpl))
  obtain ⟨a, b, d, xs, ys, zs, ex, hqx, hqy, hqz, q⟩ := q1
  subst ex
  obtain ⟨u1, u2, u3, rfl, r, r', r''⟩ := vals3 r1
  cases r
  cases r'
  cases r''
  obtain ⟨its, rv, p1, _⟩ := I1.list hqx
  obtain ⟨its2, rv2, p2, _⟩ := I1.tuple hqy
  obtain ⟨its3, rv3, p3, _⟩ := I1.tuple hqz
  have la : a < s1.heap.objs.size := p1.lt
  have lb : b < s1.heap.objs.size := let ⟨_, e, _⟩ := p2; Heap.lt_size e
  have ld : d < s1.heap.objs.size := let ⟨_, e, _⟩ := p3; Heap.lt_size e
  refine zip_begins3 (begins_list a its.toArray) (begins_tuple b its2.toArray) (begins_tuple d its3.toArray) p1.isList p2 p3 fun h' hz hTI hTO h1 h2 h3 hsz hk => wpAny_pyIter_zip hz ?_
  have I2 : Inv X pins σ H1 { s1 with heap := h' } := I1.kept (t' := s1.toks) hk
  have sep : ZipSep3 (s1.heap.objs.size + 5) (s1.heap.objs.size + 3) (s1.heap.objs.size + 4) s1.heap.objs.size (s1.heap.objs.size + 1) (s1.heap.objs.size + 2) [s1.heap.objs.size, a] [s1.heap.objs.size + 1, b] [s1.heap.objs.size + 2, d] :=
    zip_sep3 (fun c hc => by rw [List.mem_singleton.mp hc]; exact la) (fun c hc => by rw [List.mem_singleton.mp hc]; exact lb) (fun c hc => by rw [List.mem_singleton.mp hc]; exact ld)
  refine ⟨s1.heap.objs.size + 5, [s1.heap.objs.size + 5, s1.heap.objs.size + 3, s1.heap.objs.size + 4, s1.heap.objs.size, s1.heap.objs.size + 1, s1.heap.objs.size + 2], _, _, H1, rfl, I2,
    turn_3 sep (Nat.ne_of_lt la) (Nat.ne_of_lt (Nat.lt_succ_of_lt lb)) (Nat.ne_of_lt (Nat.lt_succ_of_lt (Nat.lt_succ_of_lt ld))), ⟨hz, hTI, ⟨_, _, _, hTO⟩, ⟨_, h1, rfl, rfl⟩, ⟨_, h2, rfl, rfl⟩, ⟨_, h3, rfl, rfl⟩⟩, fun c hcm => ?_, q⟩
  have e' : c = s1.heap.objs.size + 5 ∨ c = s1.heap.objs.size + 3 ∨ c = s1.heap.objs.size + 4 ∨ c = s1.heap.objs.size ∨ c = s1.heap.objs.size + 1 ∨ c = s1.heap.objs.size + 2 := by simpa using hcm
  have hle : s1.heap.objs.size ≤ c := by
    rcases e' with z | z | z | z | z | z
    · rw [z]; exact Nat.le_add_right _ _
    · rw [z]; exact Nat.le_add_right _ _
    · rw [z]; exact Nat.le_add_right _ _
    · rw [z]; exact Nat.le_refl _
    · rw [z]; exact Nat.le_add_right _ _
    · rw [z]; exact Nat.le_add_right _ _
  exact I1.fpOk hle (I1.hok.fresh hle)
/-- a new triple -/
def YTri (xs ys zs : Nat → Option V) : Nat → Hp → V → Hp → Prop := fun i H v H' => ∃ T x y z, v = .ref T ∧ H T = none ∧ H' = upd H T (.tup [x, y, z]) ∧ xs i = some x ∧ ys i = some y ∧ zs i = some z
theorem walk_3 {K : PySem.W.Frag} {a b d : Addr} {xs ys zs : List V} (h1 : xs.length = ys.length) (h2 : xs.length = zs.length) :
    Walk (It3 K a b d) xs.length (fun H => SqL K H a xs ∧ SqT K H b ys ∧ SqT K H d zs) (YTri (fun i => xs[i]?) (fun i => ys[i]?) (fun i => zs[i]?)) :=
  ⟨fun i _ hi q => ⟨xs, ys, zs, q.1, q.2.1, q.2.2, hi, by omega, by omega⟩, fun _ q => ⟨xs, ys, zs, q.1, q.2.1, q.2.2, Nat.le_refl _, by omega, by omega, .inl rfl⟩, fun i H v H' _ q y => by
    obtain ⟨T, x, z, u, h1, h2, h3, h4, h5, h6⟩ := y
    exact ⟨T, x, z, u, h1, h2, h3, h4 xs q.1, h5 ys q.2.1, h6 zs q.2.2⟩⟩
end
section
set_option maxHeartbeats 2000000
open LamX NdefX
/-- the words of a lambda, its captured cells, its code object -/
structure LF where
  qual : Str
  params : Arguments
  body : Expr
  scope : Scope
  cl : List (Str × Addr)
  c : Addr
def LfO (f : Addr) (F : LF) : HO := .ext fun h => ∃ pm ctv : Value, h.get? f = some (PySem.W.kla_obj "<lambda>" F.qual F.params F.body F.scope F.cl pm F.c ctv)
theorem lfO_at {P : Program} {w : World} {H : Hp} {h : Heap} {f : Addr} {F : LF} (hok : HOk P w H h) (e : H f = some (LfO f F)) : ∃ pm ctv : Value, h.get? f = some (PySem.W.kla_obj "<lambda>" F.qual F.params F.body F.scope F.cl pm F.c ctv) := by
  obtain ⟨z, _, _⟩ := hok f _ e
  exact z
def Keep (S : List Addr) (H H' : Hp) : Prop := ∀ b o, H b = some o → b ∉ S → H' b = some o
theorem Keep.refl {S : List Addr} (H : Hp) : Keep S H H := fun _ _ h _ => h
theorem Keep.trans {S : List Addr} {H H1 H2 : Hp} (a : Keep S H H1) (b : Keep S H1 H2) : Keep S H H2 := fun c o h n => b c o (a c o h n) n
theorem Keep.of {S : List Addr} {H H' : Hp} (a : Same H H') : Keep S H H' := fun b o h _ => a b o h
theorem Keep.mono {S S' : List Addr} {H H' : Hp} (a : Keep S H H') (h : ∀ b ∈ S, b ∈ S') : Keep S' H H' := fun b o e n => a b o e fun z => n (h b z)
theorem Keep.upd {S : List Addr} {H : Hp} {p : Addr} {o : HO} (h : p ∈ S) : Keep S H (upd H p o) := fun b u e n => by
  rw [upd_ne (fun z => n (by rw [z]; exact h))]
  exact e
theorem Keep.new {S : List Addr} {H : Hp} {p : Addr} {o : HO} (h : H p = none) : Keep S H (L2.upd H p o) := fun b u e _ => by
  rw [upd_ne (ne_of_none e h)]
  exact e

section
variable {X : Cx} {pins : List (Addr × Obj)} {σ : L2.St} {H : Hp} {s : Shared}
theorem inv_lf {F : LF} {o : Obj} {t' : Nat} {pm ctv : Value} (I : Inv X pins σ H s) (ho : o = PySem.W.kla_obj "<lambda>" F.qual F.params F.body F.scope F.cl pm F.c ctv) :
    Inv X pins σ (upd H s.heap.objs.size (LfO s.heap.objs.size F)) { s with heap := s.heap.push o, toks := t' } := by
  subst ho
  refine I.laid (a := s.heap.objs.size) (fun b u e => Heap.get?_push_of_some _ e) (Nat.le_refl _) ?_
  have e : (s.heap.push (PySem.W.kla_obj "<lambda>" F.qual F.params F.body F.scope F.cl pm F.c ctv)).get? s.heap.objs.size = some (PySem.W.kla_obj "<lambda>" F.qual F.params F.body F.scope F.cl pm F.c ctv) := Heap.get?_push_size _ rfl
  exact ⟨⟨pm, ctv, e⟩, ⟨_, e⟩, fun h1 h2 ⟨p, t, z⟩ st => ⟨p, t, st _ z⟩⟩
theorem lam_make3 {T : List (Addr × Str)} {c P : Addr} {params : Arguments} {body : Expr} {scope : Scope} {pos : Pos} {E : Value → Shared → Prop} {Q : Value → Shared → Prop} (I : Inv X pins σ H s) (TB : TabB X.base X.mg c P) (hcode : X.env.code = .ref c)
    (hm : (P, X.env.qual ++ "<lambda>") ∈ T) (hu : ∀ p ∈ T, p.1 = P → p.2 = X.env.qual ++ "<lambda>") (hT : Tabs T H) (hdef : defaultsOf params X.env = ([], [])) (hfree : ∀ y ∈ scope.names, y.2 = .free → ∃ c, X.env.cells.lookup y.1 = some c)
    (h : ∀ (f c' : Addr) (H1 : Hp) (s' : Shared), Inv X pins σ H1 s' → Keep [P] H H1 → Tabs T H1 → H f = none → H1 f = some (LfO f ⟨X.env.qual ++ "<lambda>", params, body, scope, cloFrom X.env.cells scope.names [], c'⟩) → H1 c' = some (CodeO c' (X.env.qual ++ "<lambda>")) → Q (.ref f) s') :
    wpAny (model X.prog X.w) X.A (eval (.Lambda params body scope pos) X.env) Q E s := by
  obtain ⟨ps, hP, ht, ha⟩ := hT _ hm
  refine PySem.W.kla_eval hdef ?_
  have bP : s.heap.BuiltinsAt X.mg P := TB.bm.keeps I.bk
  have hP' : s.heap.get? P = some { cls := .none, data := .fields ps } := I.hok P _ hP
  cases hc : codeAmong pos ps.toList with
  | none =>
    refine PySem.W.kla_makeFunction (mg := X.mg) (c := c) (P := P) (ps := ps) (closure_ok hfree) I.ok.glob (I.mod.glob.keeps I.bk) hcode (TB.code.keeps I.bk) hP' ht hc TB.gP bP fun c' ctv h' tk hx hge hlt hrec htb => ?_
    obtain ⟨c2, oc, vs, t, e2, hoc, hd, hv⟩ := hrec
    cases e2
    have nC : H c' = none := I.hok.fresh hge
    have I1 := inv_table (t' := tk) (more := #[rawInt pos.line, rawInt pos.col, .ref c']) (h' := h') I hP (fun b o hb e => hx b o hb e) htb hge ⟨oc, vs, t, hoc, hd, hv⟩
    have hE : Keep [P] H (upd (upd H P (.tbl (ps ++ #[rawInt pos.line, rawInt pos.col, .ref c']))) c' (CodeO c' (X.env.qual ++ "<lambda>"))) := fun b o e n => by
      rw [upd_ne (ne_of_none e nC), upd_ne (fun z => n (by rw [z]; exact List.mem_singleton.mpr rfl))]
      exact e
    have hC : ∀ c0, H c0 = some (CodeO c0 (X.env.qual ++ "<lambda>")) → upd (upd H P (.tbl (ps ++ #[rawInt pos.line, rawInt pos.col, .ref c']))) c' (CodeO c' (X.env.qual ++ "<lambda>")) c0 = some (CodeO c0 (X.env.qual ++ "<lambda>")) := fun c0 e => hE _ _ e (fun z => by
      rw [List.mem_singleton.mp z, hP] at e
      exact codeO_ne ps (Option.some.inj e).symm)
    have eL : (ps ++ #[rawInt pos.line, rawInt pos.col, .ref c']).toList = ps.toList ++ [rawInt pos.line, rawInt pos.col, .ref c'] := by simp
    have T1 : Tabs T (upd (upd H P (.tbl (ps ++ #[rawInt pos.line, rawInt pos.col, .ref c']))) c' (CodeO c' (X.env.qual ++ "<lambda>"))) := fun p hp => by
      by_cases hb : p.1 = P
      · rw [hu p hp hb, hb]
        refine ⟨_, by rw [upd_ne (ne_of_none hP nC), upd_same], by rw [eL]; exact PySem.TriplesOk_snoc _ _ _ _ ht, fun p' cv hcv => ?_⟩
        rw [eL] at hcv
        rcases among_app _ ht hcv with z | z
        · obtain ⟨c0, e1, e2⟩ := ha p' cv z
          exact ⟨c0, e1, hC _ e2⟩
        · exact ⟨c', z, upd_same⟩
      · obtain ⟨ps', a1, a2, a3⟩ := hT p hp
        refine ⟨ps', by rw [upd_ne (ne_of_none a1 nC), upd_ne hb]; exact a1, a2, fun p' cv hcv => ?_⟩
        obtain ⟨c0, e1, e2⟩ := a3 p' cv hcv
        refine ⟨c0, e1, hE _ _ e2 (fun z => ?_)⟩
        rw [List.mem_singleton.mp z, hP] at e2
        exact codeO_ne ps (Option.some.inj e2).symm
    have nF := I1.hok.fresh (Nat.le_refl _)
    have I2 := inv_lf (F := ⟨X.env.qual ++ "<lambda>", params, body, scope, cloFrom X.env.cells scope.names [], c'⟩) (t' := tk) (pm := (X.mg "__name__").getD .none) (ctv := ctv) I1 rfl
    refine h h'.objs.size c' _ _ I2 (fun b o e n => ?_) (T1.ext fun b o e => ?_) (I.hok.fresh (Nat.le_trans hge (Nat.le_of_lt hlt))) upd_same ?_
    · have e1 := hE b o e n
      exact (upd_ne (ne_of_none e1 nF)).trans e1
    · exact (upd_ne (ne_of_none e nF)).trans e
    · exact (upd_ne (Nat.ne_of_lt hlt)).trans upd_same
  | some cv =>
    obtain ⟨c', e, hco⟩ := ha pos cv hc
    subst e
    refine PySem.W.kla_makeFunctionHit (mg := X.mg) (c := c) (P := P) (ps := ps) (closure_ok hfree) I.ok.glob (I.mod.glob.keeps I.bk) hcode (TB.code.keeps I.bk) hP' ht hc bP fun ctv h' tk hx hsz => ?_
    have I1 : Inv X pins σ H { s with heap := h', toks := tk } := I.kept hx
    have nF : H h'.objs.size = none := I1.hok.fresh (Nat.le_refl _)
    have I2 := inv_lf (F := ⟨X.env.qual ++ "<lambda>", params, body, scope, cloFrom X.env.cells scope.names [], c'⟩) (t' := tk) (pm := (X.mg "__name__").getD .none) (ctv := ctv) I1 rfl
    refine h h'.objs.size c' _ _ I2 (fun b o e n => ?_) (hT.ext fun b o e => ?_) nF upd_same ?_
    · exact (upd_ne (ne_of_none e nF)).trans e
    · exact (upd_ne (ne_of_none e nF)).trans e
    · exact (upd_ne (ne_of_none hco nF)).trans hco
end
/-- a lambda as a value -/
def tLamV (P : Addr) (T : List (Addr × Str)) (mk : Addr → LF) : TE := fun σ H Q => Tabs T H ∧ ∀ (f c' : Addr) (H1 : Hp), Keep [P] H H1 → Tabs T H1 → H f = none → H1 f = some (LfO f (mk c')) → H1 c' = some (CodeO c' (mk c').qual) → Q (.ref f) H1
theorem pe_lamV {X : Cx} {T : List (Addr × Str)} {c P : Addr} {params : Arguments} {body : Expr} {scope : Scope} {pos : Pos} (TB : TabB X.base X.mg c P) (hcode : X.env.code = .ref c) (hm : (P, X.env.qual ++ "<lambda>") ∈ T) (hu : ∀ p ∈ T, p.1 = P → p.2 = X.env.qual ++ "<lambda>")
    (hdef : defaultsOf params X.env = ([], [])) (hfree : ∀ y ∈ scope.names, y.2 = .free → X.env.scope.names.lookup y.1 = some .cell ∨ X.env.scope.names.lookup y.1 = some .free) :
    PE X (.Lambda params body scope pos) (tLamV P T fun c' => ⟨X.env.qual ++ "<lambda>", params, body, scope, cloFrom X.env.cells scope.names [], c'⟩) := by
  refine ⟨fun pins s σ H Q I h => ?_⟩
  obtain ⟨hT, h⟩ := h
  have hfr : ∀ y ∈ scope.names, y.2 = .free → ∃ c, X.env.cells.lookup y.1 = some c := fun y hy e => (hfree y hy e).elim (fun z => I.ok.has _ (.inl z)) fun z => I.ok.has _ (.inr z)
  refine lam_make3 I TB hcode hm hu hT hdef hfr fun f c' H1 s' I1 k T1 f0 f1 c1 => ?_
  exact ⟨.ref f, H1, I1, rfl, h f c' H1 k T1 f0 f1 c1⟩

/-! ### a cell, locked -/
def CellX (c : Addr) (o : Obj) : HO := .ext fun h => h.get? c = some o
def dropA (c : Addr) (H : Hp) : Hp := fun b => if b = c then none else H b
theorem dropA_same {c : Addr} {H : Hp} : dropA c H c = none := by unfold dropA; rw [if_pos rfl]
theorem dropA_ne {b c : Addr} {H : Hp} (h : b ≠ c) : dropA c H b = H b := by unfold dropA; rw [if_neg h]
theorem cellX_at {P : Program} {w : World} {H : Hp} {h : Heap} {c : Addr} {o : Obj} (hok : HOk P w H h) (e : H c = some (CellX c o)) : h.get? c = some o := by
  obtain ⟨z, _, _⟩ := hok c _ e
  exact z
theorem hok_drop {P : Program} {w : World} {H : Hp} {h : Heap} {c : Addr} {o : Obj} (hok : HOk P w H h) (e : H c = some (CellX c o)) : HOk P w (dropA c H) h := fun b u q => by
  have hb : b ≠ c := fun z => by rw [z, dropA_same] at q; cases q
  rw [dropA_ne hb] at q
  refine (hok b u q).stay (fun _ _ _ z => z) (fun d z => ?_) fun d xs z => ?_
  · rw [dropA_ne (fun y => by rw [y, e] at z; unfold CellX at z; cases z)]
    exact z
  · rw [dropA_ne (fun y => by rw [y, e] at z; unfold CellX at z; cases z)]
    exact z
theorem hok_lock {P : Program} {w : World} {H : Hp} {h : Heap} {c : Addr} {o : Obj} (hok : HOk P w H h) (n : H c = none) (e : h.get? c = some o) : HOk P w (upd H c (CellX c o)) h := fun b u q => by
  by_cases hb : b = c
  · subst hb
    rw [upd_same] at q
    cases q
    exact ⟨e, ⟨o, e⟩, fun h1 h2 p st => st _ p⟩
  · rw [upd_ne hb] at q
    exact (hok b u q).stay (fun _ _ _ z => z) (fun d z => by rw [upd_ne (ne_of_none z n)]; exact z) fun d xs z => by rw [upd_ne (ne_of_none z n)]; exact z
section
variable {X : Cx} {k : Nat} {f C : Addr} {fd : FuncData} {ps : List Str} {sp : Sp} {x m y : Str} {p pos apos : Pos} {e o : Expr} {es : List Expr} {ta : TE} {t : TA}
/-- the callee runs while the cell of the name y stands locked in its heap -/
theorem run_lock {pins : List (Addr × Obj)} {σ : L2.St} {H : Hp} {s : Shared} {Q : VK} {us : List Value} {vs : List V} {c : Addr} {ob : Obj} (F : FnOk X.prog X.w X.K X.mg X.base C8.CX0 k f fd ps sp) (hr : Room k X.A) (hb : Binds X.K fd ps [])
    (I : Inv X pins σ H s) (r : Vals vs us) (hfn : X.fn y = true) (hc : X.env.cells.lookup y = some c) (ho : s.heap.get? c = some ob)
    (h : sp vs (upd H c (CellX c ob)) (fun v H' => H' c = some (CellX c ob) ∧ Q v (dropA c H')) C8.E0) : wpAny (model X.prog X.w) X.A (call (.ref f) us) (EP X pins σ Q) X.xe s := by
  have hl : us.length = ps.length := by rw [← r.length]; exact F.len _ _ _ _ h
  have nC : H c = none := I.freeC y c hc
  have cge : X.s_0.heap.objs.size ≤ c := I.ok.cab y c hfn hc
  have cfs : c ∉ frs X.stack := fun z => by
    rcases List.mem_cons.mp (I.stkSub _ z) with e | e
    · exact I.cne y c hc e
    · obtain ⟨_, o, ho, _⟩ := I.ok.funs.mem e
      exact absurd (Nat.lt_of_lt_of_le (Heap.lt_size ho) cge) (Nat.lt_irrefl _)
  have e0 := I.env0
  have e1 : Env0 X.prog X.w X.K X.mg X.base X.A X.stack s (upd H c (CellX c ob)) :=
    ⟨e0.frames, e0.mod, fun b o q => ⟨(e0.bs b o q).1, by
      rw [upd_ne (fun z => by rw [z] at q; exact absurd (Nat.lt_of_lt_of_le (Heap.lt_size q) (Nat.le_trans I.ok.bsz cge)) (Nat.lt_irrefl _))]
      exact (e0.bs b o q).2⟩, e0.bsz, e0.funs, fun b q => by
      rw [upd_ne (fun z => cfs (by rw [← z]; exact q))]
      exact e0.frf b q, hok_lock e0.hok nC ho, e0.bare⟩
  have hbs := hb s us I.kIn (by rw [List.append_nil]; exact hl)
  rw [List.append_nil] at hbs
  refine wpAny_call (codeAny_mono (F.run X.A X.stack s _ ⟨us, []⟩ us vs _ C8.E0 hr e1 hbs r h) fun r s' hq => ?_)
  cases r with
  | error e => exact False.elim hq
  | ok fl =>
    cases fl with
    | ret u =>
      refine I.after ?_
      obtain ⟨v, H', os, bare, un, hok, rv, hc', q⟩ := hq
      have gc : s'.heap.get? c = some ob := cellX_at hok hc'
      have nb : ∀ b u, H b = some u → b ≠ c := fun b u q => ne_of_none q nC
      refine ⟨v, dropA c H', os, bare, ⟨fun b o' q1 q2 q3 q4 => ?_, fun b o' q1 q2 q3 q4 => ?_, fun b o' q1 q2 q3 => ?_, un.there, fun b xs q1 => ?_, fun b o' u' q1 => ?_, fun b ps' q1 => ?_⟩, hok_drop hok hc', rv, q⟩
      · by_cases hb : b = c
        · subst hb
          rw [ho] at q1
          cases q1
          exact gc
        · exact un.keep b o' q1 (by rw [upd_ne hb]; exact q2) q3 q4
      · by_cases hb : b = c
        · subst hb
          exact absurd q3 cfs
        · exact un.slot b o' q1 (by rw [upd_ne hb]; exact q2) q3 q4
      · by_cases hb : b = c
        · subst hb
          exact dropA_same
        · rw [dropA_ne hb]
          exact un.free b o' q1 (by rw [upd_ne hb]; exact q2) q3
      · rw [dropA_ne (nb _ _ q1)]
        exact un.tups b xs (by rw [upd_ne (nb _ _ q1)]; exact q1)
      · rw [dropA_ne (nb _ _ q1)]
        exact un.frzs b o' u' (by rw [upd_ne (nb _ _ q1)]; exact q1)
      · rw [dropA_ne (nb _ _ q1)]
        exact un.tbls b ps' (by rw [upd_ne (nb _ _ q1)]; exact q1)
    | next => exact False.elim hq
    | brk => exact False.elim hq
    | cont => exact False.elim hq
/-- o.m(..), the cell of the name y (slot i) locked: its object is told -/
def tMethL (X : Cx) (i : Nat) (y : Str) (C : Addr) (m : Str) (sp : Sp) (ta : TE) (t : TA) : TE := fun σ H Q => ta σ H fun x H1 => ∃ a dx fs, x = .ref a ∧ H1 a = some (.ins C dx fs) ∧ fs.lookup m = none ∧
  t σ H1 fun vs H2 => ∃ v, σ[i]? = some (some v) ∧ ∀ (c : Addr) (ob : Obj) (u : Value), X.env.cells.lookup y = some c → H2 c = none → ob.data = .cell (some u) → RelV v u → sp (x :: vs) (upd H2 c (CellX c ob)) (fun v' H' => H' c = some (CellX c ob) ∧ Q v' (dropA c H')) C8.E0
theorem pe_mtL {i j : Nat} (c : C8.Met X.prog X.w X.K X.mg X.base k C m sp []) (hr : Room j X.A) (hk : k ≤ j) (he : PE X o ta) (ha : PA X (e :: es) t) (hN : X.N[i]? = some y) (hv : X.env.scope.names.lookup y = some .cell) (hfn : X.fn y = true) {pl : Sem Bool}
    (hst : starEach (e :: es) X.env = (false, eval e X.env) :: starEach es X.env := by rfl) (hpl : (backTo pos (starEach es X.env)).any (·.1) = false := by rfl)
    (ht : eval (.Call (.Attribute o m apos) (e :: es) [] pos) X.env = (do
      let ov ← eval o X.env
      standAt apos.atName
      let (f, first) ← holding [ov] (getMethod ov m pl)
      callWith pos f first (backTo pos (starEach (e :: es) X.env)) (backToKw pos (keywordEach [] X.env))) := by rfl) :
    PE X (.Call (.Attribute o m apos) (e :: es) [] pos) (tMethL X i y C m sp ta t) := by
  obtain ⟨f, fd, ps, ds, hcl, hm, F, b, d⟩ := c.ex
  cases d
  refine ⟨fun pins s σ H Q I h => ?_⟩
  refine PySem.W.methodCall_KW (pl := pl) (thn (he.run pins s σ H _ I h) fun u s1 ⟨x, H1, I1, rx, a, dx, fs, ex, ea, l, q⟩ => ?_) ht
  subst ex
  obtain rfl : u = Value.ref a := rx
  refine getmeth_ok I1 ea hcl hm l ?_
  refine PySem.W.callWith_K (first := [.ref a]) (h₀ := X.base) I.ok.mod.kin hm.kp (thn (ha.run pos pins s1 σ H1 _ I1 q) fun us s2 ⟨vs, H2, I2, r, v, hs, q2⟩ => ⟨I2.kIn, ?_⟩) hst hpl
  obtain ⟨m', hn, hl⟩ := I2.loc
  obtain ⟨u, ru, lk⟩ := hl i y v hN hs (.inr (.inl hv))
  rcases lk with ⟨z, _⟩ | ⟨_, c, hc, ob, hob, hd⟩
  · have z : X.env.scope.names.lookup y = some .local := z
    rw [hv] at z
    cases z
  · exact run_lock (us := .ref a :: us) (vs := .ref a :: vs) F (hr.mono hk) b I2 (.cons rfl r) hfn hc hob (q2 c ob u hc (I2.freeC y c hc) hd ru)
end

/-! ### the lambda is called -/
/-- at f the lambda F; its one captured cell at a (the name y) holds v, locked -/
structure LamA (H : Hp) (f : Addr) (F : LF) (y : Str) (a : Addr) (ob : Obj) (v : V) : Prop where
  fn : H f = some (LfO f F)
  code : H F.c = some (CodeO F.c F.qual)
  lk : F.cl.lookup y = some a
  uq : ∀ x b, F.cl.lookup x = some b → x = y
  cell : H a = some (CellX a ob)
  val : ∃ u, ob.data = .cell (some u) ∧ RelV v u
theorem LamA.keep {H H' : Hp} {f : Addr} {F : LF} {y : Str} {a : Addr} {ob : Obj} {v : V} (L : LamA H f F y a ob v) (k : ∀ b o, H b = some o → (∀ ps, o ≠ .tbl ps) → (∀ xs, o ≠ .lst xs) → H' b = some o) : LamA H' f F y a ob v :=
  ⟨k _ _ L.fn (fun ps z => by unfold LfO at z; cases z) (fun ps z => by unfold LfO at z; cases z), k _ _ L.code (fun ps z => by unfold CodeO at z; cases z) (fun ps z => by unfold CodeO at z; cases z), L.lk, L.uq, k _ _ L.cell (fun ps z => by unfold CellX at z; cases z) (fun ps z => by unfold CellX at z; cases z), L.val⟩
abbrev LF.nf (F : LF) : NF := ⟨"<lambda>", F.qual, F.params, [], F.scope, F.cl, F.c⟩
/-- the context of the lambda's body -/
abbrev lcx (P : Program) (w : World) (K : PySem.W.Frag) (mg : Str → Option Value) (base : Heap) (N : List Str) (F : LF) (f : Addr) (A : Around) (outer : List Env) (s : Shared) (H : Hp) : Cx := ncx C8.CX0 P w K mg base N F.nf f A outer s H C8.E0
section
variable {P : Program} {w : World} {K : PySem.W.Frag} {mg : Str → Option Value} {base : Heap} {N : List Str} {par y : Str} {F : LF} {k : Nat} {tb : TE}
theorem lam_run {f a : Addr} {ob : Obj} {v x : V} {u : Value} {A : Around} {outer : List Env} {s : Shared} {H : Hp} {Q : VK} (S : NScope N [par] [y] F.scope) (hb : ∀ (pm ctv u : Value), bindArgs (PySem.W.kla_fn "<lambda>" F.qual F.params F.body F.scope F.cl pm (.ref F.c) ctv) ⟨[u], []⟩ = pure [(par, u)])
    (hbody : ∀ (A : Around) (outer : List Env) (s : Shared) (H : Hp), Room k (A.deeper (envF F.nf f s.heap.objs.size)) → PE (lcx P w K mg base N F f A outer s H) F.body tb)
    (hr : Room (k + 1) A) (e0 : Env0 P w K mg base A outer s H) (L : LamA H f F y a ob v) (r : RelV x u) (h : tb (startF N [x] [some v]) (dropA a H) (fun x H' => Q x (upd H' a (CellX a ob)))) :
    codeAny (model P w) A (.call (.ref f) ⟨[u], []⟩) (CR C8.CX0 outer P w H s Q C8.E0) s := by
  have lim : s.heap.NoLimit := e0.mod.nolimit.keeps fun b o e => (e0.bs b o e).1
  obtain ⟨pm, ctv, ho⟩ := lfO_at e0.hok L.fn
  have aO : s.heap.get? a = some ob := cellX_at e0.hok L.cell
  have afr : a ∉ frs outer := fun z => by
    have q := e0.frf a z
    rw [L.cell] at q
    cases q
  refine PySem.W.kla_callFunE hr.depth ho rfl S.co S.gen rfl (codeO_at e0.hok L.code) ?_
  rw [hb pm ctv u]
  refine wpAny_pure (wpAny_newFunctionEnv S.nocell (fun z hy => by rw [List.mem_singleton.mp hy]; exact S.par _ (List.mem_singleton.mpr rfl)) (fun h₁ hns hsb => ⟨lim.fresh _ hsb, ?_⟩) S.kind)
  show codeAny _ _ (.expr F.body (envF F.nf f s.heap.objs.size)) _ _
  have kp : ∀ b o, s.heap.get? b = some o → h₁.get? b = some o := fun b o e => hsb.extBut b o (Nat.ne_of_lt (Heap.lt_size e)) (Heap.get?_push_of_some _ e)
  have e1 : Env0 P w K mg base A outer s (dropA a H) := ⟨e0.frames, e0.mod, fun b o q => ⟨(e0.bs b o q).1, by
      unfold dropA
      split
      · rfl
      · exact (e0.bs b o q).2⟩, e0.bsz, e0.funs, fun b q => by
      unfold dropA
      split
      · rfl
      · exact e0.frf b q, hok_drop e0.hok L.cell, e0.bare⟩
  have C : CellsAt F.cl [y] [some v] s.heap (dropA a H) := by
    obtain ⟨u', hd, ru⟩ := L.val
    have ic : s.heap.IsCell a (some u') := ⟨ob, aO, hd⟩
    refine ⟨rfl, fun z c e => ?_, fun z z' c e e' => by rw [L.uq _ _ e, L.uq _ _ e'], fun i z e => ?_⟩
    · have q := L.uq _ _ e
      subst q
      rw [L.lk] at e
      cases e
      exact ⟨dropA_same, _, ic⟩
    · cases i with
      | zero =>
        cases e
        exact ⟨a, L.lk, fun v' e' => by cases e'; exact ⟨u', ru, ic⟩⟩
      | succ i => simp at e
  have J : Inv (lcx P w K mg base N F f A outer s (dropA a H)) [] (startF N [x] [some v]) (dropA a H) { s with heap := h₁, toks := s.toks + [(par, u)].length } :=
    inv_startN (ps := [par]) (fr := [y]) (us := [u]) (F := F.nf) S hr.hd e1 rfl (.cons r .nil) C hns kp
  refine PySem.W.kla_codeExpr (wpAny_mono ((hbody A outer s (dropA a H) (hr.deeper _)).run [] _ _ _ _ J h) (fun v' s' hq => ?_) fun e s' hq => hq)
  obtain ⟨w', H', J', rv, q⟩ := hq
  have un : Un (frs outer) [] (dropA a H) H' s.heap s'.heap := J'.base
  have nA : H' a = none := un.free a ob aO dropA_same (by simp)
  have gA : s'.heap.get? a = some ob := un.keep a ob aO dropA_same afr (by simp)
  have nd : ∀ b, H b = none → b ≠ a := fun b q z => by rw [z, L.cell] at q; cases q
  have dn : ∀ b, H b = none → dropA a H b = none := fun b q => by rw [dropA_ne (nd b q)]; exact q
  refine ⟨w', upd H' a (CellX a ob), J'.os, J'.bare, ⟨fun b o' q1 q2 q3 q4 => un.keep b o' q1 (dn b q2) q3 q4, fun b o' q1 q2 q3 q4 => un.slot b o' q1 (dn b q2) q3 q4, fun b o' q1 q2 q3 => ?_, un.there, fun b xs q1 => ?_, fun b o' u' q1 => ?_, fun b ps' q1 => ?_⟩, hok_lock J'.hok nA gA, rv, q⟩
  · rw [upd_ne (nd b q2)]
    exact un.free b o' q1 (dn b q2) q3
  · have ne : b ≠ a := ne_of q1 L.cell (fun z => by unfold CellX at z; cases z)
    rw [upd_ne ne]
    exact un.tups b xs (by rw [dropA_ne ne]; exact q1)
  · have ne : b ≠ a := ne_of q1 L.cell (fun z => by unfold CellX at z; cases z)
    rw [upd_ne ne]
    exact un.frzs b o' u' (by rw [dropA_ne ne]; exact q1)
  · have ne : b ≠ a := ne_of q1 L.cell (fun z => by unfold CellX at z; cases z)
    rw [upd_ne ne]
    exact un.tbls b ps' (by rw [dropA_ne ne]; exact q1)
end
/-- f(e), f a local name (slot i) that holds a lambda of these words -/
def tCallLam (i : Nat) (params : Arguments) (body : Expr) (scope : Scope) (N : List Str) (y : Str) (tb : TE) (te : TE) : TE := fun σ H Q => ∃ f F, σ[i]? = some (some (.ref f)) ∧ H f = some (LfO f F) ∧
  te σ H fun x H1 => ∃ q cl c a ob v, LamA H1 f ⟨q, params, body, scope, cl, c⟩ y a ob v ∧ tb (startF N [x] [some v]) (dropA a H1) (fun x H' => Q x (upd H' a (CellX a ob)))
theorem fnAt_lf {X : Cx} {pins : List (Addr × Obj)} {σ : L2.St} {H : Hp} {s : Shared} {f : Addr} {F : LF} (I : Inv X pins σ H s) (e : H f = some (LfO f F)) : PySem.W.FnAt f s.heap := by
  obtain ⟨pm, ctv, ho⟩ := lfO_at I.hok e
  exact ⟨_, _, _, _, ho⟩
theorem pe_callLam {X : Cx} {i k j : Nat} {x par y : Str} {params : Arguments} {body : Expr} {scope : Scope} {N : List Str} {tb te : TE} {e : Expr} {p pos : Pos} (S : NScope N [par] [y] scope)
    (hb : ∀ (q : Str) (cl : List (Str × Addr)) (c : Addr) (pm ctv u : Value), bindArgs (PySem.W.kla_fn "<lambda>" q params body scope cl pm (.ref c) ctv) ⟨[u], []⟩ = pure [(par, u)])
    (hbody : ∀ (f : Addr) (q : Str) (cl : List (Str × Addr)) (c : Addr) (A : Around) (outer : List Env) (s : Shared) (H : Hp), Room k (A.deeper (envF (LF.nf ⟨q, params, body, scope, cl, c⟩) f s.heap.objs.size)) → PE (lcx X.prog X.w X.K X.mg X.base N ⟨q, params, body, scope, cl, c⟩ f A outer s H) body tb)
    (hr : Room j X.A) (hk : k + 1 ≤ j) (hN : X.N[i]? = some x) (hv : Vis X.env.scope x) (ha : PE X e te)
    (hd : (x == ("__debug__" : Str)) = false := by decide) (hcd : (x == ("__classdict__" : Str)) = false := by decide)
    (he : starEach [e] X.env = (false, eval e X.env) :: starEach [] X.env := by rfl) (hpl : (backTo pos (starEach [] X.env)).any (·.1) = false := by rfl) :
    PE X (.Call (.Name x p) [e] [] pos) (tCallLam i params body scope N y tb te) := by
  refine ⟨fun pins s σ H Q I h => ?_⟩
  obtain ⟨f, F, hs, hf, ht⟩ := h
  refine wpAny_Call_Name_kw (thn ((pe_var (pos := p) hN hv hd hcd).run pins s σ H (fun v H1 => v = .ref f ∧ H1 = H) I ⟨.ref f, hs, rfl, rfl⟩) fun u s1 ⟨v, H1, I1, r1, q1⟩ => ?_)
  obtain ⟨ev, eH⟩ := q1
  subst ev
  rw [eH] at I1
  obtain rfl : u = Value.ref f := r1
  have pa : PA X [e] (tCons te tNil) := pa_cons ha pa_nil he
  refine PySem.W.callWith_F (first := []) (fnAt_lf I1 hf) (thn (pa.run pos pins s1 σ H (fun vs H1 => ∃ x, vs = [x] ∧ ∃ q cl c a ob v, LamA H1 f ⟨q, params, body, scope, cl, c⟩ y a ob v ∧ tb (startF N [x] [some v]) (dropA a H1) (fun x H' => Q x (upd H' a (CellX a ob)))) I1 ?_) fun us s2 ⟨vs, H2, I2, r, x, ex, q, cl, c, a, ob, v, L, h3⟩ => ⟨fnAt_lf I2 L.fn, ?_⟩) he hpl
  · show te σ H _
    have mono := ht
    exact (show te σ H (fun x H1 => tNil σ H1 fun xs H2 => ∃ x', x :: xs = [x'] ∧ _) from by
      show te σ H (fun x H1 => ∃ x', x :: [] = [x'] ∧ ∃ q cl c a ob v, LamA H1 f ⟨q, params, body, scope, cl, c⟩ y a ob v ∧ tb (startF N [x'] [some v]) (dropA a H1) (fun x H' => Q x (upd H' a (CellX a ob))))
      have e0 : (fun (x : V) (H1 : Hp) => ∃ x', x :: [] = [x'] ∧ ∃ q cl c a ob v, LamA H1 f ⟨q, params, body, scope, cl, c⟩ y a ob v ∧ tb (startF N [x'] [some v]) (dropA a H1) (fun x H' => Q x (upd H' a (CellX a ob)))) = fun x H1 => ∃ q cl c a ob v, LamA H1 f ⟨q, params, body, scope, cl, c⟩ y a ob v ∧ tb (startF N [x] [some v]) (dropA a H1) (fun x H' => Q x (upd H' a (CellX a ob))) := by
        funext x H1
        exact propext ⟨fun ⟨x', e, z⟩ => by cases e; exact z, fun z => ⟨x, rfl, z⟩⟩
      rw [e0]
      exact ht)
  · subst ex
    obtain ⟨u, rfl, ru⟩ : ∃ u, us = [u] ∧ RelV x u := by
      cases r with
      | cons a b => cases b; exact ⟨_, rfl, a⟩
    show wpAny _ _ (call (.ref f) [u]) _ _ _
    refine wpAny_call (codeAny_mono (lam_run (F := ⟨q, params, body, scope, cl, c⟩) S (fun pm ctv u => hb q cl c pm ctv u) (hbody f q cl c) (hr.mono hk) I2.env0 L ru h3) fun r s' hq => ?_)
    cases r with
    | error e => exact False.elim hq
    | ok fl =>
      cases fl with
      | ret u => exact I2.after hq
      | next => exact False.elim hq
      | brk => exact False.elim hq
      | cont => exact False.elim hq
end
section
set_option maxHeartbeats 4000000
/-! ### pairs, lists of pairs, as data -/
theorem ints_lay : ∀ ns : List Int, PyData.canLayAll0 (ns.map PyData.int) = true
  | [] => by simp [PyData.canLayAll0]
  | n :: ns => by simp [PyData.canLayAll0, PyData.canLay0, ints_lay ns]
theorem dS_lay (z : Sp2) : (dS z).canLay0 = true := by simp [dS, PyData.canLay0, PyData.canLayAll0, ints_lay]
theorem dSs_lay : ∀ zs : List Sp2, PyData.canLayAll0 (zs.map dS) = true
  | [] => by simp [PyData.canLayAll0]
  | z :: zs => by simp [PyData.canLayAll0, dS_lay z, dSs_lay zs]
theorem dSs_depth : ∀ zs : List Sp2, PyData.depthAll (zs.map dS) ≤ 2
  | [] => by simp [PyData.depthAll]
  | z :: zs => by
    have h1 := dSs_depth zs
    have h2 := dS_depth z
    simp only [List.map_cons, PyData.depthAll]
    omega
theorem dS_shaped (z : Sp2) : SeqAt.shaped (dS z) = true := by
  have h := dS_depth z
  show ((dS z).canLay0 && decide ((dS z).depth ≤ 64)) = true
  rw [Bool.and_eq_true]
  exact ⟨dS_lay z, decide_eq_true (by omega)⟩
theorem dSs_shaped (zs : List Sp2) : SeqAt.shaped (.list (zs.map dS)) = true := by
  have h1 := dSs_depth zs
  have h2 : PyData.depth (.list (zs.map dS)) ≤ 64 := by
    simp only [PyData.depth]
    omega
  show (PyData.canLay0 (.list (zs.map dS)) && decide (PyData.depth (.list (zs.map dS)) ≤ 64)) = true
  rw [Bool.and_eq_true]
  exact ⟨by simp only [PyData.canLay0]; exact dSs_lay zs, decide_eq_true h2⟩
theorem eqv_ints : ∀ ns ms : List Int, PyData.eqvAll (ns.map .int) (ms.map .int) = decide (ns = ms)
  | [], [] => by simp [PyData.eqvAll]
  | [], _ :: _ => by simp [PyData.eqvAll]
  | _ :: _, [] => by simp [PyData.eqvAll]
  | a :: r, b :: t => by
    simp only [List.map_cons, PyData.eqvAll, PyData.eqv, eqv_ints r t]
    by_cases h1 : a = b
    · subst h1
      by_cases h2 : r = t
      · subst h2
        simp
      · simp [h2]
    · simp [h1]
theorem dS_eqv (z w : Sp2) : PyData.eqv (dS z) (dS w) = decide (z = w) := by
  obtain ⟨a, b⟩ := z
  obtain ⟨a', b'⟩ := w
  have e : PyData.eqv (dS (a, b)) (dS (a', b')) = ((a == a') && (PyData.eqvAll (b.map .int) (b'.map .int) && true)) := by simp only [dS, PyData.eqv, PyData.eqvAll]
  rw [e, eqv_ints]
  by_cases h1 : a = a'
  · subst h1
    by_cases h2 : b = b'
    · subst h2
      simp
    · simp [h2]
  · simp [h1]
theorem dp_ints {K : PySem.W.Frag} {H : Hp} : ∀ ns : List Int, DpAll K H (ns.map V.int) (ns.map .int)
  | [] => .nil
  | n :: ns => .cons (.int n) (dp_ints ns)
theorem SpA.dp {K : PySem.W.Frag} {H : Hp} {a : Addr} {z : Sp2} (x : SpA H a z) : Dp K H (.ref a) (dS z) := by
  obtain ⟨b, h1, h2⟩ := x
  exact .tup (SqT.of h1) (.cons (.int _) (.cons (.tup (SqT.of h2) (dp_ints _)) .nil))
abbrev SpL : Type := List (Addr × Sp2)
abbrev SpL.vs (ks : SpL) : List V := List.map (fun p : Addr × Sp2 => V.ref p.1) ks
abbrev SpL.zs (ks : SpL) : List Sp2 := List.map (fun p : Addr × Sp2 => p.2) ks
theorem dp_sps {K : PySem.W.Frag} {H : Hp} : ∀ {ks : SpL}, (∀ p ∈ ks, SpA H p.1 p.2) → DpAll K H ks.vs (ks.zs.map dS)
  | [], _ => .nil
  | p :: ks, h => .cons (h p List.mem_cons_self).dp (dp_sps fun q hq => h q (List.mem_cons_of_mem _ hq))
/-- at l a list of pairs -/
def LSp (H : Hp) (l : Addr) (ks : SpL) : Prop := H l = some (.lst ks.vs) ∧ ∀ p ∈ ks, SpA H p.1 p.2
theorem LSp.dp {K : PySem.W.Frag} {H : Hp} {l : Addr} {ks : SpL} (x : LSp H l ks) : Dp K H (.ref l) (.list (ks.zs.map dS)) := .lst (SqL.of x.1) (dp_sps x.2)
theorem any_dS (z : Sp2) : ∀ zs : List Sp2, ((zs.map dS).any fun x => PyData.eqv x (dS z)) = decide (z ∈ zs)
  | [] => by simp
  | y :: zs => by
    rw [List.map_cons, List.any_cons, any_dS z zs, dS_eqv]
    by_cases h : y = z
    · subst h
      simp
    · by_cases h2 : z ∈ zs
      · simp [h2]
      · have h3 : ¬ z = y := fun e => h e.symm
        simp [h, h2, h3]
section
variable {X : Cx}
def rInS : R2 := fun x y H Q => ∃ a z l ks, x = .ref a ∧ y = .ref l ∧ SpA H a z ∧ LSp H l ks ∧ Q (.bl (decide (z ∈ ks.zs))) H
def rNotInS : R2 := fun x y H Q => ∃ a z l ks, x = .ref a ∧ y = .ref l ∧ SpA H a z ∧ LSp H l ks ∧ Q (.bl (!decide (z ∈ ks.zs))) H
theorem op_inS (hu : X.A.units + 65 < cLine) : OpR X (compareOp .In) rInS := by
  intro pins s σ H x y v u Q I rx ry h
  obtain ⟨a, z, l, ks, rfl, rfl, hz, hl, q⟩ := h
  exact op_inD hu pins s σ H _ _ v u Q I rx ry ⟨dS z, ks.zs.map dS, hz.dp, hl.dp, dS_shaped z, dSs_shaped _, by rw [any_dS]; exact q⟩
theorem op_notInS (hu : X.A.units + 65 < cLine) : OpR X (compareOp .NotIn) rNotInS := by
  intro pins s σ H x y v u Q I rx ry h
  obtain ⟨a, z, l, ks, rfl, rfl, hz, hl, q⟩ := h
  exact op_notInD hu pins s σ H _ _ v u Q I rx ry ⟨dS z, ks.zs.map dS, hz.dp, hl.dp, dS_shaped z, dSs_shaped _, by rw [any_dS]; exact q⟩
def rNeS : R2 := fun x y H Q => ∃ a z b w, x = .ref a ∧ y = .ref b ∧ SpA H a z ∧ SpA H b w ∧ Q (.bl (!decide (z = w))) H
theorem op_neS (hu : X.A.units + 64 < cLine) : OpR X (compareOp .NotEq) rNeS := by
  intro pins s σ H x y v u Q I rx ry h
  obtain ⟨a, z, b, w, rfl, rfl, hz, hw, q⟩ := h
  exact op_neD hu pins s σ H _ _ v u Q I rx ry ⟨dS z, dS w, hz.dp, hw.dp, dS_shaped z, dS_shaped w, by rw [dS_eqv]; exact q⟩
/-- a list of pairs against an empty list -/
theorem eqv_nil (ds : List PyData) : PyData.eqv (.list ds) (.list []) = ds.isEmpty := by
  cases ds <;> simp [PyData.eqv, PyData.eqvAll]
theorem nil_shaped : SeqAt.shaped (.list []) = true := by decide
def rEqE : R2 := fun x y H Q => ∃ l ks b, x = .ref l ∧ y = .ref b ∧ LSp H l ks ∧ H b = some (.lst []) ∧ Q (.bl (ks.isEmpty)) H
def rNeE : R2 := fun x y H Q => ∃ l ks b, x = .ref l ∧ y = .ref b ∧ LSp H l ks ∧ H b = some (.lst []) ∧ Q (.bl (!ks.isEmpty)) H
theorem isE (ks : SpL) : (ks.zs.map dS).isEmpty = ks.isEmpty := by cases ks <;> rfl
theorem op_eqE (hu : X.A.units + 64 < cLine) : OpR X (compareOp .Eq) rEqE := by
  intro pins s σ H x y v u Q I rx ry h
  obtain ⟨l, ks, b, rfl, rfl, hl, hb, q⟩ := h
  exact op_eqD hu pins s σ H _ _ v u Q I rx ry ⟨_, .list [], hl.dp, .lst (SqL.of hb) .nil, dSs_shaped _, nil_shaped, by rw [eqv_nil, isE]; exact q⟩
theorem op_neE (hu : X.A.units + 64 < cLine) : OpR X (compareOp .NotEq) rNeE := by
  intro pins s σ H x y v u Q I rx ry h
  obtain ⟨l, ks, b, rfl, rfl, hl, hb, q⟩ := h
  exact op_neD hu pins s σ H _ _ v u Q I rx ry ⟨_, .list [], hl.dp, .lst (SqL.of hb) .nil, dSs_shaped _, nil_shaped, by rw [eqv_nil, isE]; exact q⟩
/-- lists of ints -/
theorem intsL_shaped (ns : List Int) : SeqAt.shaped (.list (ns.map .int)) = true := by
  have h2 : PyData.depth (.list (ns.map .int)) ≤ 64 := by
    simp only [PyData.depth, depthInts]
    omega
  show (PyData.canLay0 (.list (ns.map .int)) && decide (PyData.depth (.list (ns.map .int)) ≤ 64)) = true
  rw [Bool.and_eq_true]
  exact ⟨by simp only [PyData.canLay0]; exact ints_lay ns, decide_eq_true h2⟩
def rEqI : R2 := fun x y H Q => ∃ (l : Addr) (ns : List Int) (b : Addr) (ms : List Int), x = .ref l ∧ y = .ref b ∧ H l = some (.lst (ns.map V.int)) ∧ H b = some (.lst (ms.map V.int)) ∧ Q (.bl (decide (ns = ms))) H
def rNeI : R2 := fun x y H Q => ∃ (l : Addr) (ns : List Int) (b : Addr) (ms : List Int), x = .ref l ∧ y = .ref b ∧ H l = some (.lst (ns.map V.int)) ∧ H b = some (.lst (ms.map V.int)) ∧ Q (.bl (!decide (ns = ms))) H
theorem op_eqI' (hu : X.A.units + 64 < cLine) : OpR X (compareOp .Eq) rEqI := by
  intro pins s σ H x y v u Q I rx ry h
  obtain ⟨l, ns, b, ms, rfl, rfl, hl, hb, q⟩ := h
  exact op_eqD hu pins s σ H _ _ v u Q I rx ry ⟨_, _, .lst (SqL.of hl) (dp_ints _), .lst (SqL.of hb) (dp_ints _), intsL_shaped _, intsL_shaped _, by rw [PyData.eqv, eqv_ints]; exact q⟩
theorem op_neI' (hu : X.A.units + 64 < cLine) : OpR X (compareOp .NotEq) rNeI := by
  intro pins s σ H x y v u Q I rx ry h
  obtain ⟨l, ns, b, ms, rfl, rfl, hl, hb, q⟩ := h
  exact op_neD hu pins s σ H _ _ v u Q I rx ry ⟨_, _, .lst (SqL.of hl) (dp_ints _), .lst (SqL.of hb) (dp_ints _), intsL_shaped _, intsL_shaped _, by rw [PyData.eqv, eqv_ints]; exact q⟩
/-! ### l.remove(z) -/
theorem plain_ints : ∀ ns : List Int, PyData.plainAll (ns.map PyData.int) = true
  | [] => by simp [PyData.plainAll]
  | n :: ns => by simp [PyData.plainAll, PyData.plain, plain_ints ns]
theorem dS_plain (z : Sp2) : (dS z).plain = true := by simp [dS, PyData.plain, PyData.plainAll, plain_ints]
theorem dSs_plain : ∀ zs : List Sp2, PyData.plainAll (zs.map dS) = true
  | [] => by simp [PyData.plainAll]
  | z :: zs => by simp [PyData.plainAll, dS_plain z, dSs_plain zs]
/-- the place of the first of them -/
theorem place_dS (z : Sp2) : ∀ (zs : List Sp2), z ∈ zs → ∃ j, SeqAt.dataPlace (zs.map dS) (dS z) = some j ∧ zs[j]? = some z ∧ zs.eraseIdx j = zs.erase z
  | [], h => absurd h (by simp)
  | y :: zs, h => by
    by_cases e : y = z
    · subst e
      refine ⟨0, ?_, rfl, by rw [List.erase_cons_head]; rfl⟩
      unfold SeqAt.dataPlace
      rw [List.map_cons, List.findIdx?_cons, dS_eqv, decide_eq_true rfl]
      rfl
    · have hz : z ∈ zs := (List.mem_cons.mp h).resolve_left fun c => e c.symm
      obtain ⟨j, h1, h2, h3⟩ := place_dS z zs hz
      refine ⟨j + 1, ?_, by simpa using h2, ?_⟩
      · unfold SeqAt.dataPlace at h1 ⊢
        rw [List.map_cons, List.findIdx?_cons, dS_eqv, decide_eq_false e]
        simp only [Bool.false_eq_true, if_false]
        rw [h1]
        rfl
      · rw [List.erase_cons_tail (by rw [beq_iff_eq]; exact e), ← h3]
        rfl
theorem map_erase {α β : Type} (f : α → β) : ∀ (l : List α) (j : Nat), (l.map f).eraseIdx j = (l.eraseIdx j).map f
  | [], j => by simp
  | a :: r, 0 => by simp
  | a :: r, j + 1 => by
    have ih := map_erase f r j
    simp [ih]
def rRemS : V → List V → Hp → VK → Prop := fun x xs H Q => ∃ (l a : Addr) (ks : SpL) (z : Sp2), x = .ref l ∧ xs = [.ref a] ∧ LSp H l ks ∧ SpA H a z ∧ z ∈ ks.zs ∧
  ∀ ks' : SpL, ks'.zs = ks.zs.erase z → (∀ p ∈ ks', p ∈ ks) → Q .non (upd H l (.lst ks'.vs))
theorem mt_removeS (hu : X.A.units + 64 < cLine) : MtM X "list.remove" rRemS := by
  intro pins s σ H x xs v us Q I rx rxs h
  obtain ⟨l, a, ks, z, rfl, rfl, hH, ha, hz, q⟩ := h
  cases rx
  obtain ⟨u, rfl, ru⟩ := rxs.one
  cases ru
  obtain ⟨sz, its, n, r, hl, e⟩ := I.lstM hH.1
  obtain ⟨bs, rz⟩ := Dp.reads I (dS z) (.ref a) (.ref a) ha.dp rfl
  obtain ⟨as, rs⟩ := Dp.readsAll I _ _ its (dp_sps hH.2) r
  obtain ⟨j, hj, hj2, hj3⟩ := place_dS z ks.zs hz
  have hlen : (SpL.vs ks).length = ks.length := List.length_map _
  refine PySem.SeqAt.remove_list_data (vs := its.toArray) ⟨_, e, rfl, n, rfl⟩ (by simpa using rs) rz (dSs_plain _) (dS_plain z) ?_ hj (by rw [List.size_toArray, ← hl]; exact sz) ?_
  · have h1 := dS_depth z
    have h2 := dSs_depth ks.zs
    omega
  · have rr := r.eraseIdx j
    have e1 : (SpL.vs ks).eraseIdx j = SpL.vs (ks.eraseIdx j) := map_erase _ ks j
    rw [e1] at rr
    refine ⟨.non, _, I.lset (its' := its.eraseIdx j) (t' := s.toks) hH.1 e ?_ rr ?_, rfl, q (ks.eraseIdx j) ?_ fun p hp => List.mem_of_mem_eraseIdx hp⟩
    · show its.toArray.eraseIdxIfInBounds j = (its.eraseIdx j).toArray
      rw [List.eraseIdxIfInBounds_toArray]
    · have z2 : (ks.eraseIdx j).length ≤ ks.length := by
        rw [List.length_eraseIdx]
        split <;> omega
      show (SpL.vs (ks.eraseIdx j)).length ≤ sizeLine
      have z3 : (SpL.vs (ks.eraseIdx j)).length = (ks.eraseIdx j).length := List.length_map _
      omega
    · show (ks.eraseIdx j).map _ = _
      rw [← hj3, map_erase]
end
end
section
set_option maxHeartbeats 4000000
/-! ### rules by values: which rule it is, is said once the values are known -/
/-- the contexts of this run -/
structure Of (P : Program) (w : World) (K : PySem.W.Frag) (X : Cx) : Prop where
  hP : X.prog = P
  hw : X.w = w
  hK : X.K = K
  hc : X.calm = true
  hu : X.A.units + 100 < cLine
theorem Of.blk {P : Program} {w : World} {K : PySem.W.Frag} {X : Cx} (o : Of P w K X) {s : Shared} {H : Hp} {sc : Scope} {env : Env} {fp : List Addr} : Of P w K (X.blk s H sc env fp) := ⟨o.hP, o.hw, o.hK, o.hc, o.hu⟩
section
variable (P : Program) (w : World) (K : PySem.W.Frag)
def OpV (f : Value → Value → Sem Value) (x y : V) (H : Hp) (Q : VK) : Prop := ∀ X : Cx, Of P w K X → ∃ r, OpR X f r ∧ r x y H Q
def UnV (f : Value → Sem Value) (x : V) (H : Hp) (Q : VK) : Prop := ∀ X : Cx, Of P w K X → ∃ r, UnR X f r ∧ r x H Q
def CallV (f : Value) (xs : List V) (H : Hp) (Q : VK) : Prop := ∀ X : Cx, Of P w K X → ∃ r, CallR X f r ∧ r xs H Q
def IxV (x y : V) (H : Hp) (Q : VK) : Prop := ∀ X : Cx, Of P w K X → ∃ r, IxR X r ∧ r x y H Q
def SetV (o i v : V) (H : Hp) (Q : Hp → Prop) : Prop := ∀ X : Cx, Of P w K X → ∃ r : TSet, PSet X r ∧ r o i v H Q
def MtV (id : String) (x : V) (xs : List V) (H : Hp) (Q : VK) : Prop := ∀ X : Cx, Of P w K X → ∃ r, MtR X id r ∧ r x xs H Q
end
section
variable {P : Program} {w : World} {K : PySem.W.Frag} {X : Cx} {pos apos cpos p2 tpos : Pos} {e e2 e3 a b : Expr} {es : List Expr} {ta tb te td ty : TE} {t : TA} {id : String} {x : Str} {tg : Expr}
theorem op_self (o : Of P w K X) {f : Value → Value → Sem Value} : OpR X f (OpV P w K f) := fun pins s σ H x y v u Q I rx ry h => let ⟨_, h1, h2⟩ := h X o; h1 pins s σ H x y v u Q I rx ry h2
theorem un_self (o : Of P w K X) {f : Value → Sem Value} : UnR X f (UnV P w K f) := fun pins s σ H x v Q I rx h => let ⟨_, h1, h2⟩ := h X o; h1 pins s σ H x v Q I rx h2
theorem cr_self (o : Of P w K X) {f : Value} : CallR X f (CallV P w K f) := fun pins s σ H xs us Q I r h => let ⟨_, h1, h2⟩ := h X o; h1 pins s σ H xs us Q I r h2
theorem ix_self (o : Of P w K X) : IxR X (IxV P w K) := fun value slice pins s σ H x y v u Q I rx ry h e => let ⟨_, h1, h2⟩ := h X o; h1 value slice pins s σ H x y v u Q I rx ry h2 e
theorem set_self (o : Of P w K X) : PSet X (SetV P w K) := fun pins s σ H o' i v ov iv u Q I ro ri rv h => let ⟨_, h1, h2⟩ := h X o; h1 pins s σ H o' i v ov iv u Q I ro ri rv h2
theorem mt_self (o : Of P w K X) {id : String} : MtR X id (MtV P w K id) := fun pins s σ H x xs v us Q I rx r h => let ⟨_, h1, h2⟩ := h X o; h1 pins s σ H x xs v us Q I rx r h2
/-! the kit's rules whose readings name the context, told by P, w, K -/
theorem pe_fldZ (o : Of P w K X) {f : Str} (he : PE X e te) (hb : attributeBase e f X.env (eval e X.env) = eval e X.env) : PE X (.Attribute e f pos) (tFld K te f) := by
  obtain ⟨rfl, rfl, rfl, hc, hu⟩ := o
  exact pe_fld he hb
theorem pg_tupZ (o : Of P w K X) {k n : Nat} {g : TGs} (h : PGs X es g) (hn : (assignEach es X.env).length = n := by rfl) (hst : (assignEach es X.env).findIdx? (·.1) = none := by rfl) : PG X (.Tuple es k pos) (gTup K n g) := by
  obtain ⟨rfl, rfl, rfl, hc, hu⟩ := o
  exact pg_tup hc h hn hst
theorem pi_listZ (o : Of P w K X) (hl : PE X e te) : PI X tg e (iList K te) := by
  obtain ⟨rfl, rfl, rfl, hc, hu⟩ := o
  exact pi_list hl
theorem pi_tupZ (o : Of P w K X) (hl : PE X e te) : PI X tg e (iTup K te) := by
  obtain ⟨rfl, rfl, rfl, hc, hu⟩ := o
  exact pi_tup hl
theorem pi_enumZ (o : Of P w K X) {p pos tpos : Pos} {elts : List Expr} {kk : Nat} (hg : Gl X "enumerate") (hm : X.mg "enumerate" = none) (ha : PA X [e] t) (hs : starEach [e] X.env = [(false, eval e X.env)] := by rfl) : PI X (.Tuple elts kk tpos) (.Call (.Name "enumerate" p) [e] [] pos) (iEnum K t) := by
  obtain ⟨rfl, rfl, rfl, hc, hu⟩ := o
  exact pi_enum hg hm ha hs
theorem pi_zipZ (o : Of P w K X) {p pos tpos : Pos} {elts : List Expr} {kk : Nat} (hg : Gl X "zip") (hm : X.mg "zip" = none) (ha : PA X [e, e2] t)
    (hs : starEach [e, e2] X.env = (false, eval e X.env) :: starEach [e2] X.env := by rfl) (hpl : (backTo pos (starEach [e2] X.env)).any (·.1) = false := by rfl) : PI X (.Tuple elts kk tpos) (.Call (.Name "zip" p) [e, e2] [] pos) (iZip K t) := by
  obtain ⟨rfl, rfl, rfl, hc, hu⟩ := o
  exact pi_zip hg hm ha hs hpl
theorem pe_bmZ (o : Of P w K X) {T : String} {name : Str} {r : V → List V → Hp → VK → Prop} {ob : Expr} {to : TE} (pa : PlainAttrs T) (slot : Slot T name id) (hty : typeOf (.builtin id) = pure (.type "method_descriptor")) (hm : MtR X id r) (ho : PE X ob to) (ha : PA X (e :: es) t)
    (hbase : attributeBase ob name X.env (eval ob X.env) = eval ob X.env := by rfl)
    (hfew : ((backTo cpos (starEach (e :: es) X.env)).all (fun x => !x.1) && (backToKw cpos (keywordEach [] X.env)).all (fun x => x.1.isSome)
      && decide ((e :: es).length + ([] : List Keyword).length + (if ([] : List Keyword).isEmpty then 0 else 1) < 30)) = true := by rfl)
    (hline : (apos.endLine == cpos.line) = true := by rfl) (hs : starEach (e :: es) X.env = (false, eval e X.env) :: starEach es X.env := by rfl) (hplain : (backTo cpos (starEach es X.env)).any (·.1) = false := by rfl) :
    PE X (.Call (.Attribute ob name apos) (e :: es) [] cpos) (tBM K T r to t) := by
  obtain ⟨rfl, rfl, rfl, hc, hu⟩ := o
  exact pe_bm pa slot hty hm ho ha hbase hfew hline hs hplain
theorem pe_sliceZ (o : Of P w K X) {lo hi : Option Expr} {tl th : TO} (he : PE X e te) (hl : PO X lo tl) (hh : PO X hi th) : PE X (.Subscript e (.Slice lo hi none p2) pos) (tSl (rSlL K) te tl th) := by
  obtain ⟨rfl, rfl, rfl, hc, hu⟩ := o
  exact pe_slice sl_list he hl hh
theorem pe_dnewDZ (o : Of P w K X) : PE X (.Dict [] [] pos) (tDNewD P w) := by
  obtain ⟨rfl, rfl, rfl, hc, hu⟩ := o
  exact pe_dnewD
theorem pe_getDZ (o : Of P w K X) {ob i : Expr} (ho : PE X ob td) (hi : PE X i ty) (hs : NoSl i) : PE X (.Subscript ob i pos) (tGetD P w td ty) := by
  obtain ⟨rfl, rfl, rfl, hc, hu⟩ := o
  exact pe_getD (by omega) ho hi hs
end
/-! ### the readings, one step each -/
section
variable {K : PySem.W.Frag} {σ : L2.St} {H : Hp} {Q : VK} {D : Ends} {ta tb tc te : TE} {t : TA} {u : TS} {tt tt' : TT}
theorem c_var {i : Nat} {v : V} (h : σ[i]? = some (some v)) (q : Q v H) : tVar i σ H Q := ⟨v, h, q⟩
theorem c_c {v : V} (q : Q v H) : tC v σ H Q := q
theorem c_op {r : R2} (q : ta σ H fun x H1 => tb σ H1 fun y H2 => r x y H2 Q) : tOp r ta tb σ H Q := q
theorem c_un {r : V → Hp → VK → Prop} (q : ta σ H fun x H1 => r x H1 Q) : tUn r ta σ H Q := q
/-- a field is read -/
def FldV (K : PySem.W.Frag) (x : V) (f : Str) (H : Hp) (Q : VK) : Prop := ∃ a C dx fs v, x = .ref a ∧ H a = some (.ins C dx fs) ∧ Cls K C ∧ NoAttr K C f ∧ fs.lookup f = some v ∧ Q v H
theorem c_fld {f : Str} (q : ta σ H fun x H1 => FldV K x f H1 Q) : tFld K ta f σ H Q := q
theorem c_call {sp : Sp} {E : XK} (q : t σ H fun vs H1 => sp vs H1 Q E) : tCall sp [] E t σ H Q := by
  unfold tCall
  simp only [List.append_nil]
  exact q
/-- a method's receiver -/
def RecV (C : Addr) (m : Str) (x : V) (H : Hp) (R : Prop) : Prop := ∃ a dx fs, x = .ref a ∧ H a = some (.ins C dx fs) ∧ fs.lookup m = none ∧ R
theorem c_meth {C : Addr} {m : Str} {sp : Sp} {E : XK} (q : ta σ H fun x H1 => RecV C m x H1 (t σ H1 fun vs H2 => sp (x :: vs) H2 Q E)) : tMeth C m sp [] E ta t σ H Q := by
  unfold tMeth
  simp only [List.append_nil]
  exact q
/-! the monotone closure -/
def mnA (t : TA) : TA := fun σ H Q => ∃ Q', t σ H Q' ∧ ∀ vs H', Q' vs H' → Q vs H'
theorem pa_mn {es : List Expr} (h : PA X es t) : PA X es (mnA t) := ⟨fun pos pins s σ H Q I ⟨Q', q, k⟩ => thn (h.run pos pins s σ H Q' I q) fun us s1 ⟨vs, H1, I1, r, q1⟩ => ⟨vs, H1, I1, r, k _ _ q1⟩⟩
theorem same_new {p : Addr} {o : HO} (h : H p = none) : Same H (upd H p o) := fun b u e => by
  rw [upd_ne (ne_of_none e h)]
  exact e
theorem c_make {C : Addr} {sp : Sp} {E : XK} (q : t σ H fun vs H1 => ∀ x dx H2, H1 x = none → H1 dx = none → dx ≠ x → Same H1 H2 → H2 x = some (.ins C dx []) → H2 dx = some (.own x) → sp (.ref x :: vs) H2 (fun v H3 => v = .non ∧ Q (.ref x) H3) E) : tMake C sp [] E (mnA t) σ H Q := by
  refine ⟨_, q, fun vs H1 k x dx nx nd ne => ?_⟩
  rw [List.append_nil]
  have nx' : upd H1 dx (.own x) x = none := by rw [upd_ne (Ne.symm ne)]; exact nx
  exact k x dx _ nx nd ne (Same.trans (same_new nd) (same_new nx')) upd_same (by rw [upd_ne ne, upd_same])
theorem c_cb {r : List V → Hp → VK → Prop} (q : t σ H fun vs H1 => r vs H1 Q) : tCB r t σ H Q := q
theorem c_ckw {r : List V → List V → Hp → VK → Prop} {tk : TA} (q : t σ H fun vs H1 => tk σ H1 fun zs H2 => r vs zs H2 Q) : tCKw r t tk σ H Q := q
theorem c_nil {Q : List V → Hp → Prop} (q : Q [] H) : tNil σ H Q := q
theorem c_cons {Q : List V → Hp → Prop} (q : te σ H fun x H1 => t σ H1 fun xs H2 => Q (x :: xs) H2) : tCons te t σ H Q := q
theorem c_tup (q : t σ H fun xs H1 => xs.length ≤ sizeLine ∧ ∀ p H2, H1 p = none → Same H1 H2 → H2 p = some (.tup xs) → Q (.ref p) H2) : tTup (mnA t) σ H Q :=
  ⟨_, q, fun xs H1 ⟨z, k⟩ => ⟨z, fun p n => k p _ n (same_new n) upd_same⟩⟩
theorem c_lst (q : t σ H fun xs H1 => xs.length ≤ sizeLine ∧ ∀ p H2, H1 p = none → Same H1 H2 → H2 p = some (.lst xs) → Q (.ref p) H2) : tLst (mnA t) σ H Q :=
  ⟨_, q, fun xs H1 ⟨z, k⟩ => ⟨z, fun p n => k p _ n (same_new n) upd_same⟩⟩
theorem c_test {Q : Bool → Hp → Prop} (q : te σ H fun x H' => ∃ k, x = .bl k ∧ Q k H') : tTest te σ H Q := q
theorem c_tb {Q : Bool → Hp → Prop} (q : te σ H fun x H' => ∃ k, x = .bl k ∧ Q k H') : tB te σ H Q := q
theorem c_and {Q : Bool → Hp → Prop} (q : tt σ H fun c H1 => if c = true then tt' σ H1 Q else Q false H1) : tAnd tt tt' σ H Q := q
theorem c_or {Q : Bool → Hp → Prop} (q : tt σ H fun c H1 => if c = true then Q true H1 else tt' σ H1 Q) : tOr tt tt' σ H Q := q
theorem c_not {Q : Bool → Hp → Prop} (q : tt σ H fun c H1 => Q (!c) H1) : tNot tt σ H Q := q
theorem c_andV (q : ta σ H fun x H1 => ∃ c, x = .bl c ∧ if c = true then tb σ H1 Q else Q (.bl false) H1) : tAndV ta tb σ H Q := q
theorem c_orV (q : ta σ H fun x H1 => ∃ c, x = .bl c ∧ if c = true then Q (.bl true) H1 else tb σ H1 Q) : tOrV ta tb σ H Q := q
theorem c_notV (q : ta σ H fun x H1 => ∃ c, x = .bl c ∧ Q (.bl (!c)) H1) : tNotV ta σ H Q := q
theorem c_chain {r r' : R2} (q : ta σ H fun x H1 => tb σ H1 fun y H2 => r x y H2 fun z H3 => ∃ k, z = .bl k ∧ if k = true then tc σ H3 fun z' H4 => r' y z' H4 Q else Q (.bl false) H3) : tChain r r' ta tb tc σ H Q := q
theorem c_seq {t u : TS} (q : t { D with nx := u D } σ H) : tSeq t u D σ H := q
theorem c_asg {g : TG} (q : te σ H fun x H1 => g x σ H1 D.nx) : tAsg te g D σ H := q
theorem c_ret (q : te σ H D.rt) : tRet te D σ H := q
theorem c_retN (q : D.rt .non H) : tRetN D σ H := q
theorem c_ifS {t u : TS} (q : tt σ H fun b H1 => if b = true then t D σ H1 else u D σ H1) : tIfS tt t u D σ H := q
theorem c_drop (q : te σ H fun _ H1 => D.nx σ H1) : tDrop te D σ H := q
theorem c_next (q : D.nx σ H) : tNext D σ H := q
/-- a field is stored -/
def FldS (K : PySem.W.Frag) (x : V) (f : Str) (y : V) (H : Hp) (R : Hp → Prop) : Prop := ∃ a C dx fs, x = .ref a ∧ H a = some (.ins C dx fs) ∧ Cls K C ∧ NoAttr K C f ∧ fs.length < 1000 ∧ R (upd H a (.ins C dx (putF f y fs)))
theorem c_fldS {f : Str} (q : te σ H fun y H1 => ta σ H1 fun x H2 => FldS K x f y H2 (D.nx σ)) : sFld K ta te f D σ H := q
theorem c_gname {i : Nat} {v : V} {Q : L2.St → Hp → Prop} (q : Q (σ.set i (some v)) H) : gName i v σ H Q := q
theorem c_gtup {n : Nat} {g : TGs} {a : Addr} {xs : List V} {Q : L2.St → Hp → Prop} (h : H a = some (.tup xs)) (hl : xs.length = n) (q : g xs σ H Q) : gTup K n g (.ref a) σ H Q := ⟨a, xs, rfl, SqT.of h, hl, q⟩
theorem c_gnil {Q : L2.St → Hp → Prop} (q : Q σ H) : gNil [] σ H Q := ⟨rfl, q⟩
theorem c_gcons {g : TG} {gs : TGs} {v : V} {r : List V} {Q : L2.St → Hp → Prop} (q : g v σ H fun σ' H' => gs r σ' H' Q) : gCons g gs (v :: r) σ H Q := ⟨v, r, rfl, q⟩
theorem c_gsub {s : TSet} {v : V} {Q : L2.St → Hp → Prop} (q : ta σ H fun o H1 => tb σ H1 fun i H2 => s o i v H2 fun H3 => Q σ H3) : gSub ta tb s v σ H Q := q
/-- a list's method -/
def LsV (x : V) (H : Hp) (R : Prop) : Prop := ∃ l xs, x = .ref l ∧ H l = some (.lst xs) ∧ R
def mnE (t : TE) : TE := fun σ H Q => ∃ Q', t σ H Q' ∧ ∀ v H', Q' v H' → Q v H'
theorem pe_mn {e : Expr} (h : PE X e te) : PE X e (mnE te) := ⟨fun pins s σ H Q I ⟨Q', q, k⟩ => thn (h.run pins s σ H Q' I q) fun u s1 ⟨v, H1, I1, r, q1⟩ => ⟨v, H1, I1, r, k _ _ q1⟩⟩
theorem c_bm {r : V → List V → Hp → VK → Prop} (q : ta σ H fun x H1 => LsV x H1 (t σ H1 fun vs H2 => r x vs H2 Q)) : tBM K "list" r (mnE ta) t σ H Q :=
  ⟨_, q, fun x H1 ⟨l, xs, e, h, k⟩ => by subst e; exact ⟨.inl ⟨rfl, _, SqL.of h⟩, k⟩⟩
theorem c_sl {r : V → Option Int → Option Int → Hp → VK → Prop} {tl th : TO} (q : te σ H fun x H1 => tl σ H1 fun l H2 => th σ H2 fun u H3 => r x l u H3 Q) : tSl r te tl th σ H Q := q
theorem c_nopart {Q : Option Int → Hp → Prop} (q : Q none H) : tNoPart σ H Q := q
theorem c_part {Q : Option Int → Hp → Prop} (q : te σ H fun x H1 => ∃ i, x = .int i ∧ Q (some i) H1) : tPart te σ H Q := q
theorem c_dnewK (q : ∀ p H2, H p = none → Same H H2 → H2 p = some (.dK []) → Q (.ref p) H2) : tDNewK σ H Q := fun p n => q p _ n (same_new n) upd_same
def DgV (x y : V) (H : Hp) (Q : VK) : Prop := ∃ a v, x = .ref a ∧ DGet H a y (some v) ∧ Q v H
theorem c_dget (q : ta σ H fun x H1 => tb σ H1 fun y H2 => DgV x y H2 Q) : tDGet ta tb σ H Q := q
theorem dgV {a : Addr} {kvs : List (Key × V)} {k : Int} {v : V} (h : H a = some (.dK kvs)) (e : valV kvs (Sum.inl k : Key) = some v) (q : Q v H) : DgV (.ref a) (.int k) H Q :=
  ⟨a, v, rfl, by rw [← e]; exact DGet.k (k := Sum.inl k) h, q⟩
def DnV (y x : V) (H : Hp) (Q : VK) : Prop := ∃ a o, x = .ref a ∧ DGet H a y o ∧ Q (.bl (!o.isSome)) H
theorem c_dnot (q : ta σ H fun y H1 => tb σ H1 fun x H2 => DnV y x H2 Q) : tDNotIn ta tb σ H Q := q
theorem dnV {a : Addr} {kvs : List (Key × V)} {k : Int} (h : H a = some (.dK kvs)) (q : Q (.bl (!(valV kvs (Sum.inl k : Key)).isSome)) H) : DnV (.int k) (.ref a) H Q :=
  ⟨a, _, rfl, DGet.k (k := Sum.inl k) h, q⟩
def IsDV (x : V) (H : Hp) (R : Prop) : Prop := ∃ a kvs, x = .ref a ∧ H a = some (.dK kvs) ∧ R
def Dg2V (x y z : V) (H : Hp) (Q : VK) : Prop := ∃ a o, x = .ref a ∧ DGet H a y o ∧ Q (o.getD z) H
theorem c_dget1 (q : ta σ H fun x H1 => IsDV x H1 (tb σ H1 fun y H2 => Dg2V x y .non H2 Q)) : tDGet1 (mnE ta) (mnE tb) σ H Q :=
  ⟨_, q, fun x H1 ⟨a, kvs, e, h, k⟩ => ⟨a, e, .inl ⟨kvs, Rd.of h⟩, _, k, fun y H2 ⟨a', o, e', g, q⟩ => by
    subst e
    cases e'
    exact ⟨o, g, q⟩⟩⟩
theorem c_dget2 (q : ta σ H fun x H1 => IsDV x H1 (tb σ H1 fun y H2 => tc σ H2 fun z H3 => Dg2V x y z H3 Q)) : tDGet2 (mnE ta) (mnE tb) (mnE tc) σ H Q :=
  ⟨_, q, fun x H1 ⟨a, kvs, e, h, k⟩ => ⟨a, e, .inl ⟨kvs, Rd.of h⟩, _, k, fun y H2 k2 => ⟨_, k2, fun z H3 ⟨a', o, e', g, q⟩ => by
    subst e
    cases e'
    exact ⟨o, g, q⟩⟩⟩⟩
def DsdV (x y z : V) (H : Hp) (Q : VK) : Prop := ∃ a kvs k, x = .ref a ∧ H a = some (.dK kvs) ∧ y = kV k ∧ kvs.length < sizeLine ∧ (∀ v, valV kvs k = some v → Q v H) ∧ (valV kvs k = none → Q z (upd H a (.dK (putK kvs k z))))
theorem c_dsetd (q : ta σ H fun x H1 => IsDV x H1 (tb σ H1 fun y H2 => tc σ H2 fun z H3 => DsdV x y z H3 Q)) : tDSetd (mnE ta) (mnE tb) (mnE tc) σ H Q :=
  ⟨_, q, fun x H1 ⟨a, kvs, e, h, k⟩ => ⟨a, e, .inl ⟨kvs, Rd.of h⟩, _, k, fun y H2 k2 => ⟨_, k2, fun z H3 ⟨a', kvs', k', e', g, q⟩ => by
    subst e
    cases e'
    exact ⟨kvs', k', g, q⟩⟩⟩⟩
theorem dg2V {a : Addr} {kvs : List (Key × V)} {k : Int} {z : V} (h : H a = some (.dK kvs)) (q : Q ((valV kvs (Sum.inl k : Key)).getD z) H) : Dg2V (.ref a) (.int k) z H Q :=
  ⟨a, _, rfl, DGet.k (k := Sum.inl k) h, q⟩
end
end
section
set_option maxHeartbeats 4000000
/-! ### steps by values -/
section
variable {P : Program} {w : World} {K : PySem.W.Frag} {H : Hp} {Q : VK} {i j : Int}
theorem v_add (q : Q (.int (i + j)) H) : OpV P w K (binaryOp .Add) (.int i) (.int j) H Q := by
  intro X o
  obtain ⟨rfl, rfl, rfl, hc, hu⟩ := o
  exact ⟨_, op_add, ⟨i, j, rfl, rfl, q⟩⟩
theorem v_sub (q : Q (.int (i - j)) H) : OpV P w K (binaryOp .Sub) (.int i) (.int j) H Q := by
  intro X o
  obtain ⟨rfl, rfl, rfl, hc, hu⟩ := o
  exact ⟨_, op_sub, ⟨i, j, rfl, rfl, q⟩⟩
theorem v_mul (h : CMul i j) (q : Q (.int (i * j)) H) : OpV P w K (binaryOp .Mult) (.int i) (.int j) H Q := by
  intro X o
  obtain ⟨rfl, rfl, rfl, hc, hu⟩ := o
  exact ⟨_, op_mul, ⟨i, j, rfl, rfl, h, q⟩⟩
theorem v_mod (h : 0 < j) (q : Q (.int (i % j)) H) : OpV P w K (binaryOp .Mod) (.int i) (.int j) H Q := by
  intro X o
  obtain ⟨rfl, rfl, rfl, hc, hu⟩ := o
  exact ⟨_, op_mod, ⟨i, j, rfl, rfl, h, q⟩⟩
theorem v_fdiv (h : 0 < j ∧ j < 1073741824) (q : Q (.int (i / j)) H) : OpV P w K (binaryOp .FloorDiv) (.int i) (.int j) H Q := by
  intro X o
  obtain ⟨rfl, rfl, rfl, hc, hu⟩ := o
  exact ⟨_, op_fdiv, ⟨i, j, rfl, rfl, h, q⟩⟩
theorem v_pow (h : CPow i j) (q : Q (.int (i ^ j.toNat)) H) : OpV P w K (binaryOp .Pow) (.int i) (.int j) H Q := by
  intro X o
  obtain ⟨rfl, rfl, rfl, hc, hu⟩ := o
  exact ⟨_, op_pow, ⟨i, j, rfl, rfl, h, q⟩⟩
theorem v_neg (q : Q (.int (-i)) H) : UnV P w K (unaryOp .USub) (.int i) H Q := by
  intro X o
  obtain ⟨rfl, rfl, rfl, hc, hu⟩ := o
  exact ⟨_, un_neg, ⟨i, rfl, q⟩⟩
theorem v_lt (q : Q (.bl (decide (i < j))) H) : OpV P w K (compareOp .Lt) (.int i) (.int j) H Q := by
  intro X o
  obtain ⟨rfl, rfl, rfl, hc, hu⟩ := o
  exact ⟨_, op_lt, ⟨i, j, rfl, rfl, q⟩⟩
theorem v_le (q : Q (.bl (decide (i ≤ j))) H) : OpV P w K (compareOp .LtE) (.int i) (.int j) H Q := by
  intro X o
  obtain ⟨rfl, rfl, rfl, hc, hu⟩ := o
  exact ⟨_, op_le, ⟨i, j, rfl, rfl, q⟩⟩
theorem v_gt (q : Q (.bl (decide (j < i))) H) : OpV P w K (compareOp .Gt) (.int i) (.int j) H Q := by
  intro X o
  obtain ⟨rfl, rfl, rfl, hc, hu⟩ := o
  exact ⟨_, op_gt, ⟨i, j, rfl, rfl, q⟩⟩
theorem v_ge (q : Q (.bl (decide (j ≤ i))) H) : OpV P w K (compareOp .GtE) (.int i) (.int j) H Q := by
  intro X o
  obtain ⟨rfl, rfl, rfl, hc, hu⟩ := o
  exact ⟨_, op_ge, ⟨i, j, rfl, rfl, q⟩⟩
theorem dec_ii : decide (V.int i = V.int j) = decide (i = j) := by
  by_cases h : i = j
  · subst h
    simp
  · rw [decide_eq_false h, decide_eq_false fun z => h (by cases z; rfl)]
theorem v_eq (q : Q (.bl (decide (i = j))) H) : OpV P w K (compareOp .Eq) (.int i) (.int j) H Q := by
  intro X o
  obtain ⟨rfl, rfl, rfl, hc, hu⟩ := o
  exact ⟨_, op_eq, ⟨rfl, by rw [dec_ii]; exact q⟩⟩
theorem v_ne (q : Q (.bl (!decide (i = j))) H) : OpV P w K (compareOp .NotEq) (.int i) (.int j) H Q := by
  intro X o
  obtain ⟨rfl, rfl, rfl, hc, hu⟩ := o
  exact ⟨_, op_ne, ⟨rfl, by rw [dec_ii]; exact q⟩⟩
theorem v_eqs {x y : Str} {b : Bool} (h : decide (V.str x = V.str y) = b) (q : Q (.bl b) H) : OpV P w K (compareOp .Eq) (.str x) (.str y) H Q := by
  intro X o
  obtain ⟨rfl, rfl, rfl, hc, hu⟩ := o
  exact ⟨_, op_eq, ⟨rfl, by rw [h]; exact q⟩⟩
theorem v_isT (q : Q (.bl true) H) : OpV P w K (compareOp .Is) .non .non H Q := by
  intro X o
  obtain ⟨rfl, rfl, rfl, hc, hu⟩ := o
  exact ⟨_, op_isN, ⟨rfl, by rw [decide_eq_true rfl]; exact q⟩⟩
theorem v_isR {a : Addr} (q : Q (.bl false) H) : OpV P w K (compareOp .Is) (.ref a) .non H Q := by
  intro X o
  obtain ⟨rfl, rfl, rfl, hc, hu⟩ := o
  exact ⟨_, op_isN, ⟨rfl, by rw [decide_eq_false (fun z => nomatch z)]; exact q⟩⟩
theorem v_isI (q : Q (.bl false) H) : OpV P w K (compareOp .Is) (.int i) .non H Q := by
  intro X o
  obtain ⟨rfl, rfl, rfl, hc, hu⟩ := o
  exact ⟨_, op_isN, ⟨rfl, by rw [decide_eq_false (fun z => nomatch z)]; exact q⟩⟩
theorem v_isnT (q : Q (.bl false) H) : OpV P w K (compareOp .IsNot) .non .non H Q := by
  intro X o
  obtain ⟨rfl, rfl, rfl, hc, hu⟩ := o
  exact ⟨_, op_notN, ⟨rfl, by rw [decide_eq_true rfl]; exact q⟩⟩
theorem v_isnR {a : Addr} (q : Q (.bl true) H) : OpV P w K (compareOp .IsNot) (.ref a) .non H Q := by
  intro X o
  obtain ⟨rfl, rfl, rfl, hc, hu⟩ := o
  exact ⟨_, op_notN, ⟨rfl, by rw [decide_eq_false (fun z => nomatch z)]; exact q⟩⟩
theorem v_isnI (q : Q (.bl true) H) : OpV P w K (compareOp .IsNot) (.int i) .non H Q := by
  intro X o
  obtain ⟨rfl, rfl, rfl, hc, hu⟩ := o
  exact ⟨_, op_notN, ⟨rfl, by rw [decide_eq_false (fun z => nomatch z)]; exact q⟩⟩
/-! subscripts -/
theorem v_ixL {p : Addr} {xs : List V} {v : V} (h : H p = some (.lst xs)) (e : atI xs i = some v) (q : Q v H) : IxV P w K (.ref p) (.int i) H Q := by
  intro X o
  obtain ⟨rfl, rfl, rfl, hc, hu⟩ := o
  exact ⟨_, ix_list, ⟨p, xs, i, v, rfl, rfl, SqL.of h, e, q⟩⟩
theorem v_ixT {p : Addr} {xs : List V} {v : V} (h : H p = some (.tup xs)) (e : atI xs i = some v) (q : Q v H) : IxV P w K (.ref p) (.int i) H Q := by
  intro X o
  obtain ⟨rfl, rfl, rfl, hc, hu⟩ := o
  exact ⟨_, ix_tup, ⟨p, xs, i, v, rfl, rfl, SqT.of h, e, q⟩⟩
theorem v_ixS {p : Addr} {xs : List V} {v : V} (h : SqL K H p xs) (e : atI xs i = some v) (q : Q v H) : IxV P w K (.ref p) (.int i) H Q := by
  intro X o
  obtain ⟨rfl, rfl, rfl, hc, hu⟩ := o
  exact ⟨_, ix_list, ⟨p, xs, i, v, rfl, rfl, h, e, q⟩⟩
theorem v_setL {p : Addr} {xs : List V} {v : V} {j : Nat} {Q : Hp → Prop} (h : H p = some (.lst xs)) (e : ixN xs.length i = some j) (q : ∀ H2, Keep [p] H H2 → H2 p = some (.lst (xs.set j v)) → Q H2) : SetV P w K (.ref p) (.int i) v H Q :=
  by
  intro X o
  obtain ⟨rfl, rfl, rfl, hc, hu⟩ := o
  exact ⟨_, set_list, ⟨p, xs, i, j, rfl, rfl, h, e, q _ (Keep.upd (List.mem_singleton.mpr rfl)) upd_same⟩⟩
theorem v_setK {p : Addr} {kvs : List (Key × V)} {v : V} {Q : Hp → Prop} (h : H p = some (.dK kvs)) (hl : kvs.length < sizeLine) (q : ∀ H2, Keep [p] H H2 → H2 p = some (.dK (putK kvs (Sum.inl i : Key) v)) → Q H2) : SetV P w K (.ref p) (.int i) v H Q :=
  by
  intro X o
  obtain ⟨rfl, rfl, rfl, hc, hu⟩ := o
  exact ⟨_, (set_dict (by omega)), ⟨p, _, rfl, DPut.k (k := Sum.inl i) h hl, q _ (Keep.upd (List.mem_singleton.mpr rfl)) upd_same⟩⟩
theorem v_setD {p : Addr} {o : Obj} {es : List DE} {a : Addr} {z : Sp2} {v : V} {Q : Hp → Prop} (h : H p = some (DicO P w p o es)) (hk : ∀ e ∈ es, SpA H e.2.1 e.1) (ha : SpA H a z) (hl : es.length < sizeLine)
    (q : ∀ o' H2, Keep [p] H H2 → H2 p = some (DicO P w p o' (putD es z a v)) → Q H2) : SetV P w K (.ref p) (.ref a) v H Q :=
  by
  intro X o
  obtain ⟨rfl, rfl, rfl, hc, hu⟩ := o
  exact ⟨_, (set_dic (by omega)), ⟨p, o, es, a, z, rfl, rfl, h, hk, ha, hl, fun o' => q o' _ (Keep.upd (List.mem_singleton.mpr rfl)) upd_same⟩⟩
/-! calls -/
theorem v_lenL {p : Addr} {xs : List V} (h : H p = some (.lst xs)) (q : Q (.int xs.length) H) : CallV P w K (.builtin "len") [.ref p] H Q := by
  intro X o
  obtain ⟨rfl, rfl, rfl, hc, hu⟩ := o
  exact ⟨_, call_len_seq, ⟨p, xs, rfl, .inl (SqL.of h), q⟩⟩
theorem v_lenS {p : Addr} {xs : List V} (h : SqL K H p xs) (q : Q (.int xs.length) H) : CallV P w K (.builtin "len") [.ref p] H Q := by
  intro X o
  obtain ⟨rfl, rfl, rfl, hc, hu⟩ := o
  exact ⟨_, call_len_seq, ⟨p, xs, rfl, .inl h, q⟩⟩
theorem v_lenT {p : Addr} {xs : List V} (h : H p = some (.tup xs)) (q : Q (.int xs.length) H) : CallV P w K (.builtin "len") [.ref p] H Q := by
  intro X o
  obtain ⟨rfl, rfl, rfl, hc, hu⟩ := o
  exact ⟨_, call_len_seq, ⟨p, xs, rfl, .inr (SqT.of h), q⟩⟩
theorem v_lenD {p : Addr} {o : Obj} {es : List DE} (h : H p = some (DicO P w p o es)) (q : Q (.int es.length) H) : CallV P w K (.builtin "len") [.ref p] H Q := by
  intro X o
  obtain ⟨rfl, rfl, rfl, hc, hu⟩ := o
  exact ⟨_, cr_lenD, ⟨p, o, es, rfl, h, q⟩⟩
theorem v_lenK {p : Addr} {kvs : List (Key × V)} (h : H p = some (.dK kvs)) (q : Q (.int kvs.length) H) : CallV P w K (.builtin "len") [.ref p] H Q := by
  intro X o
  obtain ⟨rfl, rfl, rfl, hc, hu⟩ := o
  exact ⟨_, call_lenD, ⟨p, kvs, rfl, h, q⟩⟩
theorem v_lenO {p : Addr} {L : List (Addr × Sp2)} (h : H p = some (SetO w p L)) (q : Q (.int L.length) H) : CallV P w K (.builtin "len") [.ref p] H Q := by
  intro X o
  obtain ⟨rfl, rfl, rfl, hc, hu⟩ := o
  exact ⟨_, cr_lenO, ⟨p, L, rfl, h, q⟩⟩
theorem v_max2 (q : Q (.int (max i j)) H) : CallV P w K (.builtin "max") [.int i, .int j] H Q := by
  intro X o
  obtain ⟨rfl, rfl, rfl, hc, hu⟩ := o
  exact ⟨_, (call_max2 hc), ⟨i, j, rfl, by
  have e : (if j > i then j else i) = max i j := by
    by_cases h : j > i
    · rw [if_pos h]; omega
    · rw [if_neg h]; omega
  rw [e]
  exact q⟩⟩
theorem v_min2 (q : Q (.int (min i j)) H) : CallV P w K (.builtin "min") [.int i, .int j] H Q := by
  intro X o
  obtain ⟨rfl, rfl, rfl, hc, hu⟩ := o
  exact ⟨_, (call_min2 hc), ⟨i, j, rfl, by
  have e : (if j < i then j else i) = min i j := by
    by_cases h : j < i
    · rw [if_pos h]; omega
    · rw [if_neg h]; omega
  rw [e]
  exact q⟩⟩
theorem v_sum {p : Addr} {ns : List Int} (h : H p = some (.lst (ns.map V.int))) (q : Q (.int ns.sum) H) : CallV P w K (.builtin "sum") [.ref p] H Q := by
  intro X o
  obtain ⟨rfl, rfl, rfl, hc, hu⟩ := o
  exact ⟨_, (cr_sum hc), ⟨p, ns, rfl, SqL.of h, q⟩⟩
theorem v_all {p : Addr} {bs : List Bool} (h : H p = some (.lst (bs.map V.bl))) (q : Q (.bl (bs.all id)) H) : CallV P w K (.builtin "all") [.ref p] H Q := by
  intro X o
  obtain ⟨rfl, rfl, rfl, hc, hu⟩ := o
  exact ⟨_, (cr_all hc), ⟨p, bs, rfl, SqL.of h, q⟩⟩
theorem v_listL {p : Addr} {xs : List V} (h : H p = some (.lst xs)) (q : ∀ l H2, H l = none → Same H H2 → H2 l = some (.lst xs) → Q (.ref l) H2) : CallV P w K (.type "list") [.ref p] H Q := by
  intro X o
  obtain ⟨rfl, rfl, rfl, hc, hu⟩ := o
  exact ⟨_, call_list_of, ⟨p, xs, rfl, .inl (SqL.of h), fun l n => q l _ n (same_new n) upd_same⟩⟩
theorem v_listD {p : Addr} {o : Obj} {es : List DE} (h : H p = some (DicO P w p o es)) (q : ∀ l H2, H l = none → Same H H2 → H2 l = some (.lst (es.map fun e => V.ref e.2.1)) → Q (.ref l) H2) : CallV P w K (.type "list") [.ref p] H Q := by
  intro X o
  obtain ⟨rfl, rfl, rfl, hc, hu⟩ := o
  exact ⟨_, (cr_listD hc), ⟨p, o, es, rfl, h, fun l n => q l _ n (same_new n) upd_same⟩⟩
theorem v_tupL {p : Addr} {xs : List V} (h : H p = some (.lst xs)) (q : ∀ l H2, H l = none → Same H H2 → H2 l = some (.tup xs) → Q (.ref l) H2) : CallV P w K (.type "tuple") [.ref p] H Q := by
  intro X o
  obtain ⟨rfl, rfl, rfl, hc, hu⟩ := o
  exact ⟨_, call_tuple_of, ⟨p, xs, rfl, .inl ⟨SqL.of h, fun l n => q l _ n (same_new n) upd_same⟩⟩⟩
theorem v_setS {l : Addr} {ks : SpL} (h : LSp H l ks) (few : ks.length < 64) (q : ∀ a L H2, H a = none → Same H H2 → H2 a = some (SetO w a L) → (∀ p ∈ L, p ∈ ks) → (∀ p ∈ ks, p.2 ∈ L.map (·.2)) → (L.map (·.2)).Nodup → Q (.ref a) H2) : CallV P w K (.type "set") [.ref l] H Q :=
  by
  intro X o
  obtain ⟨rfl, rfl, rfl, hc, hu⟩ := o
  exact ⟨_, (cr_set hc (by omega)), ⟨l, ks, rfl, SqL.of h.1, h.2, few, fun a L n h1 h2 h3 => q a L _ n (same_new n) upd_same h1 h2 h3⟩⟩
theorem v_dictP {l : Addr} {Ts : List Addr} {es : List DE} (h : H l = some (.lst (Ts.map V.ref))) (hT : Paired (fun T (e : DE) => H T = some (.tup [.ref e.2.1, e.2.2])) Ts es) (hk : ∀ e ∈ es, SpA H e.2.1 e.1) (nd : (es.map (·.1)).Nodup)
    (q : ∀ p o H2, H p = none → Same H H2 → H2 p = some (DicO P w p o es) → Q (.ref p) H2) : CallV P w K (.type "dict") [.ref l] H Q := by
  intro X o
  obtain ⟨rfl, rfl, rfl, hc, hu⟩ := o
  exact ⟨_, (cr_dictP hc (by omega)), ⟨l, Ts, es, rfl, h, hT, hk, nd, fun p o n => q p o _ n (same_new n) upd_same⟩⟩
theorem v_dictD {d : Addr} {o : Obj} {es : List DE} (h : H d = some (DicO P w d o es)) (hk : ∀ e ∈ es, SpA H e.2.1 e.1) (nd : (es.map fun e => hz w e.1).Nodup)
    (q : ∀ p o' H2, H p = none → Same H H2 → H2 p = some (DicO P w p o' es) → Q (.ref p) H2) : CallV P w K (.type "dict") [.ref d] H Q := by
  intro X o
  obtain ⟨rfl, rfl, rfl, hc, hu⟩ := o
  exact ⟨_, (cr_dictD (by omega)), ⟨d, o, es, rfl, h, hk, nd, fun p o n => q p o _ n (same_new n) upd_same⟩⟩
theorem v_intB {k : Bool} (q : Q (.int (if k then 1 else 0)) H) : CallV P w K (.type "int") [.bl k] H Q := by
  intro X o
  obtain ⟨rfl, rfl, rfl, hc, hu⟩ := o
  exact ⟨_, call_int1, (.inr ⟨k, rfl, q⟩)⟩
theorem v_sortI {p : Addr} {ns : List Int} (h : H p = some (.lst (ns.map V.int))) (few : ns.length < 64) (q : ∀ (ns' : List Int) l H2, ns'.Perm ns → ns'.Pairwise (· ≤ ·) → H l = none → Same H H2 → H2 l = some (.lst (ns'.map V.int)) → Q (.ref l) H2) : CallV P w K (.builtin "sorted") [.ref p] H Q :=
  by
  intro X o
  obtain ⟨rfl, rfl, rfl, hc, hu⟩ := o
  exact ⟨_, cr_sorted, ⟨p, ns, rfl, SqL.of h, few, fun ns' l h1 h2 n => q ns' l _ h1 h2 n (same_new n) upd_same⟩⟩
theorem v_sortS {p : Addr} {ks : SpL} (h : LSp H p ks) (q : ∀ (L : SpL) l H2, L.Perm ks → H l = none → Same H H2 → H2 l = some (.lst L.vs) → Q (.ref l) H2) : CallV P w K (.builtin "sorted") [.ref p] H Q :=
  by
  intro X o
  obtain ⟨rfl, rfl, rfl, hc, hu⟩ := o
  exact ⟨_, (cr_sortP (by omega)), ⟨p, ks, rfl, SqL.of h.1, h.2, fun l L n h1 => q L l _ h1 n (same_new n) upd_same⟩⟩
theorem v_sortO {p : Addr} {L : List (Addr × Sp2)} (h : H p = some (SetO w p L)) (hk : ∀ q ∈ L, SpA H q.1 q.2) (q : ∀ (L' : SpL) l H2, (∀ q ∈ L', q ∈ L) → L'.length = L.length → H l = none → Same H H2 → H2 l = some (.lst L'.vs) → Q (.ref l) H2) : CallV P w K (.builtin "sorted") [.ref p] H Q :=
  by
  intro X o
  obtain ⟨rfl, rfl, rfl, hc, hu⟩ := o
  exact ⟨_, (cr_sortO hc (by omega)), ⟨p, L, rfl, h, hk, fun l L' n h1 h2 => q L' l _ h1 h2 n (same_new n) upd_same⟩⟩
theorem v_maxD {p : Addr} {ns : List Int} {d : Int} (h : H p = some (.lst (ns.map V.int))) (q : Q (.int (mxd d ns)) H) : rMaxD K [.ref p] [.int d] H Q := ⟨p, ns, d, rfl, rfl, SqL.of h, q⟩
/-! isinstance -/
theorem v_isi {x : V} {n : String} {t : String} {b : Bool} (hx : TyOf K H x (.type t)) (hk : kitB t n = some b) (q : Q (.bl b) H) : CallV P w K (.builtin "isinstance") [x, .ty n] H Q := by
  intro X o
  obtain ⟨rfl, rfl, rfl, hc, hu⟩ := o
  exact ⟨_, call_isi, ⟨x, .ty n, _, _, b, rfl, .ty n, .base hx, kit_ty hk, q⟩⟩
theorem v_isiIB (q : Q (.bl false) H) : CallV P w K (.builtin "isinstance") [.int i, .ty "bool"] H Q := v_isi (.int i) (by decide +kernel) q
theorem v_isiII (q : Q (.bl true) H) : CallV P w K (.builtin "isinstance") [.int i, .ty "int"] H Q := v_isi (.int i) (by decide +kernel) q
theorem v_isiT {p : Addr} {xs : List V} (h : H p = some (.tup xs)) (q : Q (.bl true) H) : CallV P w K (.builtin "isinstance") [.ref p, .ty "tuple"] H Q := v_isi (.tup h) (by decide +kernel) q
theorem v_isiL {p : Addr} {xs : List V} (h : H p = some (.lst xs)) (q : Q (.bl true) H) : CallV P w K (.builtin "isinstance") [.ref p, .ty "list"] H Q := v_isi (.lst h) (by decide +kernel) q
theorem v_isiD {p : Addr} {o : Obj} {es : List DE} (h : H p = some (DicO P w p o es)) (q : Q (.bl true) H) : CallV P w K (.builtin "isinstance") [.ref p, .ty "dict"] H Q := by
  intro X o
  obtain ⟨rfl, rfl, rfl, hc, hu⟩ := o
  exact ⟨_, cr_isiD, ⟨p, o, es, rfl, h, q⟩⟩
/-! lists' methods -/
theorem lsV {p : Addr} {xs : List V} {R : Prop} (h : H p = some (.lst xs)) (q : R) : LsV (.ref p) H R := ⟨p, xs, rfl, h, q⟩
theorem v_app {p : Addr} {xs : List V} {y : V} (h : H p = some (.lst xs)) (hl : xs.length < sizeLine) (q : ∀ H2, Keep [p] H H2 → H2 p = some (.lst (xs ++ [y])) → Q .non H2) : MtV P w K "list.append" (.ref p) [y] H Q :=
  by
  intro X o
  obtain ⟨rfl, rfl, rfl, hc, hu⟩ := o
  exact ⟨_, mt_append, ⟨p, xs, y, rfl, rfl, h, hl, q _ (Keep.upd (List.mem_singleton.mpr rfl)) upd_same⟩⟩
theorem v_ext {p b : Addr} {xs zs : List V} (h : H p = some (.lst xs)) (hb : H b = some (.lst zs)) (hl : xs.length + zs.length ≤ sizeLine) (q : ∀ H2, Keep [p] H H2 → H2 p = some (.lst (xs ++ zs)) → Q .non H2) : MtV P w K "list.extend" (.ref p) [.ref b] H Q :=
  by
  intro X o
  obtain ⟨rfl, rfl, rfl, hc, hu⟩ := o
  exact ⟨_, mt_extend, ⟨p, b, xs, zs, rfl, rfl, h, hb, hl, q _ (Keep.upd (List.mem_singleton.mpr rfl)) upd_same⟩⟩
theorem v_pop0 {p : Addr} {x : V} {xs : List V} (h : H p = some (.lst (x :: xs))) (q : ∀ H2, Keep [p] H H2 → H2 p = some (.lst xs) → Q x H2) : MtV P w K "list.pop" (.ref p) [.int 0] H Q :=
  by
  intro X o
  obtain ⟨rfl, rfl, rfl, hc, hu⟩ := o
  exact ⟨_, mt_popAt, ⟨p, x :: xs, 0, 0, x, rfl, rfl, h, by decide, by decide, by unfold seqIndex?; simp, rfl, q _ (Keep.upd (List.mem_singleton.mpr rfl)) upd_same⟩⟩
theorem v_ins {p : Addr} {xs : List V} {y : V} (h : H p = some (.lst xs)) (hl : xs.length < sizeLine) (h0 : 0 ≤ i) (h1 : i < 2 ^ 63) (q : ∀ H2, Keep [p] H H2 → H2 p = some (.lst (xs.take i.toNat ++ [y] ++ xs.drop i.toNat)) → Q .non H2) : MtV P w K "list.insert" (.ref p) [.int i, y] H Q :=
  by
  intro X o
  obtain ⟨rfl, rfl, rfl, hc, hu⟩ := o
  exact ⟨_, mt_insert, ⟨p, xs, i, y, rfl, rfl, h, hl, h0, h1, q _ (Keep.upd (List.mem_singleton.mpr rfl)) upd_same⟩⟩
theorem v_rem {l a : Addr} {ks : SpL} {z : Sp2} (h : LSp H l ks) (ha : SpA H a z) (hz : z ∈ ks.zs) (q : ∀ (ks' : SpL) H2, ks'.zs = ks.zs.erase z → (∀ p ∈ ks', p ∈ ks) → Keep [l] H H2 → H2 l = some (.lst ks'.vs) → Q .non H2) : MtV P w K "list.remove" (.ref l) [.ref a] H Q :=
  by
  intro X o
  obtain ⟨rfl, rfl, rfl, hc, hu⟩ := o
  exact ⟨_, (mt_removeS (by omega)), ⟨l, a, ks, z, rfl, rfl, h, ha, hz, fun ks' h1 h2 => q ks' _ h1 h2 (Keep.upd (List.mem_singleton.mpr rfl)) upd_same⟩⟩
/-! sums of lists and tuples, slices -/
theorem v_cat {a b : Addr} {xs ys : List V} (ha : H a = some (.lst xs)) (hb : H b = some (.lst ys)) (hl : xs.length + ys.length ≤ sizeLine) (q : ∀ p H2, H p = none → Same H H2 → H2 p = some (.lst (xs ++ ys)) → Q (.ref p) H2) : OpV P w K (binaryOp .Add) (.ref a) (.ref b) H Q :=
  by
  intro X o
  obtain ⟨rfl, rfl, rfl, hc, hu⟩ := o
  exact ⟨_, op_cat, ⟨a, b, xs, ys, rfl, rfl, ha, hb, hl, fun p n => q p _ n (same_new n) upd_same⟩⟩
theorem v_catT {a b : Addr} {xs ys : List V} (ha : H a = some (.tup xs)) (hb : H b = some (.tup ys)) (hy : ys ≠ []) (hl : xs.length + ys.length ≤ sizeLine) (q : ∀ p H2, Same H H2 → H2 p = some (.tup (xs ++ ys)) → Q (.ref p) H2) : OpV P w K (binaryOp .Add) (.ref a) (.ref b) H Q := by
  intro X o
  obtain ⟨rfl, rfl, rfl, hc, hu⟩ := o
  exact ⟨_, op_catA, ⟨a, b, xs, ys, rfl, rfl, SqT.of ha, SqT.of hb, hl, fun e => by subst e; exact q b H (Same.refl H) hb, fun _ e => absurd e hy, fun _ _ p n => q p _ (same_new n) upd_same⟩⟩
theorem v_slL {p : Addr} {xs : List V} {lo hi : Option Int} (h : H p = some (.lst xs)) (q : ∀ l H2, H l = none → Same H H2 → H2 l = some (.lst (cutV xs lo hi)) → Q (.ref l) H2) : rSlL K (.ref p) lo hi H Q := ⟨p, xs, rfl, SqL.of h, fun l n => q l _ n (same_new n) upd_same⟩
theorem v_slS {p : Addr} {xs : List V} {lo hi : Option Int} (h : SqL K H p xs) (q : ∀ l H2, H l = none → Same H H2 → H2 l = some (.lst (cutV xs lo hi)) → Q (.ref l) H2) : rSlL K (.ref p) lo hi H Q := ⟨p, xs, rfl, h, fun l n => q l _ n (same_new n) upd_same⟩
/-! comparisons of pairs -/
theorem v_inS {a l : Addr} {z : Sp2} {ks : SpL} (ha : SpA H a z) (hl : LSp H l ks) (q : Q (.bl (decide (z ∈ ks.zs))) H) : OpV P w K (compareOp .In) (.ref a) (.ref l) H Q := by
  intro X o
  obtain ⟨rfl, rfl, rfl, hc, hu⟩ := o
  exact ⟨_, (op_inS (by omega)), ⟨a, z, l, ks, rfl, rfl, ha, hl, q⟩⟩
theorem v_ninS {a l : Addr} {z : Sp2} {ks : SpL} (ha : SpA H a z) (hl : LSp H l ks) (q : Q (.bl (!decide (z ∈ ks.zs))) H) : OpV P w K (compareOp .NotIn) (.ref a) (.ref l) H Q := by
  intro X o
  obtain ⟨rfl, rfl, rfl, hc, hu⟩ := o
  exact ⟨_, (op_notInS (by omega)), ⟨a, z, l, ks, rfl, rfl, ha, hl, q⟩⟩
theorem v_neS {a b : Addr} {z z' : Sp2} (ha : SpA H a z) (hb : SpA H b z') (q : Q (.bl (!decide (z = z'))) H) : OpV P w K (compareOp .NotEq) (.ref a) (.ref b) H Q := by
  intro X o
  obtain ⟨rfl, rfl, rfl, hc, hu⟩ := o
  exact ⟨_, (op_neS (by omega)), ⟨a, z, b, z', rfl, rfl, ha, hb, q⟩⟩
theorem v_eqE {l b : Addr} {ks : SpL} (hl : LSp H l ks) (hb : H b = some (.lst [])) (q : Q (.bl ks.isEmpty) H) : OpV P w K (compareOp .Eq) (.ref l) (.ref b) H Q := by
  intro X o
  obtain ⟨rfl, rfl, rfl, hc, hu⟩ := o
  exact ⟨_, (op_eqE (by omega)), ⟨l, ks, b, rfl, rfl, hl, hb, q⟩⟩
theorem v_neE {l b : Addr} {ks : SpL} (hl : LSp H l ks) (hb : H b = some (.lst [])) (q : Q (.bl (!ks.isEmpty)) H) : OpV P w K (compareOp .NotEq) (.ref l) (.ref b) H Q := by
  intro X o
  obtain ⟨rfl, rfl, rfl, hc, hu⟩ := o
  exact ⟨_, (op_neE (by omega)), ⟨l, ks, b, rfl, rfl, hl, hb, q⟩⟩
theorem v_eqI {l b : Addr} {ns ms : List Int} (hl : H l = some (.lst (ns.map V.int))) (hb : H b = some (.lst (ms.map V.int))) (q : Q (.bl (decide (ns = ms))) H) : OpV P w K (compareOp .Eq) (.ref l) (.ref b) H Q := by
  intro X o
  obtain ⟨rfl, rfl, rfl, hc, hu⟩ := o
  exact ⟨_, (op_eqI' (by omega)), ⟨l, ns, b, ms, rfl, rfl, hl, hb, q⟩⟩
theorem v_neI {l b : Addr} {ns ms : List Int} (hl : H l = some (.lst (ns.map V.int))) (hb : H b = some (.lst (ms.map V.int))) (q : Q (.bl (!decide (ns = ms))) H) : OpV P w K (compareOp .NotEq) (.ref l) (.ref b) H Q := by
  intro X o
  obtain ⟨rfl, rfl, rfl, hc, hu⟩ := o
  exact ⟨_, (op_neI' (by omega)), ⟨l, ns, b, ms, rfl, rfl, hl, hb, q⟩⟩
/-! tests -/
theorem iteDT {p A B : Prop} [Decidable p] (h : p) (a : A) : if decide p = true then A else B := by rw [if_pos (decide_eq_true h)]; exact a
theorem iteDF {p A B : Prop} [Decidable p] (h : ¬ p) (b : B) : if decide p = true then A else B := by
  rw [decide_eq_false h, if_neg Bool.false_ne_true]
  exact b
theorem iteD {p A B : Prop} [Decidable p] (a : p → A) (b : ¬ p → B) : if decide p = true then A else B := by
  by_cases h : p
  · exact iteDT h (a h)
  · exact iteDF h (b h)
theorem iteND {p A B : Prop} [Decidable p] (a : ¬ p → A) (b : p → B) : if (!decide p) = true then A else B := by
  by_cases h : p
  · rw [decide_eq_true h]
    exact iteF (b h)
  · rw [decide_eq_false h]
    exact iteT (a h)
theorem xB {b : Bool} {R : Bool → Prop} (q : R b) : ∃ k, V.bl b = .bl k ∧ R k := ⟨b, rfl, q⟩
theorem xI {R : Int → Prop} (q : R i) : ∃ k, V.int i = .int k ∧ R k := ⟨i, rfl, q⟩
end
end
section
set_option maxHeartbeats 4000000
section
variable {P : Program} {w : World} {K : PySem.W.Frag} {X : Cx} {t : TA} {e e2 e3 : Expr} {p pos tpos cpos apos : Pos} {elts : List Expr} {kk : Nat} {te : TE} {tg : Expr}
theorem pi_zip3Z (o : Of P w K X) (hg : Gl X "zip") (hm : X.mg "zip" = none) (ha : PA X [e, e2, e3] t)
    (hs : starEach [e, e2, e3] X.env = (false, eval e X.env) :: starEach [e2, e3] X.env := by rfl) (hpl : (backTo pos (starEach [e2, e3] X.env)).any (·.1) = false := by rfl) :
    PI X (.Tuple elts kk tpos) (.Call (.Name "zip" p) [e, e2, e3] [] pos) (iZip3 K t) := by
  obtain ⟨rfl, rfl, rfl, hc, hu⟩ := o
  exact pi_zip3 hg hm ha hs hpl
theorem pi_zipTLZ (o : Of P w K X) (hg : Gl X "zip") (hm : X.mg "zip" = none) (ha : PA X [e, e2] t)
    (hs : starEach [e, e2] X.env = (false, eval e X.env) :: starEach [e2] X.env := by rfl) (hpl : (backTo pos (starEach [e2] X.env)).any (·.1) = false := by rfl) :
    PI X (.Tuple elts kk tpos) (.Call (.Name "zip" p) [e, e2] [] pos) (iZipTL K t) := by
  obtain ⟨rfl, rfl, rfl, hc, hu⟩ := o
  exact pi_zipTL hg hm ha hs hpl
theorem pi_valsDZ (o : Of P w K X) (he : PE X e te) (hbase : attributeBase e "values" X.env (eval e X.env) = eval e X.env := by rfl) (hline : (apos.endLine == cpos.line) = true := by rfl) : PI X tg (.Call (.Attribute e "values" apos) [] [] cpos) (iValsD P w te) := by
  obtain ⟨rfl, rfl, rfl, hc, hu⟩ := o
  exact pi_valsD he hbase hline
theorem cr_maxDZ (o : Of P w K X) : CallRK X (.builtin "max") [Str.ofString "default"] (rMaxD K) := by
  obtain ⟨rfl, rfl, rfl, hc, hu⟩ := o
  exact cr_maxD hc (by omega)
theorem Of.hu1 (o : Of P w K X) : X.A.units + 1 < cLine := by have := o.hu; omega
theorem Of.hu64 (o : Of P w K X) : X.A.units + 64 < cLine := by have := o.hu; omega
end
/-! ### built-ins by their names -/
theorem b_len : bootBuiltins "len" = some (.builtin "len") := by decide +kernel
theorem b_max : bootBuiltins "max" = some (.builtin "max") := by decide +kernel
theorem b_min : bootBuiltins "min" = some (.builtin "min") := by decide +kernel
theorem b_sum : bootBuiltins "sum" = some (.builtin "sum") := by decide +kernel
theorem b_all : bootBuiltins "all" = some (.builtin "all") := by decide +kernel
theorem b_sorted : bootBuiltins "sorted" = some (.builtin "sorted") := by decide +kernel
theorem b_isinstance : bootBuiltins "isinstance" = some (.builtin "isinstance") := by decide +kernel
theorem b_set : bootBuiltins "set" = some (.type "set") := by decide +kernel
theorem b_list : bootBuiltins "list" = some (.type "list") := by decide +kernel
theorem b_dict : bootBuiltins "dict" = some (.type "dict") := by decide +kernel
theorem b_tuple : bootBuiltins "tuple" = some (.type "tuple") := by decide +kernel
theorem b_int : bootBuiltins "int" = some (.type "int") := by decide +kernel
theorem b_bool : bootBuiltins "bool" = some (.type "bool") := by decide +kernel
/-! ### a def keeps its promise -/
abbrev cx (P : Program) (w : World) (K : PySem.W.Frag) (mg : Str → Option Value) (base : Heap) (N : List Str) (d : DefE) (A : Around) (outer : List Env) (s : Shared) (H : Hp) (E : XK) : Cx :=
  (cxOf C8.CX0 P w K mg base N d.qual (C8.fnScope d.st) d.at_ (.ref d.code) A outer s H E).nox
abbrev BindsD (d : DefE) (ps : List Str) : Prop := ∀ (doc pm : Value) (an : Option Addr) (ct : Value) (us : List Value), us.length = ps.length → bindArgs (PySem.W.fnOf (nmOf d.st) d.qual (C8.fnArgs d.st) (C8.fnBody d.st) (C8.fnScope d.st) .none .none doc pm an (.ref d.code) ct) ⟨us, []⟩ = pure (ps.zip us)
section
variable {P : Program} {w : World} {K : PySem.W.Frag} {mg : Str → Option Value} {base : Heap}
theorem of_room {k : Nat} {N : List Str} {d : DefE} {A : Around} {outer : List Env} {s : Shared} {H : Hp} {E : XK} (hr : Room k (cx P w K mg base N d A outer s H E).A) : Of P w K (cx P w K mg base N d A outer s H E) := ⟨rfl, rfl, rfl, rfl, by have := hr.un; omega⟩
theorem fn_by {d : DefE} {N ps : List Str} {k : Nat} {sp : Sp} (D : d.says K) (S : FnScope N ps (C8.fnScope d.st)) (len : ∀ vs H Q E, sp vs H Q E → vs.length = ps.length)
    (hbody : ∀ (A : Around) (outer : List Env) (s : Shared) (H : Hp) (vs : List V) (Q : VK) (E : XK), Room k (cx P w K mg base N d A outer s H E).A → Of P w K (cx P w K mg base N d A outer s H E) → sp vs H Q E →
      ∃ t, PSs (cx P w K mg base N d A outer s H E) (C8.fnBody d.st) t ∧ t { nx := fun _ H' => Q .non H', rt := Q } (L2.start N vs) H) : ∃ fd : FuncData, FnOk P w K mg base C8.CX0 (k + 1) d.at_ fd ps sp ∧ (BindsD d ps → Binds K fd ps []) := by
  obtain ⟨⟨oc, od, doc, pm, an, ct, osl, lk, hcd⟩, kp⟩ := D
  refine ⟨_, fn_of lk hcd S len fun A outer s H vs Q E hr hsp => ?_, fun b => .all (b doc pm an ct)⟩
  obtain ⟨t, h, q⟩ := hbody A outer s H vs Q E hr (of_room hr) hsp
  exact ⟨t, h.nox, q⟩
theorem cal_by {x : Str} {d : DefE} {N ps : List Str} {k : Nat} {sp : Sp} (D : d.says K) (hg : mg x = some (.ref d.at_)) (S : FnScope N ps (C8.fnScope d.st)) (b : BindsD d ps) (len : ∀ vs H Q E, sp vs H Q E → vs.length = ps.length)
    (hbody : ∀ (A : Around) (outer : List Env) (s : Shared) (H : Hp) (vs : List V) (Q : VK) (E : XK), Room k (cx P w K mg base N d A outer s H E).A → Of P w K (cx P w K mg base N d A outer s H E) → sp vs H Q E →
      ∃ t, PSs (cx P w K mg base N d A outer s H E) (C8.fnBody d.st) t ∧ t { nx := fun _ H' => Q .non H', rt := Q } (L2.start N vs) H) : C8.Cal P w K mg base (k + 1) x sp [] := by
  obtain ⟨fd, F, hb⟩ := fn_by D S len hbody
  exact ⟨d.at_, fd, ps, [], F, hg, D.2, hb b, .nil⟩
theorem met_by {m : Str} {C : Addr} {d : DefE} {N ps : List Str} {k : Nat} {sp : Sp} (D : d.says K) (c : Cls K C) (me : Meth K C m d.at_) (S : FnScope N ps (C8.fnScope d.st)) (b : BindsD d ps) (len : ∀ vs H Q E, sp vs H Q E → vs.length = ps.length)
    (hbody : ∀ (A : Around) (outer : List Env) (s : Shared) (H : Hp) (vs : List V) (Q : VK) (E : XK), Room k (cx P w K mg base N d A outer s H E).A → Of P w K (cx P w K mg base N d A outer s H E) → sp vs H Q E →
      ∃ t, PSs (cx P w K mg base N d A outer s H E) (C8.fnBody d.st) t ∧ t { nx := fun _ H' => Q .non H', rt := Q } (L2.start N vs) H) : C8.Met P w K mg base (k + 1) C m sp [] := by
  obtain ⟨fd, F, hb⟩ := fn_by D S len hbody
  exact ⟨d.at_, fd, ps, [], c, me, F, hb b, .nil⟩
theorem mak_by {x : Str} {C : Addr} {d : DefE} {N ps : List Str} {k : Nat} {sp : Sp} (D : d.says K) (M : Mk K C d.at_) (hg : mg x = some (.ref C)) (S : FnScope N ps (C8.fnScope d.st)) (b : BindsD d ps) (len : ∀ vs H Q E, sp vs H Q E → vs.length = ps.length)
    (hbody : ∀ (A : Around) (outer : List Env) (s : Shared) (H : Hp) (vs : List V) (Q : VK) (E : XK), Room k (cx P w K mg base N d A outer s H E).A → Of P w K (cx P w K mg base N d A outer s H E) → sp vs H Q E →
      ∃ t, PSs (cx P w K mg base N d A outer s H E) (C8.fnBody d.st) t ∧ t { nx := fun _ H' => Q .non H', rt := Q } (L2.start N vs) H) : C8.Mak P w K mg base (k + 1) x C sp [] := by
  obtain ⟨fd, F, hb⟩ := fn_by D S len hbody
  exact ⟨d.at_, fd, ps, [], M, F, hg, hb b, .nil⟩
end
end
section
set_option maxHeartbeats 4000000
section
variable {P : Program} {w : World} {K : PySem.W.Frag} {σ : L2.St} {H : Hp} {Q : VK} {D : Ends} {ta : TA} {te : TE} {g : TG} {tb : TS} {tt : TT}
/-! ### what a for walks, what a comprehension walks: leaves -/
abbrev ForJ (g : TG) (tb : TS) (D : Ends) (σ : L2.St) : It → Hp → Prop := fun J H1 => ∃ W : Nat → Nat → L2.St → Hp → Prop, (∃ m, W 0 m σ H1) ∧ ∀ i m σ H, W i m σ H →
  (J.stop i H ∧ D.nx σ H) ∨ (J.go i H ∧ ∃ N : L2.St → Hp → Prop, (∀ σ' H', N σ' H' → ∃ m', m' < m ∧ W (i + 1) m' σ' H') ∧ ∀ x H', J.yld i H x H' → g x σ H' fun σ2 H2 => tb { D with nx := N, ct := N, bk := D.nx } σ2 H2)
abbrev LcJ (g : TG) (tt : TT) (te : TE) (vs : List Nat) (σ : L2.St) (Q : VK) : It → Hp → Prop := fun J H1 => ∀ D, H1 D = none → ∃ W : Nat → Nat → Hp → Prop, (∃ m, W 0 m (upd H1 D (.lst []))) ∧ ∀ i m H, W i m H →
  (J.stop i H ∧ Q (.ref D) H) ∨ (J.go i H ∧ ∃ Nx : Hp → Prop, (∀ H', Nx H' → ∃ m', m' < m ∧ W (i + 1) m' H') ∧ ∀ x H', J.yld i H x H' → g x (wipe σ vs) H' fun σ2 H2 => wipe σ2 vs = wipe σ vs ∧ tt σ2 H2 fun b H3 =>
    if b = true then te σ2 H3 fun y H4 => ∃ acc, H4 D = some (.lst acc) ∧ acc.length < sizeLine ∧ Nx (upd H4 D (.lst (acc ++ [y]))) else Nx H3)
theorem c_for {wi : TI} (q : wi σ H (ForJ g tb D σ)) : tFor wi g tb D σ H := q
theorem c_lc {wi : TI} {vs : List Nat} (q : wi σ H (LcJ g tt te vs σ Q)) : tLc wi g tt te vs σ H Q := q
/-! iterables by values: J with its walk -/
def ItL (K : PySem.W.Frag) (x : V) (H : Hp) (R : It → Hp → Prop) : Prop := ∃ a, x = .ref a ∧ (∃ xs, SqL K H a xs) ∧ R (Itl K a) H
def ItT (K : PySem.W.Frag) (x : V) (H : Hp) (R : It → Hp → Prop) : Prop := ∃ a, x = .ref a ∧ (∃ xs, SqT K H a xs) ∧ R (Itt K a) H
def ItR (vs : List V) (H : Hp) (R : It → Hp → Prop) : Prop := ∃ j : Int, vs = [.int j] ∧ -(2 ^ 62) ≤ j ∧ j < 2 ^ 62 ∧ R (Itr 0 j.toNat) H
def ItR2 (vs : List V) (H : Hp) (R : It → Hp → Prop) : Prop := ∃ i j : Int, vs = [.int i, .int j] ∧ (-(2 ^ 62) ≤ i ∧ i < 2 ^ 62 ∧ -(2 ^ 62) ≤ j ∧ j < 2 ^ 62) ∧ R (Itr i (j - i).toNat) H
variable {R : It → Hp → Prop}
theorem c_iL (q : te σ H fun x H1 => ItL K x H1 R) : iList K te σ H R := q
theorem c_iT (q : te σ H fun x H1 => ItT K x H1 R) : iTup K te σ H R := q
theorem c_iR (q : ta σ H fun vs H1 => ItR vs H1 R) : iRng1 ta σ H R := q
theorem c_iR2 (q : ta σ H fun vs H1 => ItR2 vs H1 R) : iRng2 ta σ H R := q
def ItE (K : PySem.W.Frag) (vs : List V) (H : Hp) (R : It → Hp → Prop) : Prop := ∃ a xs, vs = [.ref a] ∧ SqL K H a xs ∧ R (Ite K a) H
theorem c_iE (q : ta σ H fun vs H1 => ItE K vs H1 R) : iEnum K ta σ H R := q
def ItZ (K : PySem.W.Frag) (vs : List V) (H : Hp) (R : It → Hp → Prop) : Prop := ∃ a b xs ys, vs = [.ref a, .ref b] ∧ SqL K H a xs ∧ SqL K H b ys ∧ R (Itz K a b) H
theorem c_iZ (q : ta σ H fun vs H1 => ItZ K vs H1 R) : iZip K ta σ H R := q
def ItZTL (K : PySem.W.Frag) (vs : List V) (H : Hp) (R : It → Hp → Prop) : Prop := ∃ a b xs ys, vs = [.ref a, .ref b] ∧ SqT K H a xs ∧ SqL K H b ys ∧ R (ItTL K a b) H
theorem c_iZTL (q : ta σ H fun vs H1 => ItZTL K vs H1 R) : iZipTL K ta σ H R := q
def ItZ3 (K : PySem.W.Frag) (vs : List V) (H : Hp) (R : It → Hp → Prop) : Prop := ∃ a b d xs ys zs, vs = [.ref a, .ref b, .ref d] ∧ SqL K H a xs ∧ SqT K H b ys ∧ SqT K H d zs ∧ R (It3 K a b d) H
theorem c_iZ3 (q : ta σ H fun vs H1 => ItZ3 K vs H1 R) : iZip3 K ta σ H R := q
def ItVD (P : Program) (w : World) (x : V) (H : Hp) (R : It → Hp → Prop) : Prop := ∃ d o xs, x = .ref d ∧ H d = some (DicO P w d o xs) ∧ R (ItV P w d o xs) H
theorem c_iVD (q : te σ H fun x H1 => ItVD P w x H1 R) : iValsD P w te σ H R := q
theorem itL {a : Addr} {xs : List V} (h : H a = some (.lst xs)) (q : R (Itl K a) H) : ItL K (.ref a) H R := ⟨a, rfl, ⟨xs, SqL.of h⟩, q⟩
theorem itLs {a : Addr} {xs : List V} (h : SqL K H a xs) (q : R (Itl K a) H) : ItL K (.ref a) H R := ⟨a, rfl, ⟨xs, h⟩, q⟩
theorem itT {a : Addr} {xs : List V} (h : H a = some (.tup xs)) (q : R (Itt K a) H) : ItT K (.ref a) H R := ⟨a, rfl, ⟨xs, SqT.of h⟩, q⟩
theorem itR {j : Int} (h0 : 0 ≤ j) (h1 : j < 2 ^ 62) (q : R (Itr 0 j.toNat) H) : ItR [.int j] H R := ⟨j, rfl, by omega, h1, q⟩
theorem itR2 {i j : Int} (h : -(2 ^ 62) ≤ i ∧ i < 2 ^ 62 ∧ -(2 ^ 62) ≤ j ∧ j < 2 ^ 62) (q : R (Itr i (j - i).toNat) H) : ItR2 [.int i, .int j] H R := ⟨i, j, rfl, h, q⟩
theorem itE {a : Addr} {xs : List V} (h : H a = some (.lst xs)) (q : R (Ite K a) H) : ItE K [.ref a] H R := ⟨a, xs, rfl, SqL.of h, q⟩
theorem itZ {a b : Addr} {xs ys : List V} (h : H a = some (.lst xs)) (h' : H b = some (.lst ys)) (q : R (Itz K a b) H) : ItZ K [.ref a, .ref b] H R := ⟨a, b, xs, ys, rfl, SqL.of h, SqL.of h', q⟩
theorem itZTL {a b : Addr} {xs ys : List V} (h : H a = some (.tup xs)) (h' : H b = some (.lst ys)) (q : R (ItTL K a b) H) : ItZTL K [.ref a, .ref b] H R := ⟨a, b, xs, ys, rfl, SqT.of h, SqL.of h', q⟩
theorem itZ3 {a b d : Addr} {xs ys zs : List V} (h : H a = some (.lst xs)) (h' : H b = some (.tup ys)) (h'' : H d = some (.tup zs)) (q : R (It3 K a b d) H) : ItZ3 K [.ref a, .ref b, .ref d] H R := ⟨a, b, d, xs, ys, zs, rfl, SqL.of h, SqT.of h', SqT.of h'', q⟩
theorem itVD {d : Addr} {o : Obj} {xs : List DE} (h : H d = some (DicO P w d o xs)) (q : R (ItV P w d o xs) H) : ItVD P w (.ref d) H R := ⟨d, o, xs, rfl, h, q⟩
/-! ### a for over a walk -/
theorem forZ {J : It} {n : Nat} {G : Hp → Prop} {Y : Nat → Hp → V → Hp → Prop} (wk : Walk J n G Y) (Pv : Nat → L2.St → Hp → Prop) (h0 : Pv 0 σ H) (hG : ∀ i σ H, i ≤ n → Pv i σ H → G H)
    (hs : ∀ i x σ H H', i < n → Pv i σ H → Y i H x H' → g x σ H' fun σ2 H2 => tb { D with nx := Pv (i + 1), ct := Pv (i + 1), bk := D.nx } σ2 H2) (hd : ∀ σ H, Pv n σ H → D.nx σ H) : ForJ g tb D σ J H := for_it wk Pv h0 hG hs hd
theorem wl {a : Addr} {xs : List V} : Walk (Itl K a) xs.length (fun H => H a = some (.lst xs)) (YAt xs) := walk_list.mono (fun H h => SqL.of h) fun _ _ _ _ _ _ y => y
theorem wls {a : Addr} {xs : List V} : Walk (Itl K a) xs.length (fun H => SqL K H a xs) (YAt xs) := walk_list
theorem wt {a : Addr} {xs : List V} : Walk (Itt K a) xs.length (fun H => H a = some (.tup xs)) (YAt xs) := walk_tup.mono (fun H h => SqT.of h) fun _ _ _ _ _ _ y => y
theorem we {a : Addr} {xs : List V} : Walk (Ite K a) xs.length (fun H => H a = some (.lst xs)) (YPair (fun i => some (.int (i : Nat))) (fun i => xs[i]?)) := walk_enum.mono (fun H h => SqL.of h) fun _ _ _ _ _ _ y => y
theorem wz {a b : Addr} {xs ys : List V} {n : Nat} (hn : n = min xs.length ys.length) : Walk (Itz K a b) n (fun H => H a = some (.lst xs) ∧ H b = some (.lst ys)) (YPair (fun i => xs[i]?) (fun i => ys[i]?)) := (walk_zip hn).mono (fun H h => ⟨SqL.of h.1, SqL.of h.2⟩) fun _ _ _ _ _ _ y => y
end
/-! ### the monotone closures of targets and tests -/
def mnG (g : TG) : TG := fun v σ H Q => ∃ Q' : L2.St → Hp → Prop, g v σ H Q' ∧ ∀ σ' H', Q' σ' H' → Q σ' H'
def mnT (t : TT) : TT := fun σ H Q => ∃ Q' : Bool → Hp → Prop, t σ H Q' ∧ ∀ b H', Q' b H' → Q b H'
theorem pg_mn {X : Cx} {e : Expr} {g : TG} (h : PG X e g) : PG X e (mnG g) := ⟨fun pins s σ H v u Q I r ⟨Q', q, k⟩ => thn (h.run pins s σ H v u Q' I r q) fun _ s1 ⟨σ', H', I', q'⟩ => ⟨σ', H', I', k _ _ q'⟩⟩
theorem pts_mn {X : Cx} {es : List Expr} {t : TT} (h : PTs X es t) : PTs X es (mnT t) := ⟨fun pins s σ H Q I ⟨Q', q, k⟩ => thn (h.run pins s σ H Q' I q) fun b s1 ⟨H', I', q'⟩ => ⟨H', I', k _ _ q'⟩⟩
theorem pt_mn {X : Cx} {e : Expr} {t : TT} (h : PT X e t) : PT X e (mnT t) := ⟨fun pins s σ H Q I ⟨Q', q, k⟩ => thn (h.run pins s σ H Q' I q) fun b s1 ⟨H', I', q'⟩ => ⟨H', I', k _ _ q'⟩⟩
section
variable {σ : L2.St} {H : Hp} {Q : VK} {te : TE} {g : TG} {tt : TT}
/-! ### a comprehension over a walk: D the new list; S the objects that its steps may change -/
theorem lcZ {J : It} {n : Nat} {G : Hp → Prop} {Y : Nat → Hp → V → Hp → Prop} {vs : List Nat} (wk : Walk J n G Y) (S : List Addr) (R : Addr → Nat → List V → Hp → Prop) (hn : n < sizeLine) (hG : ∀ H', Keep S H H' → G H')
    (h0 : ∀ D H', H D = none → Same H H' → H' D = some (.lst []) → R D 0 [] H')
    (hs : ∀ D i x acc H1 H2, H D = none → i < n → acc.length ≤ i → Keep S H H1 → H1 D = some (.lst acc) → R D i acc H1 → Y i H1 x H2 → g x (wipe σ vs) H2 fun σ3 H3 => wipe σ3 vs = wipe σ vs ∧ tt σ3 H3 fun b H4 =>
      if b = true then te σ3 H4 fun y H5 => H5 D = some (.lst acc) ∧ Keep S H H5 ∧ ∀ H6, Keep [D] H5 H6 → H6 D = some (.lst (acc ++ [y])) → R D (i + 1) (acc ++ [y]) H6 else H4 D = some (.lst acc) ∧ Keep S H H4 ∧ R D (i + 1) acc H4)
    (hd : ∀ D acc H', H D = none → acc.length ≤ n → Keep S H H' → H' D = some (.lst acc) → R D n acc H' → Q (.ref D) H') : LcJ (mnG g) (mnT tt) (mnE te) vs σ Q J H := by
  intro D nD
  refine lc_it wk (fun i H1 => ∃ acc, acc.length ≤ i ∧ Keep S H H1 ∧ H1 D = some (.lst acc) ∧ R D i acc H1) ⟨[], Nat.le_refl _, Keep.of (same_new nD), upd_same, h0 D _ nD (same_new nD) upd_same⟩ (fun i H1 _ ⟨acc, _, k, _, _⟩ => hG H1 k) (fun i x H1 H2 hi ⟨acc, hl, k, hD, r⟩ y => ?_)
    (fun H1 ⟨acc, hl, k, hD, r⟩ => hd D acc H1 nD hl k hD r)
  refine ⟨_, hs D i x acc H1 H2 nD hi hl k hD r y, fun σ3 H3 ⟨e, q⟩ => ⟨e, _, q, fun b H4 q2 => ?_⟩⟩
  cases b with
  | true =>
    rw [if_pos rfl] at q2 ⊢
    refine ⟨_, q2, fun y' H5 ⟨h5, k5, r5⟩ => ⟨acc, h5, by omega, acc ++ [y'], by rw [List.length_append]; show acc.length + 1 ≤ i + 1; omega, fun b o e n => ?_, upd_same, r5 _ (Keep.upd (List.mem_singleton.mpr rfl)) upd_same⟩⟩
    rw [upd_ne (ne_of_none e nD)]
    exact k5 b o e n
  | false =>
    rw [if_neg Bool.false_ne_true] at q2 ⊢
    obtain ⟨h4, k4, r4⟩ := q2
    exact ⟨acc, by omega, k4, h4, r4⟩
/-- a while, by a word and a measure: the word may tell any number -/
theorem whileZ {c : TT} {tb : TS} {D : Ends} (Pv : Nat → L2.St → Hp → Prop) (m : Nat) (h0 : Pv m σ H)
    (hs : ∀ m σ H, Pv m σ H → c σ H fun b H1 => if b = true then ∃ N : L2.St → Hp → Prop, (∀ σ' H', N σ' H' → ∃ m', m' < m ∧ Pv m' σ' H') ∧ tb { D with nx := N, ct := N, bk := D.nx } σ H1 else D.nx σ H1) : tWhile c tb D σ H :=
  ⟨Pv, ⟨m, h0⟩, hs⟩
end
end
section
set_option maxHeartbeats 4000000
theorem len_putF {f : Str} {v : V} : ∀ {fs : List (Str × V)}, (putF f v fs).length ≤ fs.length + 1
  | [] => Nat.le_refl _
  | (g, u) :: r => by
    unfold putF
    split
    · exact Nat.le_succ _
    · exact Nat.succ_le_succ len_putF
section
variable {K : PySem.W.Frag} {mg : Str → Option Value} {H : Hp} {Q : VK} {R : Prop} {S : Hp → Prop} {g dx : Addr} {y : V}
abbrev fs0_Rim  : List (Str × V) := []
theorem ll0_Rim  : (fs0_Rim ).length ≤ 0 := Nat.le_refl _
abbrev fs1_Rim (v0 : V) : List (Str × V) := (putF "size" v0 [])
theorem ll1_Rim {v0 : V} : (fs1_Rim v0).length ≤ 1 := Nat.le_trans len_putF (Nat.succ_le_succ ll0_Rim)
abbrev o_Rim (dx : Addr) (v0 : V) : HO := .ins 161 dx (fs1_Rim v0)
theorem fl_Rim_size {v0 : V} (T : Txt K mg) (h : H g = some (o_Rim dx v0)) (q : Q v0 H) : FldV K (.ref g) "size" H Q := ⟨g, 161, dx, _, _, rfl, h, c_Rim T, n_Rim_size T, (by kernel_rfl), q⟩
theorem st_Rim_size  (T : Txt K mg) (h : H g = some (.ins 161 dx (fs0_Rim ))) (q : ∀ H2, Keep [g] H H2 → H2 g = some (.ins 161 dx (fs1_Rim  y)) → S H2) : FldS K (.ref g) "size" y H S := ⟨g, 161, dx, _, rfl, h, c_Rim T, n_Rim_size T, (Nat.lt_of_le_of_lt ll0_Rim (by decide)), q _ (Keep.upd (List.mem_singleton.mpr rfl)) upd_same⟩
theorem rc_Rim_at_number {v0 : V} (h : H g = some (o_Rim dx v0)) (q : R) : RecV 161 "at_number" (.ref g) H R := ⟨g, dx, _, rfl, h, (by kernel_rfl), q⟩
abbrev fs0_MirrorRim  : List (Str × V) := []
theorem ll0_MirrorRim  : (fs0_MirrorRim ).length ≤ 0 := Nat.le_refl _
abbrev fs1_MirrorRim (v0 : V) : List (Str × V) := (putF "size" v0 [])
theorem ll1_MirrorRim {v0 : V} : (fs1_MirrorRim v0).length ≤ 1 := Nat.le_trans len_putF (Nat.succ_le_succ ll0_MirrorRim)
abbrev o_MirrorRim (dx : Addr) (v0 : V) : HO := .ins 182 dx (fs1_MirrorRim v0)
theorem fl_MirrorRim_size {v0 : V} (T : Txt K mg) (h : H g = some (o_MirrorRim dx v0)) (q : Q v0 H) : FldV K (.ref g) "size" H Q := ⟨g, 182, dx, _, _, rfl, h, c_MirrorRim T, n_MirrorRim_size T, (by kernel_rfl), q⟩
theorem st_MirrorRim_size  (T : Txt K mg) (h : H g = some (.ins 182 dx (fs0_MirrorRim ))) (q : ∀ H2, Keep [g] H H2 → H2 g = some (.ins 182 dx (fs1_MirrorRim  y)) → S H2) : FldS K (.ref g) "size" y H S := ⟨g, 182, dx, _, rfl, h, c_MirrorRim T, n_MirrorRim_size T, (Nat.lt_of_le_of_lt ll0_MirrorRim (by decide)), q _ (Keep.upd (List.mem_singleton.mpr rfl)) upd_same⟩
theorem rc_MirrorRim_at_number {v0 : V} (h : H g = some (o_MirrorRim dx v0)) (q : R) : RecV 182 "at_number" (.ref g) H R := ⟨g, dx, _, rfl, h, (by kernel_rfl), q⟩
abbrev fs0_FixedRim  : List (Str × V) := []
theorem ll0_FixedRim  : (fs0_FixedRim ).length ≤ 0 := Nat.le_refl _
abbrev fs1_FixedRim (v0 : V) : List (Str × V) := (putF "size" v0 [])
theorem ll1_FixedRim {v0 : V} : (fs1_FixedRim v0).length ≤ 1 := Nat.le_trans len_putF (Nat.succ_le_succ ll0_FixedRim)
abbrev fs2_FixedRim (v0 v1 : V) : List (Str × V) := (putF "beyond" v1 (putF "size" v0 []))
theorem ll2_FixedRim {v0 v1 : V} : (fs2_FixedRim v0 v1).length ≤ 2 := Nat.le_trans len_putF (Nat.succ_le_succ ll1_FixedRim)
abbrev o_FixedRim (dx : Addr) (v0 v1 : V) : HO := .ins 208 dx (fs2_FixedRim v0 v1)
theorem fl_FixedRim_size {v0 v1 : V} (T : Txt K mg) (h : H g = some (o_FixedRim dx v0 v1)) (q : Q v0 H) : FldV K (.ref g) "size" H Q := ⟨g, 208, dx, _, _, rfl, h, c_FixedRim T, n_FixedRim_size T, (by kernel_rfl), q⟩
theorem st_FixedRim_size  (T : Txt K mg) (h : H g = some (.ins 208 dx (fs0_FixedRim ))) (q : ∀ H2, Keep [g] H H2 → H2 g = some (.ins 208 dx (fs1_FixedRim  y)) → S H2) : FldS K (.ref g) "size" y H S := ⟨g, 208, dx, _, rfl, h, c_FixedRim T, n_FixedRim_size T, (Nat.lt_of_le_of_lt ll0_FixedRim (by decide)), q _ (Keep.upd (List.mem_singleton.mpr rfl)) upd_same⟩
theorem fl_FixedRim_beyond {v0 v1 : V} (T : Txt K mg) (h : H g = some (o_FixedRim dx v0 v1)) (q : Q v1 H) : FldV K (.ref g) "beyond" H Q := ⟨g, 208, dx, _, _, rfl, h, c_FixedRim T, n_FixedRim_beyond T, (by kernel_rfl), q⟩
theorem st_FixedRim_beyond {v0 : V} (T : Txt K mg) (h : H g = some (.ins 208 dx (fs1_FixedRim v0))) (q : ∀ H2, Keep [g] H H2 → H2 g = some (.ins 208 dx (fs2_FixedRim v0 y)) → S H2) : FldS K (.ref g) "beyond" y H S := ⟨g, 208, dx, _, rfl, h, c_FixedRim T, n_FixedRim_beyond T, (Nat.lt_of_le_of_lt ll1_FixedRim (by decide)), q _ (Keep.upd (List.mem_singleton.mpr rfl)) upd_same⟩
theorem rc_FixedRim_at_number {v0 v1 : V} (h : H g = some (o_FixedRim dx v0 v1)) (q : R) : RecV 208 "at_number" (.ref g) H R := ⟨g, dx, _, rfl, h, (by kernel_rfl), q⟩
abbrev fs0_Number  : List (Str × V) := []
theorem ll0_Number  : (fs0_Number ).length ≤ 0 := Nat.le_refl _
abbrev fs1_Number (v0 : V) : List (Str × V) := (putF "value" v0 [])
theorem ll1_Number {v0 : V} : (fs1_Number v0).length ≤ 1 := Nat.le_trans len_putF (Nat.succ_le_succ ll0_Number)
abbrev o_Number (dx : Addr) (v0 : V) : HO := .ins 326 dx (fs1_Number v0)
theorem fl_Number_value {v0 : V} (T : Txt K mg) (h : H g = some (o_Number dx v0)) (q : Q v0 H) : FldV K (.ref g) "value" H Q := ⟨g, 326, dx, _, _, rfl, h, c_Number T, n_Number_value T, (by kernel_rfl), q⟩
theorem st_Number_value  (T : Txt K mg) (h : H g = some (.ins 326 dx (fs0_Number ))) (q : ∀ H2, Keep [g] H H2 → H2 g = some (.ins 326 dx (fs1_Number  y)) → S H2) : FldS K (.ref g) "value" y H S := ⟨g, 326, dx, _, rfl, h, c_Number T, n_Number_value T, (Nat.lt_of_le_of_lt ll0_Number (by decide)), q _ (Keep.upd (List.mem_singleton.mpr rfl)) upd_same⟩
theorem rc_Number_below {v0 : V} (h : H g = some (o_Number dx v0)) (q : R) : RecV 326 "below" (.ref g) H R := ⟨g, dx, _, rfl, h, (by kernel_rfl), q⟩
theorem rc_Number_value_by {v0 : V} (h : H g = some (o_Number dx v0)) (q : R) : RecV 326 "value_by" (.ref g) H R := ⟨g, dx, _, rfl, h, (by kernel_rfl), q⟩
theorem rc_Number_own_take {v0 : V} (h : H g = some (o_Number dx v0)) (q : R) : RecV 326 "own_take" (.ref g) H R := ⟨g, dx, _, rfl, h, (by kernel_rfl), q⟩
theorem rc_Number_own_wrong {v0 : V} (h : H g = some (o_Number dx v0)) (q : R) : RecV 326 "own_wrong" (.ref g) H R := ⟨g, dx, _, rfl, h, (by kernel_rfl), q⟩
theorem rc_Number_first_wrong {v0 : V} (h : H g = some (o_Number dx v0)) (q : R) : RecV 326 "first_wrong" (.ref g) H R := ⟨g, dx, _, rfl, h, (by kernel_rfl), q⟩
theorem rc_Number_takes {v0 : V} (h : H g = some (o_Number dx v0)) (q : R) : RecV 326 "takes" (.ref g) H R := ⟨g, dx, _, rfl, h, (by kernel_rfl), q⟩
theorem rc_Number_depth {v0 : V} (h : H g = some (o_Number dx v0)) (q : R) : RecV 326 "depth" (.ref g) H R := ⟨g, dx, _, rfl, h, (by kernel_rfl), q⟩
theorem rc_Number_parts {v0 : V} (h : H g = some (o_Number dx v0)) (q : R) : RecV 326 "parts" (.ref g) H R := ⟨g, dx, _, rfl, h, (by kernel_rfl), q⟩
abbrev fs0_Take  : List (Str × V) := []
theorem ll0_Take  : (fs0_Take ).length ≤ 0 := Nat.le_refl _
abbrev fs1_Take (v0 : V) : List (Str × V) := (putF "back" v0 [])
theorem ll1_Take {v0 : V} : (fs1_Take v0).length ≤ 1 := Nat.le_trans len_putF (Nat.succ_le_succ ll0_Take)
abbrev fs2_Take (v0 v1 : V) : List (Str × V) := (putF "steps" v1 (putF "back" v0 []))
theorem ll2_Take {v0 v1 : V} : (fs2_Take v0 v1).length ≤ 2 := Nat.le_trans len_putF (Nat.succ_le_succ ll1_Take)
abbrev o_Take (dx : Addr) (v0 v1 : V) : HO := .ins 371 dx (fs2_Take v0 v1)
theorem fl_Take_back {v0 v1 : V} (T : Txt K mg) (h : H g = some (o_Take dx v0 v1)) (q : Q v0 H) : FldV K (.ref g) "back" H Q := ⟨g, 371, dx, _, _, rfl, h, c_Take T, n_Take_back T, (by kernel_rfl), q⟩
theorem st_Take_back  (T : Txt K mg) (h : H g = some (.ins 371 dx (fs0_Take ))) (q : ∀ H2, Keep [g] H H2 → H2 g = some (.ins 371 dx (fs1_Take  y)) → S H2) : FldS K (.ref g) "back" y H S := ⟨g, 371, dx, _, rfl, h, c_Take T, n_Take_back T, (Nat.lt_of_le_of_lt ll0_Take (by decide)), q _ (Keep.upd (List.mem_singleton.mpr rfl)) upd_same⟩
theorem fl_Take_steps {v0 v1 : V} (T : Txt K mg) (h : H g = some (o_Take dx v0 v1)) (q : Q v1 H) : FldV K (.ref g) "steps" H Q := ⟨g, 371, dx, _, _, rfl, h, c_Take T, n_Take_steps T, (by kernel_rfl), q⟩
theorem st_Take_steps {v0 : V} (T : Txt K mg) (h : H g = some (.ins 371 dx (fs1_Take v0))) (q : ∀ H2, Keep [g] H H2 → H2 g = some (.ins 371 dx (fs2_Take v0 y)) → S H2) : FldS K (.ref g) "steps" y H S := ⟨g, 371, dx, _, rfl, h, c_Take T, n_Take_steps T, (Nat.lt_of_le_of_lt ll1_Take (by decide)), q _ (Keep.upd (List.mem_singleton.mpr rfl)) upd_same⟩
theorem rc_Take_below {v0 v1 : V} (h : H g = some (o_Take dx v0 v1)) (q : R) : RecV 371 "below" (.ref g) H R := ⟨g, dx, _, rfl, h, (by kernel_rfl), q⟩
theorem rc_Take_value_by {v0 v1 : V} (h : H g = some (o_Take dx v0 v1)) (q : R) : RecV 371 "value_by" (.ref g) H R := ⟨g, dx, _, rfl, h, (by kernel_rfl), q⟩
theorem rc_Take_own_take {v0 v1 : V} (h : H g = some (o_Take dx v0 v1)) (q : R) : RecV 371 "own_take" (.ref g) H R := ⟨g, dx, _, rfl, h, (by kernel_rfl), q⟩
theorem rc_Take_own_wrong {v0 v1 : V} (h : H g = some (o_Take dx v0 v1)) (q : R) : RecV 371 "own_wrong" (.ref g) H R := ⟨g, dx, _, rfl, h, (by kernel_rfl), q⟩
theorem rc_Take_first_wrong {v0 v1 : V} (h : H g = some (o_Take dx v0 v1)) (q : R) : RecV 371 "first_wrong" (.ref g) H R := ⟨g, dx, _, rfl, h, (by kernel_rfl), q⟩
theorem rc_Take_takes {v0 v1 : V} (h : H g = some (o_Take dx v0 v1)) (q : R) : RecV 371 "takes" (.ref g) H R := ⟨g, dx, _, rfl, h, (by kernel_rfl), q⟩
theorem rc_Take_depth {v0 v1 : V} (h : H g = some (o_Take dx v0 v1)) (q : R) : RecV 371 "depth" (.ref g) H R := ⟨g, dx, _, rfl, h, (by kernel_rfl), q⟩
theorem rc_Take_parts {v0 v1 : V} (h : H g = some (o_Take dx v0 v1)) (q : R) : RecV 371 "parts" (.ref g) H R := ⟨g, dx, _, rfl, h, (by kernel_rfl), q⟩
abbrev fs0_Added  : List (Str × V) := []
theorem ll0_Added  : (fs0_Added ).length ≤ 0 := Nat.le_refl _
abbrev fs1_Added (v0 : V) : List (Str × V) := (putF "one" v0 [])
theorem ll1_Added {v0 : V} : (fs1_Added v0).length ≤ 1 := Nat.le_trans len_putF (Nat.succ_le_succ ll0_Added)
abbrev fs2_Added (v0 v1 : V) : List (Str × V) := (putF "other" v1 (putF "one" v0 []))
theorem ll2_Added {v0 v1 : V} : (fs2_Added v0 v1).length ≤ 2 := Nat.le_trans len_putF (Nat.succ_le_succ ll1_Added)
abbrev o_Added (dx : Addr) (v0 v1 : V) : HO := .ins 430 dx (fs2_Added v0 v1)
theorem fl_Added_one {v0 v1 : V} (T : Txt K mg) (h : H g = some (o_Added dx v0 v1)) (q : Q v0 H) : FldV K (.ref g) "one" H Q := ⟨g, 430, dx, _, _, rfl, h, c_Added T, n_Added_one T, (by kernel_rfl), q⟩
theorem st_Added_one  (T : Txt K mg) (h : H g = some (.ins 430 dx (fs0_Added ))) (q : ∀ H2, Keep [g] H H2 → H2 g = some (.ins 430 dx (fs1_Added  y)) → S H2) : FldS K (.ref g) "one" y H S := ⟨g, 430, dx, _, rfl, h, c_Added T, n_Added_one T, (Nat.lt_of_le_of_lt ll0_Added (by decide)), q _ (Keep.upd (List.mem_singleton.mpr rfl)) upd_same⟩
theorem fl_Added_other {v0 v1 : V} (T : Txt K mg) (h : H g = some (o_Added dx v0 v1)) (q : Q v1 H) : FldV K (.ref g) "other" H Q := ⟨g, 430, dx, _, _, rfl, h, c_Added T, n_Added_other T, (by kernel_rfl), q⟩
theorem st_Added_other {v0 : V} (T : Txt K mg) (h : H g = some (.ins 430 dx (fs1_Added v0))) (q : ∀ H2, Keep [g] H H2 → H2 g = some (.ins 430 dx (fs2_Added v0 y)) → S H2) : FldS K (.ref g) "other" y H S := ⟨g, 430, dx, _, rfl, h, c_Added T, n_Added_other T, (Nat.lt_of_le_of_lt ll1_Added (by decide)), q _ (Keep.upd (List.mem_singleton.mpr rfl)) upd_same⟩
theorem rc_Added_below {v0 v1 : V} (h : H g = some (o_Added dx v0 v1)) (q : R) : RecV 430 "below" (.ref g) H R := ⟨g, dx, _, rfl, h, (by kernel_rfl), q⟩
theorem rc_Added_value_by {v0 v1 : V} (h : H g = some (o_Added dx v0 v1)) (q : R) : RecV 430 "value_by" (.ref g) H R := ⟨g, dx, _, rfl, h, (by kernel_rfl), q⟩
theorem rc_Added_own_take {v0 v1 : V} (h : H g = some (o_Added dx v0 v1)) (q : R) : RecV 430 "own_take" (.ref g) H R := ⟨g, dx, _, rfl, h, (by kernel_rfl), q⟩
theorem rc_Added_own_wrong {v0 v1 : V} (h : H g = some (o_Added dx v0 v1)) (q : R) : RecV 430 "own_wrong" (.ref g) H R := ⟨g, dx, _, rfl, h, (by kernel_rfl), q⟩
theorem rc_Added_first_wrong {v0 v1 : V} (h : H g = some (o_Added dx v0 v1)) (q : R) : RecV 430 "first_wrong" (.ref g) H R := ⟨g, dx, _, rfl, h, (by kernel_rfl), q⟩
theorem rc_Added_takes {v0 v1 : V} (h : H g = some (o_Added dx v0 v1)) (q : R) : RecV 430 "takes" (.ref g) H R := ⟨g, dx, _, rfl, h, (by kernel_rfl), q⟩
theorem rc_Added_depth {v0 v1 : V} (h : H g = some (o_Added dx v0 v1)) (q : R) : RecV 430 "depth" (.ref g) H R := ⟨g, dx, _, rfl, h, (by kernel_rfl), q⟩
theorem rc_Added_parts {v0 v1 : V} (h : H g = some (o_Added dx v0 v1)) (q : R) : RecV 430 "parts" (.ref g) H R := ⟨g, dx, _, rfl, h, (by kernel_rfl), q⟩
abbrev fs0_Multiplied  : List (Str × V) := []
theorem ll0_Multiplied  : (fs0_Multiplied ).length ≤ 0 := Nat.le_refl _
abbrev fs1_Multiplied (v0 : V) : List (Str × V) := (putF "one" v0 [])
theorem ll1_Multiplied {v0 : V} : (fs1_Multiplied v0).length ≤ 1 := Nat.le_trans len_putF (Nat.succ_le_succ ll0_Multiplied)
abbrev fs2_Multiplied (v0 v1 : V) : List (Str × V) := (putF "other" v1 (putF "one" v0 []))
theorem ll2_Multiplied {v0 v1 : V} : (fs2_Multiplied v0 v1).length ≤ 2 := Nat.le_trans len_putF (Nat.succ_le_succ ll1_Multiplied)
abbrev o_Multiplied (dx : Addr) (v0 v1 : V) : HO := .ins 456 dx (fs2_Multiplied v0 v1)
theorem fl_Multiplied_one {v0 v1 : V} (T : Txt K mg) (h : H g = some (o_Multiplied dx v0 v1)) (q : Q v0 H) : FldV K (.ref g) "one" H Q := ⟨g, 456, dx, _, _, rfl, h, c_Multiplied T, n_Multiplied_one T, (by kernel_rfl), q⟩
theorem st_Multiplied_one  (T : Txt K mg) (h : H g = some (.ins 456 dx (fs0_Multiplied ))) (q : ∀ H2, Keep [g] H H2 → H2 g = some (.ins 456 dx (fs1_Multiplied  y)) → S H2) : FldS K (.ref g) "one" y H S := ⟨g, 456, dx, _, rfl, h, c_Multiplied T, n_Multiplied_one T, (Nat.lt_of_le_of_lt ll0_Multiplied (by decide)), q _ (Keep.upd (List.mem_singleton.mpr rfl)) upd_same⟩
theorem fl_Multiplied_other {v0 v1 : V} (T : Txt K mg) (h : H g = some (o_Multiplied dx v0 v1)) (q : Q v1 H) : FldV K (.ref g) "other" H Q := ⟨g, 456, dx, _, _, rfl, h, c_Multiplied T, n_Multiplied_other T, (by kernel_rfl), q⟩
theorem st_Multiplied_other {v0 : V} (T : Txt K mg) (h : H g = some (.ins 456 dx (fs1_Multiplied v0))) (q : ∀ H2, Keep [g] H H2 → H2 g = some (.ins 456 dx (fs2_Multiplied v0 y)) → S H2) : FldS K (.ref g) "other" y H S := ⟨g, 456, dx, _, rfl, h, c_Multiplied T, n_Multiplied_other T, (Nat.lt_of_le_of_lt ll1_Multiplied (by decide)), q _ (Keep.upd (List.mem_singleton.mpr rfl)) upd_same⟩
theorem rc_Multiplied_below {v0 v1 : V} (h : H g = some (o_Multiplied dx v0 v1)) (q : R) : RecV 456 "below" (.ref g) H R := ⟨g, dx, _, rfl, h, (by kernel_rfl), q⟩
theorem rc_Multiplied_value_by {v0 v1 : V} (h : H g = some (o_Multiplied dx v0 v1)) (q : R) : RecV 456 "value_by" (.ref g) H R := ⟨g, dx, _, rfl, h, (by kernel_rfl), q⟩
theorem rc_Multiplied_own_take {v0 v1 : V} (h : H g = some (o_Multiplied dx v0 v1)) (q : R) : RecV 456 "own_take" (.ref g) H R := ⟨g, dx, _, rfl, h, (by kernel_rfl), q⟩
theorem rc_Multiplied_own_wrong {v0 v1 : V} (h : H g = some (o_Multiplied dx v0 v1)) (q : R) : RecV 456 "own_wrong" (.ref g) H R := ⟨g, dx, _, rfl, h, (by kernel_rfl), q⟩
theorem rc_Multiplied_first_wrong {v0 v1 : V} (h : H g = some (o_Multiplied dx v0 v1)) (q : R) : RecV 456 "first_wrong" (.ref g) H R := ⟨g, dx, _, rfl, h, (by kernel_rfl), q⟩
theorem rc_Multiplied_takes {v0 v1 : V} (h : H g = some (o_Multiplied dx v0 v1)) (q : R) : RecV 456 "takes" (.ref g) H R := ⟨g, dx, _, rfl, h, (by kernel_rfl), q⟩
theorem rc_Multiplied_depth {v0 v1 : V} (h : H g = some (o_Multiplied dx v0 v1)) (q : R) : RecV 456 "depth" (.ref g) H R := ⟨g, dx, _, rfl, h, (by kernel_rfl), q⟩
theorem rc_Multiplied_parts {v0 v1 : V} (h : H g = some (o_Multiplied dx v0 v1)) (q : R) : RecV 456 "parts" (.ref g) H R := ⟨g, dx, _, rfl, h, (by kernel_rfl), q⟩
abbrev fs0_Grid  : List (Str × V) := []
theorem ll0_Grid  : (fs0_Grid ).length ≤ 0 := Nat.le_refl _
abbrev fs1_Grid (v0 : V) : List (Str × V) := (putF "sizes" v0 [])
theorem ll1_Grid {v0 : V} : (fs1_Grid v0).length ≤ 1 := Nat.le_trans len_putF (Nat.succ_le_succ ll0_Grid)
abbrev fs2_Grid (v0 v1 : V) : List (Str × V) := (putF "rims" v1 (putF "sizes" v0 []))
theorem ll2_Grid {v0 v1 : V} : (fs2_Grid v0 v1).length ≤ 2 := Nat.le_trans len_putF (Nat.succ_le_succ ll1_Grid)
abbrev fs3_Grid (v0 v1 v2 : V) : List (Str × V) := (putF "edges" v2 (putF "rims" v1 (putF "sizes" v0 [])))
theorem ll3_Grid {v0 v1 v2 : V} : (fs3_Grid v0 v1 v2).length ≤ 3 := Nat.le_trans len_putF (Nat.succ_le_succ ll2_Grid)
abbrev o_Grid (dx : Addr) (v0 v1 v2 : V) : HO := .ins 657 dx (fs3_Grid v0 v1 v2)
theorem fl_Grid_sizes {v0 v1 v2 : V} (T : Txt K mg) (h : H g = some (o_Grid dx v0 v1 v2)) (q : Q v0 H) : FldV K (.ref g) "sizes" H Q := ⟨g, 657, dx, _, _, rfl, h, c_Grid T, n_Grid_sizes T, (by kernel_rfl), q⟩
theorem st_Grid_sizes  (T : Txt K mg) (h : H g = some (.ins 657 dx (fs0_Grid ))) (q : ∀ H2, Keep [g] H H2 → H2 g = some (.ins 657 dx (fs1_Grid  y)) → S H2) : FldS K (.ref g) "sizes" y H S := ⟨g, 657, dx, _, rfl, h, c_Grid T, n_Grid_sizes T, (Nat.lt_of_le_of_lt ll0_Grid (by decide)), q _ (Keep.upd (List.mem_singleton.mpr rfl)) upd_same⟩
theorem fl_Grid_rims {v0 v1 v2 : V} (T : Txt K mg) (h : H g = some (o_Grid dx v0 v1 v2)) (q : Q v1 H) : FldV K (.ref g) "rims" H Q := ⟨g, 657, dx, _, _, rfl, h, c_Grid T, n_Grid_rims T, (by kernel_rfl), q⟩
theorem st_Grid_rims {v0 : V} (T : Txt K mg) (h : H g = some (.ins 657 dx (fs1_Grid v0))) (q : ∀ H2, Keep [g] H H2 → H2 g = some (.ins 657 dx (fs2_Grid v0 y)) → S H2) : FldS K (.ref g) "rims" y H S := ⟨g, 657, dx, _, rfl, h, c_Grid T, n_Grid_rims T, (Nat.lt_of_le_of_lt ll1_Grid (by decide)), q _ (Keep.upd (List.mem_singleton.mpr rfl)) upd_same⟩
theorem fl_Grid_edges {v0 v1 v2 : V} (T : Txt K mg) (h : H g = some (o_Grid dx v0 v1 v2)) (q : Q v2 H) : FldV K (.ref g) "edges" H Q := ⟨g, 657, dx, _, _, rfl, h, c_Grid T, n_Grid_edges T, (by kernel_rfl), q⟩
theorem st_Grid_edges {v0 v1 : V} (T : Txt K mg) (h : H g = some (.ins 657 dx (fs2_Grid v0 v1))) (q : ∀ H2, Keep [g] H H2 → H2 g = some (.ins 657 dx (fs3_Grid v0 v1 y)) → S H2) : FldS K (.ref g) "edges" y H S := ⟨g, 657, dx, _, rfl, h, c_Grid T, n_Grid_edges T, (Nat.lt_of_le_of_lt ll2_Grid (by decide)), q _ (Keep.upd (List.mem_singleton.mpr rfl)) upd_same⟩
theorem rc_Grid_lines {v0 v1 v2 : V} (h : H g = some (o_Grid dx v0 v1 v2)) (q : R) : RecV 657 "lines" (.ref g) H R := ⟨g, dx, _, rfl, h, (by kernel_rfl), q⟩
theorem rc_Grid_places_many {v0 v1 v2 : V} (h : H g = some (o_Grid dx v0 v1 v2)) (q : R) : RecV 657 "places_many" (.ref g) H R := ⟨g, dx, _, rfl, h, (by kernel_rfl), q⟩
theorem rc_Grid_all_places {v0 v1 v2 : V} (h : H g = some (o_Grid dx v0 v1 v2)) (q : R) : RecV 657 "all_places" (.ref g) H R := ⟨g, dx, _, rfl, h, (by kernel_rfl), q⟩
theorem rc_Grid_has_place {v0 v1 v2 : V} (h : H g = some (o_Grid dx v0 v1 v2)) (q : R) : RecV 657 "has_place" (.ref g) H R := ⟨g, dx, _, rfl, h, (by kernel_rfl), q⟩
theorem rc_Grid_beside {v0 v1 v2 : V} (h : H g = some (o_Grid dx v0 v1 v2)) (q : R) : RecV 657 "beside" (.ref g) H R := ⟨g, dx, _, rfl, h, (by kernel_rfl), q⟩
abbrev fs0_Job  : List (Str × V) := []
theorem ll0_Job  : (fs0_Job ).length ≤ 0 := Nat.le_refl _
abbrev fs1_Job (v0 : V) : List (Str × V) := (putF "grid" v0 [])
theorem ll1_Job {v0 : V} : (fs1_Job v0).length ≤ 1 := Nat.le_trans len_putF (Nat.succ_le_succ ll0_Job)
abbrev fs2_Job (v0 v1 : V) : List (Str × V) := (putF "term" v1 (putF "grid" v0 []))
theorem ll2_Job {v0 v1 : V} : (fs2_Job v0 v1).length ≤ 2 := Nat.le_trans len_putF (Nat.succ_le_succ ll1_Job)
abbrev fs3_Job (v0 v1 v2 : V) : List (Str × V) := (putF "taken" v2 (putF "term" v1 (putF "grid" v0 [])))
theorem ll3_Job {v0 v1 v2 : V} : (fs3_Job v0 v1 v2).length ≤ 3 := Nat.le_trans len_putF (Nat.succ_le_succ ll2_Job)
abbrev fs4_Job (v0 v1 v2 v3 : V) : List (Str × V) := (putF "modulus" v3 (putF "taken" v2 (putF "term" v1 (putF "grid" v0 []))))
theorem ll4_Job {v0 v1 v2 v3 : V} : (fs4_Job v0 v1 v2 v3).length ≤ 4 := Nat.le_trans len_putF (Nat.succ_le_succ ll3_Job)
abbrev fs5_Job (v0 v1 v2 v3 v4 : V) : List (Str × V) := (putF "rounds" v4 (putF "modulus" v3 (putF "taken" v2 (putF "term" v1 (putF "grid" v0 [])))))
theorem ll5_Job {v0 v1 v2 v3 v4 : V} : (fs5_Job v0 v1 v2 v3 v4).length ≤ 5 := Nat.le_trans len_putF (Nat.succ_le_succ ll4_Job)
abbrev fs6_Job (v0 v1 v2 v3 v4 v5 : V) : List (Str × V) := (putF "first" v5 (putF "rounds" v4 (putF "modulus" v3 (putF "taken" v2 (putF "term" v1 (putF "grid" v0 []))))))
theorem ll6_Job {v0 v1 v2 v3 v4 v5 : V} : (fs6_Job v0 v1 v2 v3 v4 v5).length ≤ 6 := Nat.le_trans len_putF (Nat.succ_le_succ ll5_Job)
abbrev o_Job (dx : Addr) (v0 v1 v2 v3 v4 v5 : V) : HO := .ins 542 dx (fs6_Job v0 v1 v2 v3 v4 v5)
theorem fl_Job_grid {v0 v1 v2 v3 v4 v5 : V} (T : Txt K mg) (h : H g = some (o_Job dx v0 v1 v2 v3 v4 v5)) (q : Q v0 H) : FldV K (.ref g) "grid" H Q := ⟨g, 542, dx, _, _, rfl, h, c_Job T, n_Job_grid T, (by kernel_rfl), q⟩
theorem st_Job_grid  (T : Txt K mg) (h : H g = some (.ins 542 dx (fs0_Job ))) (q : ∀ H2, Keep [g] H H2 → H2 g = some (.ins 542 dx (fs1_Job  y)) → S H2) : FldS K (.ref g) "grid" y H S := ⟨g, 542, dx, _, rfl, h, c_Job T, n_Job_grid T, (Nat.lt_of_le_of_lt ll0_Job (by decide)), q _ (Keep.upd (List.mem_singleton.mpr rfl)) upd_same⟩
theorem fl_Job_term {v0 v1 v2 v3 v4 v5 : V} (T : Txt K mg) (h : H g = some (o_Job dx v0 v1 v2 v3 v4 v5)) (q : Q v1 H) : FldV K (.ref g) "term" H Q := ⟨g, 542, dx, _, _, rfl, h, c_Job T, n_Job_term T, (by kernel_rfl), q⟩
theorem st_Job_term {v0 : V} (T : Txt K mg) (h : H g = some (.ins 542 dx (fs1_Job v0))) (q : ∀ H2, Keep [g] H H2 → H2 g = some (.ins 542 dx (fs2_Job v0 y)) → S H2) : FldS K (.ref g) "term" y H S := ⟨g, 542, dx, _, rfl, h, c_Job T, n_Job_term T, (Nat.lt_of_le_of_lt ll1_Job (by decide)), q _ (Keep.upd (List.mem_singleton.mpr rfl)) upd_same⟩
theorem fl_Job_taken {v0 v1 v2 v3 v4 v5 : V} (T : Txt K mg) (h : H g = some (o_Job dx v0 v1 v2 v3 v4 v5)) (q : Q v2 H) : FldV K (.ref g) "taken" H Q := ⟨g, 542, dx, _, _, rfl, h, c_Job T, n_Job_taken T, (by kernel_rfl), q⟩
theorem st_Job_taken {v0 v1 : V} (T : Txt K mg) (h : H g = some (.ins 542 dx (fs2_Job v0 v1))) (q : ∀ H2, Keep [g] H H2 → H2 g = some (.ins 542 dx (fs3_Job v0 v1 y)) → S H2) : FldS K (.ref g) "taken" y H S := ⟨g, 542, dx, _, rfl, h, c_Job T, n_Job_taken T, (Nat.lt_of_le_of_lt ll2_Job (by decide)), q _ (Keep.upd (List.mem_singleton.mpr rfl)) upd_same⟩
theorem fl_Job_modulus {v0 v1 v2 v3 v4 v5 : V} (T : Txt K mg) (h : H g = some (o_Job dx v0 v1 v2 v3 v4 v5)) (q : Q v3 H) : FldV K (.ref g) "modulus" H Q := ⟨g, 542, dx, _, _, rfl, h, c_Job T, n_Job_modulus T, (by kernel_rfl), q⟩
theorem st_Job_modulus {v0 v1 v2 : V} (T : Txt K mg) (h : H g = some (.ins 542 dx (fs3_Job v0 v1 v2))) (q : ∀ H2, Keep [g] H H2 → H2 g = some (.ins 542 dx (fs4_Job v0 v1 v2 y)) → S H2) : FldS K (.ref g) "modulus" y H S := ⟨g, 542, dx, _, rfl, h, c_Job T, n_Job_modulus T, (Nat.lt_of_le_of_lt ll3_Job (by decide)), q _ (Keep.upd (List.mem_singleton.mpr rfl)) upd_same⟩
theorem fl_Job_rounds {v0 v1 v2 v3 v4 v5 : V} (T : Txt K mg) (h : H g = some (o_Job dx v0 v1 v2 v3 v4 v5)) (q : Q v4 H) : FldV K (.ref g) "rounds" H Q := ⟨g, 542, dx, _, _, rfl, h, c_Job T, n_Job_rounds T, (by kernel_rfl), q⟩
theorem st_Job_rounds {v0 v1 v2 v3 : V} (T : Txt K mg) (h : H g = some (.ins 542 dx (fs4_Job v0 v1 v2 v3))) (q : ∀ H2, Keep [g] H H2 → H2 g = some (.ins 542 dx (fs5_Job v0 v1 v2 v3 y)) → S H2) : FldS K (.ref g) "rounds" y H S := ⟨g, 542, dx, _, rfl, h, c_Job T, n_Job_rounds T, (Nat.lt_of_le_of_lt ll4_Job (by decide)), q _ (Keep.upd (List.mem_singleton.mpr rfl)) upd_same⟩
theorem fl_Job_first {v0 v1 v2 v3 v4 v5 : V} (T : Txt K mg) (h : H g = some (o_Job dx v0 v1 v2 v3 v4 v5)) (q : Q v5 H) : FldV K (.ref g) "first" H Q := ⟨g, 542, dx, _, _, rfl, h, c_Job T, n_Job_first T, (by kernel_rfl), q⟩
theorem st_Job_first {v0 v1 v2 v3 v4 : V} (T : Txt K mg) (h : H g = some (.ins 542 dx (fs5_Job v0 v1 v2 v3 v4))) (q : ∀ H2, Keep [g] H H2 → H2 g = some (.ins 542 dx (fs6_Job v0 v1 v2 v3 v4 y)) → S H2) : FldS K (.ref g) "first" y H S := ⟨g, 542, dx, _, rfl, h, c_Job T, n_Job_first T, (Nat.lt_of_le_of_lt ll5_Job (by decide)), q _ (Keep.upd (List.mem_singleton.mpr rfl)) upd_same⟩
theorem rc_Job_deep {v0 v1 v2 v3 v4 v5 : V} (h : H g = some (o_Job dx v0 v1 v2 v3 v4 v5)) (q : R) : RecV 542 "deep" (.ref g) H R := ⟨g, dx, _, rfl, h, (by kernel_rfl), q⟩
theorem rc_Job_all_spots {v0 v1 v2 v3 v4 v5 : V} (h : H g = some (o_Job dx v0 v1 v2 v3 v4 v5)) (q : R) : RecV 542 "all_spots" (.ref g) H R := ⟨g, dx, _, rfl, h, (by kernel_rfl), q⟩
theorem rc_Job_is_spot {v0 v1 v2 v3 v4 v5 : V} (h : H g = some (o_Job dx v0 v1 v2 v3 v4 v5)) (q : R) : RecV 542 "is_spot" (.ref g) H R := ⟨g, dx, _, rfl, h, (by kernel_rfl), q⟩
theorem rc_Job_where_of {v0 v1 v2 v3 v4 v5 : V} (h : H g = some (o_Job dx v0 v1 v2 v3 v4 v5)) (q : R) : RecV 542 "where_of" (.ref g) H R := ⟨g, dx, _, rfl, h, (by kernel_rfl), q⟩
theorem rc_Job_reads_of {v0 v1 v2 v3 v4 v5 : V} (h : H g = some (o_Job dx v0 v1 v2 v3 v4 v5)) (q : R) : RecV 542 "reads_of" (.ref g) H R := ⟨g, dx, _, rfl, h, (by kernel_rfl), q⟩
theorem rc_Job_first_worth {v0 v1 v2 v3 v4 v5 : V} (h : H g = some (o_Job dx v0 v1 v2 v3 v4 v5)) (q : R) : RecV 542 "first_worth" (.ref g) H R := ⟨g, dx, _, rfl, h, (by kernel_rfl), q⟩
theorem rc_Job_worth_at {v0 v1 v2 v3 v4 v5 : V} (h : H g = some (o_Job dx v0 v1 v2 v3 v4 v5)) (q : R) : RecV 542 "worth_at" (.ref g) H R := ⟨g, dx, _, rfl, h, (by kernel_rfl), q⟩
theorem rc_Job_next_worth {v0 v1 v2 v3 v4 v5 : V} (h : H g = some (o_Job dx v0 v1 v2 v3 v4 v5)) (q : R) : RecV 542 "next_worth" (.ref g) H R := ⟨g, dx, _, rfl, h, (by kernel_rfl), q⟩
abbrev fs0_Paper  : List (Str × V) := []
theorem ll0_Paper  : (fs0_Paper ).length ≤ 0 := Nat.le_refl _
abbrev fs1_Paper (v0 : V) : List (Str × V) := (putF "job" v0 [])
theorem ll1_Paper {v0 : V} : (fs1_Paper v0).length ≤ 1 := Nat.le_trans len_putF (Nat.succ_le_succ ll0_Paper)
abbrev fs2_Paper (v0 v1 : V) : List (Str × V) := (putF "pieces" v1 (putF "job" v0 []))
theorem ll2_Paper {v0 v1 : V} : (fs2_Paper v0 v1).length ≤ 2 := Nat.le_trans len_putF (Nat.succ_le_succ ll1_Paper)
abbrev fs3_Paper (v0 v1 v2 : V) : List (Str × V) := (putF "hands" v2 (putF "pieces" v1 (putF "job" v0 [])))
theorem ll3_Paper {v0 v1 v2 : V} : (fs3_Paper v0 v1 v2).length ≤ 3 := Nat.le_trans len_putF (Nat.succ_le_succ ll2_Paper)
abbrev fs4_Paper (v0 v1 v2 v3 : V) : List (Str × V) := (putF "waits" v3 (putF "hands" v2 (putF "pieces" v1 (putF "job" v0 []))))
theorem ll4_Paper {v0 v1 v2 v3 : V} : (fs4_Paper v0 v1 v2 v3).length ≤ 4 := Nat.le_trans len_putF (Nat.succ_le_succ ll3_Paper)
abbrev fs5_Paper (v0 v1 v2 v3 v4 : V) : List (Str × V) := (putF "slots" v4 (putF "waits" v3 (putF "hands" v2 (putF "pieces" v1 (putF "job" v0 [])))))
theorem ll5_Paper {v0 v1 v2 v3 v4 : V} : (fs5_Paper v0 v1 v2 v3 v4).length ≤ 5 := Nat.le_trans len_putF (Nat.succ_le_succ ll4_Paper)
abbrev fs6_Paper (v0 v1 v2 v3 v4 v5 : V) : List (Str × V) := (putF "wanted" v5 (putF "slots" v4 (putF "waits" v3 (putF "hands" v2 (putF "pieces" v1 (putF "job" v0 []))))))
theorem ll6_Paper {v0 v1 v2 v3 v4 v5 : V} : (fs6_Paper v0 v1 v2 v3 v4 v5).length ≤ 6 := Nat.le_trans len_putF (Nat.succ_le_succ ll5_Paper)
abbrev o_Paper (dx : Addr) (v0 v1 v2 v3 v4 v5 : V) : HO := .ins 607 dx (fs6_Paper v0 v1 v2 v3 v4 v5)
theorem fl_Paper_job {v0 v1 v2 v3 v4 v5 : V} (T : Txt K mg) (h : H g = some (o_Paper dx v0 v1 v2 v3 v4 v5)) (q : Q v0 H) : FldV K (.ref g) "job" H Q := ⟨g, 607, dx, _, _, rfl, h, c_Paper T, n_Paper_job T, (by kernel_rfl), q⟩
theorem st_Paper_job  (T : Txt K mg) (h : H g = some (.ins 607 dx (fs0_Paper ))) (q : ∀ H2, Keep [g] H H2 → H2 g = some (.ins 607 dx (fs1_Paper  y)) → S H2) : FldS K (.ref g) "job" y H S := ⟨g, 607, dx, _, rfl, h, c_Paper T, n_Paper_job T, (Nat.lt_of_le_of_lt ll0_Paper (by decide)), q _ (Keep.upd (List.mem_singleton.mpr rfl)) upd_same⟩
theorem fl_Paper_pieces {v0 v1 v2 v3 v4 v5 : V} (T : Txt K mg) (h : H g = some (o_Paper dx v0 v1 v2 v3 v4 v5)) (q : Q v1 H) : FldV K (.ref g) "pieces" H Q := ⟨g, 607, dx, _, _, rfl, h, c_Paper T, n_Paper_pieces T, (by kernel_rfl), q⟩
theorem st_Paper_pieces {v0 : V} (T : Txt K mg) (h : H g = some (.ins 607 dx (fs1_Paper v0))) (q : ∀ H2, Keep [g] H H2 → H2 g = some (.ins 607 dx (fs2_Paper v0 y)) → S H2) : FldS K (.ref g) "pieces" y H S := ⟨g, 607, dx, _, rfl, h, c_Paper T, n_Paper_pieces T, (Nat.lt_of_le_of_lt ll1_Paper (by decide)), q _ (Keep.upd (List.mem_singleton.mpr rfl)) upd_same⟩
theorem fl_Paper_hands {v0 v1 v2 v3 v4 v5 : V} (T : Txt K mg) (h : H g = some (o_Paper dx v0 v1 v2 v3 v4 v5)) (q : Q v2 H) : FldV K (.ref g) "hands" H Q := ⟨g, 607, dx, _, _, rfl, h, c_Paper T, n_Paper_hands T, (by kernel_rfl), q⟩
theorem st_Paper_hands {v0 v1 : V} (T : Txt K mg) (h : H g = some (.ins 607 dx (fs2_Paper v0 v1))) (q : ∀ H2, Keep [g] H H2 → H2 g = some (.ins 607 dx (fs3_Paper v0 v1 y)) → S H2) : FldS K (.ref g) "hands" y H S := ⟨g, 607, dx, _, rfl, h, c_Paper T, n_Paper_hands T, (Nat.lt_of_le_of_lt ll2_Paper (by decide)), q _ (Keep.upd (List.mem_singleton.mpr rfl)) upd_same⟩
theorem fl_Paper_waits {v0 v1 v2 v3 v4 v5 : V} (T : Txt K mg) (h : H g = some (o_Paper dx v0 v1 v2 v3 v4 v5)) (q : Q v3 H) : FldV K (.ref g) "waits" H Q := ⟨g, 607, dx, _, _, rfl, h, c_Paper T, n_Paper_waits T, (by kernel_rfl), q⟩
theorem st_Paper_waits {v0 v1 v2 : V} (T : Txt K mg) (h : H g = some (.ins 607 dx (fs3_Paper v0 v1 v2))) (q : ∀ H2, Keep [g] H H2 → H2 g = some (.ins 607 dx (fs4_Paper v0 v1 v2 y)) → S H2) : FldS K (.ref g) "waits" y H S := ⟨g, 607, dx, _, rfl, h, c_Paper T, n_Paper_waits T, (Nat.lt_of_le_of_lt ll3_Paper (by decide)), q _ (Keep.upd (List.mem_singleton.mpr rfl)) upd_same⟩
theorem fl_Paper_slots {v0 v1 v2 v3 v4 v5 : V} (T : Txt K mg) (h : H g = some (o_Paper dx v0 v1 v2 v3 v4 v5)) (q : Q v4 H) : FldV K (.ref g) "slots" H Q := ⟨g, 607, dx, _, _, rfl, h, c_Paper T, n_Paper_slots T, (by kernel_rfl), q⟩
theorem st_Paper_slots {v0 v1 v2 v3 : V} (T : Txt K mg) (h : H g = some (.ins 607 dx (fs4_Paper v0 v1 v2 v3))) (q : ∀ H2, Keep [g] H H2 → H2 g = some (.ins 607 dx (fs5_Paper v0 v1 v2 v3 y)) → S H2) : FldS K (.ref g) "slots" y H S := ⟨g, 607, dx, _, rfl, h, c_Paper T, n_Paper_slots T, (Nat.lt_of_le_of_lt ll4_Paper (by decide)), q _ (Keep.upd (List.mem_singleton.mpr rfl)) upd_same⟩
theorem fl_Paper_wanted {v0 v1 v2 v3 v4 v5 : V} (T : Txt K mg) (h : H g = some (o_Paper dx v0 v1 v2 v3 v4 v5)) (q : Q v5 H) : FldV K (.ref g) "wanted" H Q := ⟨g, 607, dx, _, _, rfl, h, c_Paper T, n_Paper_wanted T, (by kernel_rfl), q⟩
theorem st_Paper_wanted {v0 v1 v2 v3 v4 : V} (T : Txt K mg) (h : H g = some (.ins 607 dx (fs5_Paper v0 v1 v2 v3 v4))) (q : ∀ H2, Keep [g] H H2 → H2 g = some (.ins 607 dx (fs6_Paper v0 v1 v2 v3 v4 y)) → S H2) : FldS K (.ref g) "wanted" y H S := ⟨g, 607, dx, _, rfl, h, c_Paper T, n_Paper_wanted T, (Nat.lt_of_le_of_lt ll5_Paper (by decide)), q _ (Keep.upd (List.mem_singleton.mpr rfl)) upd_same⟩
abbrev fs0_Run  : List (Str × V) := []
theorem ll0_Run  : (fs0_Run ).length ≤ 0 := Nat.le_refl _
abbrev fs1_Run (v0 : V) : List (Str × V) := (putF "paper" v0 [])
theorem ll1_Run {v0 : V} : (fs1_Run v0).length ≤ 1 := Nat.le_trans len_putF (Nat.succ_le_succ ll0_Run)
abbrev fs2_Run (v0 v1 : V) : List (Str × V) := (putF "at" v1 (putF "paper" v0 []))
theorem ll2_Run {v0 v1 : V} : (fs2_Run v0 v1).length ≤ 2 := Nat.le_trans len_putF (Nat.succ_le_succ ll1_Run)
abbrev fs3_Run (v0 v1 v2 : V) : List (Str × V) := (putF "left" v2 (putF "at" v1 (putF "paper" v0 [])))
theorem ll3_Run {v0 v1 v2 : V} : (fs3_Run v0 v1 v2).length ≤ 3 := Nat.le_trans len_putF (Nat.succ_le_succ ll2_Run)
abbrev fs4_Run (v0 v1 v2 v3 : V) : List (Str × V) := (putF "room" v3 (putF "left" v2 (putF "at" v1 (putF "paper" v0 []))))
theorem ll4_Run {v0 v1 v2 v3 : V} : (fs4_Run v0 v1 v2 v3).length ≤ 4 := Nat.le_trans len_putF (Nat.succ_le_succ ll3_Run)
abbrev fs5_Run (v0 v1 v2 v3 v4 : V) : List (Str × V) := (putF "order" v4 (putF "room" v3 (putF "left" v2 (putF "at" v1 (putF "paper" v0 [])))))
theorem ll5_Run {v0 v1 v2 v3 v4 : V} : (fs5_Run v0 v1 v2 v3 v4).length ≤ 5 := Nat.le_trans len_putF (Nat.succ_le_succ ll4_Run)
abbrev fs6_Run (v0 v1 v2 v3 v4 v5 : V) : List (Str × V) := (putF "amiss" v5 (putF "order" v4 (putF "room" v3 (putF "left" v2 (putF "at" v1 (putF "paper" v0 []))))))
theorem ll6_Run {v0 v1 v2 v3 v4 v5 : V} : (fs6_Run v0 v1 v2 v3 v4 v5).length ≤ 6 := Nat.le_trans len_putF (Nat.succ_le_succ ll5_Run)
abbrev o_Run (dx : Addr) (v0 v1 v2 v3 v4 v5 : V) : HO := .ins 780 dx (fs6_Run v0 v1 v2 v3 v4 v5)
theorem fl_Run_paper {v0 v1 v2 v3 v4 v5 : V} (T : Txt K mg) (h : H g = some (o_Run dx v0 v1 v2 v3 v4 v5)) (q : Q v0 H) : FldV K (.ref g) "paper" H Q := ⟨g, 780, dx, _, _, rfl, h, c_Run T, n_Run_paper T, (by kernel_rfl), q⟩
theorem st_Run_paper  (T : Txt K mg) (h : H g = some (.ins 780 dx (fs0_Run ))) (q : ∀ H2, Keep [g] H H2 → H2 g = some (.ins 780 dx (fs1_Run  y)) → S H2) : FldS K (.ref g) "paper" y H S := ⟨g, 780, dx, _, rfl, h, c_Run T, n_Run_paper T, (Nat.lt_of_le_of_lt ll0_Run (by decide)), q _ (Keep.upd (List.mem_singleton.mpr rfl)) upd_same⟩
theorem fl_Run_at {v0 v1 v2 v3 v4 v5 : V} (T : Txt K mg) (h : H g = some (o_Run dx v0 v1 v2 v3 v4 v5)) (q : Q v1 H) : FldV K (.ref g) "at" H Q := ⟨g, 780, dx, _, _, rfl, h, c_Run T, n_Run_at T, (by kernel_rfl), q⟩
theorem st_Run_at {v0 : V} (T : Txt K mg) (h : H g = some (.ins 780 dx (fs1_Run v0))) (q : ∀ H2, Keep [g] H H2 → H2 g = some (.ins 780 dx (fs2_Run v0 y)) → S H2) : FldS K (.ref g) "at" y H S := ⟨g, 780, dx, _, rfl, h, c_Run T, n_Run_at T, (Nat.lt_of_le_of_lt ll1_Run (by decide)), q _ (Keep.upd (List.mem_singleton.mpr rfl)) upd_same⟩
theorem fl_Run_left {v0 v1 v2 v3 v4 v5 : V} (T : Txt K mg) (h : H g = some (o_Run dx v0 v1 v2 v3 v4 v5)) (q : Q v2 H) : FldV K (.ref g) "left" H Q := ⟨g, 780, dx, _, _, rfl, h, c_Run T, n_Run_left T, (by kernel_rfl), q⟩
theorem st_Run_left {v0 v1 : V} (T : Txt K mg) (h : H g = some (.ins 780 dx (fs2_Run v0 v1))) (q : ∀ H2, Keep [g] H H2 → H2 g = some (.ins 780 dx (fs3_Run v0 v1 y)) → S H2) : FldS K (.ref g) "left" y H S := ⟨g, 780, dx, _, rfl, h, c_Run T, n_Run_left T, (Nat.lt_of_le_of_lt ll2_Run (by decide)), q _ (Keep.upd (List.mem_singleton.mpr rfl)) upd_same⟩
theorem fl_Run_room {v0 v1 v2 v3 v4 v5 : V} (T : Txt K mg) (h : H g = some (o_Run dx v0 v1 v2 v3 v4 v5)) (q : Q v3 H) : FldV K (.ref g) "room" H Q := ⟨g, 780, dx, _, _, rfl, h, c_Run T, n_Run_room T, (by kernel_rfl), q⟩
theorem st_Run_room {v0 v1 v2 : V} (T : Txt K mg) (h : H g = some (.ins 780 dx (fs3_Run v0 v1 v2))) (q : ∀ H2, Keep [g] H H2 → H2 g = some (.ins 780 dx (fs4_Run v0 v1 v2 y)) → S H2) : FldS K (.ref g) "room" y H S := ⟨g, 780, dx, _, rfl, h, c_Run T, n_Run_room T, (Nat.lt_of_le_of_lt ll3_Run (by decide)), q _ (Keep.upd (List.mem_singleton.mpr rfl)) upd_same⟩
theorem fl_Run_order {v0 v1 v2 v3 v4 v5 : V} (T : Txt K mg) (h : H g = some (o_Run dx v0 v1 v2 v3 v4 v5)) (q : Q v4 H) : FldV K (.ref g) "order" H Q := ⟨g, 780, dx, _, _, rfl, h, c_Run T, n_Run_order T, (by kernel_rfl), q⟩
theorem st_Run_order {v0 v1 v2 v3 : V} (T : Txt K mg) (h : H g = some (.ins 780 dx (fs4_Run v0 v1 v2 v3))) (q : ∀ H2, Keep [g] H H2 → H2 g = some (.ins 780 dx (fs5_Run v0 v1 v2 v3 y)) → S H2) : FldS K (.ref g) "order" y H S := ⟨g, 780, dx, _, rfl, h, c_Run T, n_Run_order T, (Nat.lt_of_le_of_lt ll4_Run (by decide)), q _ (Keep.upd (List.mem_singleton.mpr rfl)) upd_same⟩
theorem fl_Run_amiss {v0 v1 v2 v3 v4 v5 : V} (T : Txt K mg) (h : H g = some (o_Run dx v0 v1 v2 v3 v4 v5)) (q : Q v5 H) : FldV K (.ref g) "amiss" H Q := ⟨g, 780, dx, _, _, rfl, h, c_Run T, n_Run_amiss T, (by kernel_rfl), q⟩
theorem st_Run_amiss {v0 v1 v2 v3 v4 : V} (T : Txt K mg) (h : H g = some (.ins 780 dx (fs5_Run v0 v1 v2 v3 v4))) (q : ∀ H2, Keep [g] H H2 → H2 g = some (.ins 780 dx (fs6_Run v0 v1 v2 v3 v4 y)) → S H2) : FldS K (.ref g) "amiss" y H S := ⟨g, 780, dx, _, rfl, h, c_Run T, n_Run_amiss T, (Nat.lt_of_le_of_lt ll5_Run (by decide)), q _ (Keep.upd (List.mem_singleton.mpr rfl)) upd_same⟩
theorem rc_Run_piece_at {v0 v1 v2 v3 v4 v5 : V} (h : H g = some (o_Run dx v0 v1 v2 v3 v4 v5)) (q : R) : RecV 780 "piece_at" (.ref g) H R := ⟨g, dx, _, rfl, h, (by kernel_rfl), q⟩
theorem rc_Run_next_spot {v0 v1 v2 v3 v4 v5 : V} (h : H g = some (o_Run dx v0 v1 v2 v3 v4 v5)) (q : R) : RecV 780 "next_spot" (.ref g) H R := ⟨g, dx, _, rfl, h, (by kernel_rfl), q⟩
theorem rc_Run_may_begin {v0 v1 v2 v3 v4 v5 : V} (h : H g = some (o_Run dx v0 v1 v2 v3 v4 v5)) (q : R) : RecV 780 "may_begin" (.ref g) H R := ⟨g, dx, _, rfl, h, (by kernel_rfl), q⟩
theorem rc_Run_can_step {v0 v1 v2 v3 v4 v5 : V} (h : H g = some (o_Run dx v0 v1 v2 v3 v4 v5)) (q : R) : RecV 780 "can_step" (.ref g) H R := ⟨g, dx, _, rfl, h, (by kernel_rfl), q⟩
theorem rc_Run_ready {v0 v1 v2 v3 v4 v5 : V} (h : H g = some (o_Run dx v0 v1 v2 v3 v4 v5)) (q : R) : RecV 780 "ready" (.ref g) H R := ⟨g, dx, _, rfl, h, (by kernel_rfl), q⟩
theorem rc_Run_held {v0 v1 v2 v3 v4 v5 : V} (h : H g = some (o_Run dx v0 v1 v2 v3 v4 v5)) (q : R) : RecV 780 "held" (.ref g) H R := ⟨g, dx, _, rfl, h, (by kernel_rfl), q⟩
theorem rc_Run_look {v0 v1 v2 v3 v4 v5 : V} (h : H g = some (o_Run dx v0 v1 v2 v3 v4 v5)) (q : R) : RecV 780 "look" (.ref g) H R := ⟨g, dx, _, rfl, h, (by kernel_rfl), q⟩
theorem rc_Run_note_reads {v0 v1 v2 v3 v4 v5 : V} (h : H g = some (o_Run dx v0 v1 v2 v3 v4 v5)) (q : R) : RecV 780 "note_reads" (.ref g) H R := ⟨g, dx, _, rfl, h, (by kernel_rfl), q⟩
theorem rc_Run_step {v0 v1 v2 v3 v4 v5 : V} (h : H g = some (o_Run dx v0 v1 v2 v3 v4 v5)) (q : R) : RecV 780 "step" (.ref g) H R := ⟨g, dx, _, rfl, h, (by kernel_rfl), q⟩
theorem rc_Run_is_over {v0 v1 v2 v3 v4 v5 : V} (h : H g = some (o_Run dx v0 v1 v2 v3 v4 v5)) (q : R) : RecV 780 "is_over" (.ref g) H R := ⟨g, dx, _, rfl, h, (by kernel_rfl), q⟩
end
end
section
set_option maxHeartbeats 4000000
theorem same_get {H H' : Hp} {b : Addr} {o : HO} (s : Same H H') (h : H b = some o) : H' b = some o := s b o h
theorem keep_get {S : List Addr} {H H' : Hp} {b : Addr} {o : HO} (s : Keep S H H') (h : H b = some o) (n : b ∉ S) : H' b = some o := s b o h n
theorem nin1 {a b : Addr} (h : a ≠ b) : a ∉ [b] := fun m => h (List.mem_singleton.mp m)
theorem at0 {α : Type} {x : α} {xs : List α} : atI (x :: xs) 0 = some x := atI_nat (j := 0) rfl
theorem at1 {α : Type} {x y : α} {xs : List α} : atI (x :: y :: xs) 1 = some y := atI_nat (j := 1) rfl
theorem at2 {α : Type} {x y z : α} {xs : List α} : atI (x :: y :: z :: xs) 2 = some z := atI_nat (j := 2) rfl
theorem at3 {α : Type} {x y z u : α} {xs : List α} : atI (x :: y :: z :: u :: xs) 3 = some u := atI_nat (j := 3) rfl
theorem len1 {a : V} : [a].length ≤ sizeLine := by show 1 ≤ sizeLine; decide
theorem len0 : ([] : List V).length ≤ sizeLine := by show 0 ≤ sizeLine; decide
theorem len2 {a b : V} : [a, b].length ≤ sizeLine := by show 2 ≤ sizeLine; decide
theorem len3 {a b c : V} : [a, b, c].length ≤ sizeLine := by show 3 ≤ sizeLine; decide
theorem len4 {a b c d : V} : [a, b, c, d].length ≤ sizeLine := by show 4 ≤ sizeLine; decide
theorem len5 {a b c d e : V} : [a, b, c, d, e].length ≤ sizeLine := by show 5 ≤ sizeLine; decide
theorem len6 {a b c d e f : V} : [a, b, c, d, e, f].length ≤ sizeLine := by show 6 ≤ sizeLine; decide
theorem len8 {a b c d e f g h : V} : [a, b, c, d, e, f, g, h].length ≤ sizeLine := by show 8 ≤ sizeLine; decide
theorem iteNF {A B : Prop} (h : A) : if (!false) = true then A else B := iteT h
theorem iteNT {A B : Prop} (h : B) : if (!true) = true then A else B := iteF h
theorem iteNDT {p A B : Prop} [Decidable p] (h : ¬ p) (a : A) : if (!decide p) = true then A else B := iteND (fun _ => a) (fun z => absurd z h)
theorem iteNDF {p A B : Prop} [Decidable p] (h : p) (b : B) : if (!decide p) = true then A else B := iteND (fun z => absurd h z) (fun _ => b)
theorem c_yes {σ : L2.St} {H : Hp} {Q : Bool → Hp → Prop} (q : Q true H) : tYes σ H Q := q
theorem wipeAnd {σ σ' : L2.St} {vs : List Nat} {R : Prop} (h : wipe σ vs = wipe σ' vs) (q : R) : wipe σ vs = wipe σ' vs ∧ R := ⟨h, q⟩
theorem app_at {α : Type} {es : List α} {a b : α} {j : Nat} (h : (es ++ [a])[j]? = some b) : es[j]? = some b ∨ (j = es.length ∧ b = a) := by
  by_cases hj : j < es.length
  · rw [List.getElem?_append_left hj] at h
    exact .inl h
  · rw [List.getElem?_append_right (by omega)] at h
    have : j - es.length = 0 := by
      cases e : j - es.length with
      | zero => rfl
      | succ k => rw [e] at h; simp at h
    rw [this] at h
    cases h
    exact .inr ⟨by omega, rfl⟩
theorem same2 {H H1 H2 : Hp} (a : Same H H1) (b : Same H1 H2) : Same H H2 := a.trans b
theorem bigL {n : Nat} (h : n ≤ 1000000) : n ≤ sizeLine := by rw [sizeLine_eq]; omega
theorem bigL' {n : Nat} (h : n ≤ 1000000) : n < sizeLine := by rw [sizeLine_eq]; omega
end
section
set_option maxHeartbeats 4000000
/-! ### the plain data: grids, places, spots -/
def grids : List (List Int) := [[3], [2, 2], [4], [1], [2, 1], [5], [2, 1, 2], [3, 2]]
abbrev SzOk (sz : List Int) : Prop := sz ∈ grids
def prodI (l : List Int) : Int := l.foldl (· * ·) 1
theorem sz_all {p : List Int → Bool} (h : grids.all p = true) {sz : List Int} (m : SzOk sz) : p sz = true := List.all_eq_true.mp h sz m
theorem sz_len {sz : List Int} (m : SzOk sz) : 1 ≤ sz.length ∧ sz.length ≤ 3 := by
  have := sz_all (p := fun sz => decide (1 ≤ sz.length ∧ sz.length ≤ 3)) (by decide) m
  exact of_decide_eq_true this
theorem sz_each {sz : List Int} (m : SzOk sz) : ∀ s ∈ sz, 1 ≤ s ∧ s ≤ 5 := by
  have := sz_all (p := fun sz => decide (∀ s ∈ sz, 1 ≤ s ∧ s ≤ 5)) (by decide) m
  exact of_decide_eq_true this
theorem sz_prod {sz : List Int} (m : SzOk sz) : prodI sz ≤ 40 := by
  have := sz_all (p := fun sz => decide (prodI sz ≤ 40)) (by decide) m
  exact of_decide_eq_true this
/-- a place of the grid -/
def plOk : List Int → List Int → Prop
  | [], [] => True
  | s :: ss, p :: pp => (0 ≤ p ∧ p < s) ∧ plOk ss pp
  | _, _ => False
theorem plOk_len : ∀ {sz pl : List Int}, plOk sz pl → pl.length = sz.length
  | [], [], _ => rfl
  | s :: ss, p :: pp, h => by
    have := plOk_len h.2
    simp [this]
  | [], _ :: _, h => h.elim
  | _ :: _, [], h => h.elim
theorem plOk_at : ∀ {sz pl : List Int}, plOk sz pl → ∀ (i : Nat) (s p : Int), sz[i]? = some s → pl[i]? = some p → 0 ≤ p ∧ p < s
  | [], [], _, i, s, p, h, _ => by simp at h
  | s :: ss, p :: pp, h, 0, s', p', h1, h2 => by
    simp at h1 h2
    subst h1 h2
    exact h.1
  | s :: ss, p :: pp, h, i + 1, s', p', h1, h2 => plOk_at h.2 i s' p' (by simpa using h1) (by simpa using h2)
  | [], _ :: _, h, _, _, _, _, _ => h.elim
  | _ :: _, [], h, _, _, _, _, _ => h.elim
theorem plOk_snoc : ∀ {sz pl : List Int} {s p : Int}, plOk sz pl → 0 ≤ p → p < s → plOk (sz ++ [s]) (pl ++ [p])
  | [], [], s, p, _, h1, h2 => ⟨⟨h1, h2⟩, trivial⟩
  | s :: ss, p :: pp, s', p', h, h1, h2 => ⟨h.1, plOk_snoc h.2 h1 h2⟩
  | [], _ :: _, _, _, h, _, _ => h.elim
  | _ :: _, [], _, _, h, _, _ => h.elim
/-- one more line -/
def widen (found : List (List Int)) (s : Int) : List (List Int) := found.flatMap fun pl => (List.range s.toNat).map fun n => pl ++ [((n : Nat) : Int)]
def placesF (sz : List Int) : List (List Int) := sz.foldl widen [[]]
theorem widen_app (a b : List (List Int)) (s : Int) : widen (a ++ b) s = widen a s ++ widen b s := by simp [widen]
theorem placesF_snoc (sz : List Int) (s : Int) : placesF (sz ++ [s]) = widen (placesF sz) s := by simp [placesF]
theorem mem_widen {found : List (List Int)} {s : Int} {pl : List Int} : pl ∈ widen found s ↔ ∃ q ∈ found, ∃ n : Int, 0 ≤ n ∧ n < s ∧ pl = q ++ [n] := by
  simp only [widen, List.mem_flatMap, List.mem_map, List.mem_range]
  constructor
  · rintro ⟨q, hq, n, hn, rfl⟩
    exact ⟨q, hq, n, by omega, by omega, rfl⟩
  · rintro ⟨q, hq, n, h0, h1, rfl⟩
    exact ⟨q, hq, n.toNat, by omega, by rw [Int.toNat_of_nonneg h0]⟩
theorem mem_placesF_ok {sz : List Int} : ∀ {pl : List Int}, pl ∈ placesF sz → plOk sz pl := by
  have key : ∀ (l pre : List Int) (found : List (List Int)), (∀ pl ∈ found, plOk pre pl) → ∀ pl ∈ l.foldl widen found, plOk (pre ++ l) pl := by
    intro l
    induction l with
    | nil => intro pre found h pl hp; rw [List.append_nil]; exact h pl hp
    | cons s l ih =>
      intro pre found h pl hp
      have e : pre ++ s :: l = (pre ++ [s]) ++ l := by simp
      rw [e]
      refine ih (pre ++ [s]) (widen found s) (fun q hq => ?_) pl hp
      obtain ⟨q', h1, n, h2, h3, rfl⟩ := mem_widen.mp hq
      exact plOk_snoc (h q' h1) h2 h3
  intro pl hp
  exact key sz [] [[]] (by simp [plOk]) pl hp
theorem places_nodup {sz : List Int} (m : SzOk sz) : (placesF sz).Nodup := by
  have := sz_all (p := fun sz => decide (placesF sz).Nodup) (by decide +kernel) m
  exact of_decide_eq_true this
theorem places_len {sz : List Int} (m : SzOk sz) : (placesF sz).length ≤ 6 ∧ 1 ≤ (placesF sz).length := by
  have := sz_all (p := fun sz => decide ((placesF sz).length ≤ 6 ∧ 1 ≤ (placesF sz).length)) (by decide +kernel) m
  exact of_decide_eq_true this
theorem mem_placesF {sz : List Int} : ∀ {pl : List Int}, plOk sz pl → pl ∈ placesF sz := by
  have key : ∀ (l : List Int) (pl : List Int) (found : List (List Int)) (q : List Int), q ∈ found → plOk l pl → q ++ pl ∈ l.foldl widen found := by
    intro l
    induction l with
    | nil =>
      intro pl found q hq h
      cases pl with
      | nil => rw [List.append_nil]; exact hq
      | cons _ _ => exact h.elim
    | cons s l ih =>
      intro pl found q hq h
      cases pl with
      | nil => exact h.elim
      | cons p pl =>
        have e : q ++ p :: pl = (q ++ [p]) ++ pl := by simp
        rw [e]
        exact ih pl (widen found s) (q ++ [p]) (mem_widen.mpr ⟨q, hq, p, h.1.1, h.1.2, rfl⟩) h.2
  intro pl h
  have := key sz pl [[]] [] (by simp) h
  simpa [placesF] using this
/-- the spots of the first R turns -/
def spotsF (R : Nat) (sz : List Int) : List Sp2 := (List.range R).flatMap fun (t : Nat) => (placesF sz).map fun pl => (1 + (t : Int), pl)
def SpOk (R : Nat) (sz : List Int) (z : Sp2) : Prop := 1 ≤ z.1 ∧ z.1 ≤ R ∧ plOk sz z.2
theorem mem_spotsF {R : Nat} {sz : List Int} {z : Sp2} : z ∈ spotsF R sz ↔ SpOk R sz z := by
  simp only [spotsF, List.mem_flatMap, List.mem_map, List.mem_range, SpOk]
  constructor
  · rintro ⟨t, ht, pl, hp, rfl⟩
    exact ⟨by show 1 ≤ 1 + (t : Int); omega, by show 1 + (t : Int) ≤ R; omega, mem_placesF_ok hp⟩
  · rintro ⟨h1, h2, h3⟩
    exact ⟨(z.1 - 1).toNat, by omega, z.2, mem_placesF h3, Prod.ext (by show 1 + (((z.1 - 1).toNat : Nat) : Int) = z.1; omega) rfl⟩
theorem spotsF_len {R : Nat} {sz : List Int} : (spotsF R sz).length = R * (placesF sz).length := by
  simp [spotsF, List.length_flatMap, List.map_const']
theorem spotsF_snoc (R : Nat) (sz : List Int) : spotsF (R + 1) sz = spotsF R sz ++ (placesF sz).map fun pl => (1 + (R : Int), pl) := by
  simp [spotsF, List.range_succ]
theorem spotsF_nodup {R : Nat} {sz : List Int} (m : SzOk sz) : (spotsF R sz).Nodup := by
  induction R with
  | zero => simp [spotsF]
  | succ R ih =>
    rw [spotsF_snoc, List.nodup_append]
    refine ⟨ih, ?_, fun a ha b hb e => ?_⟩
    · refine List.Pairwise.map _ (fun a b h e => h ?_) (places_nodup m)
      exact (Prod.mk.inj e).2
    · obtain ⟨pl, _, rfl⟩ := List.mem_map.mp hb
      have := (mem_spotsF.mp ha).2.1
      rw [e] at this
      have h2 : 1 + (R : Int) ≤ R := this
      omega
/-- a take of the law: back 1 .. 3, one step a line -/
def TkOk (sz : List Int) (z : Sp2) : Prop := 1 ≤ z.1 ∧ z.1 ≤ 3 ∧ z.2.length = sz.length ∧ ∀ s ∈ z.2, -2 ≤ s ∧ s ≤ 2
end
local macro_rules
  | `(tactic| walk_at "look") => `(tactic| first
    | assumption
    | (refine same_get (by assumption) ?_; walk_at "look")
    | (refine keep_get (by assumption) ?_ ?_ <;> (first | assumption | (walk_at "look") | (walk_at "ne"))))
  | `(tactic| walk_at "ne") => `(tactic| first
    | assumption
    | exact nin1 (by assumption)
    | exact nin1 (Ne.symm (by assumption))
    | exact nin1 (ne_of_none (by assumption) (by assumption))
    | exact nin1 (ne_of (by assumption) (by assumption) (fun z => nomatch z))
    | exact nin1 (ne_of (by walk_at "look") (by walk_at "look") (fun z => nomatch z)))
  | `(tactic| walk_at "at") => `(tactic| first
    | assumption
    | exact at0 | exact at1 | exact at2 | exact at3
    | exact atI_nat (by assumption))
  | `(tactic| walk_at "pf") => `(tactic| first | assumption | omega | (simp only [List.length_cons, List.length_nil, List.length_map]; omega) | (simp only [List.length_cons, List.length_nil, List.length_map]; simp; done))
  | `(tactic| walk_at "1") => `(tactic| first
    | (with_reducible refine c_seq ?_) | (with_reducible refine c_asg ?_) | (with_reducible refine c_ret ?_) | (with_reducible refine c_ifS ?_)
    | ((with_reducible apply c_var); (exact rfl))
    | (with_reducible refine c_c ?_) | (with_reducible refine c_op ?_) | (with_reducible refine c_gname ?_)
    | (with_reducible refine c_fld ?_) | (with_reducible refine c_call ?_) | (with_reducible refine c_cons ?_) | (with_reducible refine c_nil ?_)
    | (with_reducible refine c_cb ?_) | (with_reducible refine c_ckw ?_) | (with_reducible refine c_tup ?_) | (with_reducible refine c_lst ?_)
    | (with_reducible refine c_test ?_) | (with_reducible refine c_tb ?_) | (with_reducible refine c_and ?_) | (with_reducible refine c_or ?_) | (with_reducible refine c_not ?_)
    | (with_reducible refine c_andV ?_) | (with_reducible refine c_orV ?_) | (with_reducible refine c_notV ?_) | (with_reducible refine c_chain ?_)
    | (with_reducible refine c_meth ?_) | (with_reducible refine c_make ?_) | (with_reducible refine c_un ?_)
    | (with_reducible refine c_drop ?_) | (with_reducible refine c_next ?_) | (with_reducible refine c_retN ?_) | (with_reducible refine c_fldS ?_)
    | (with_reducible refine c_gnil ?_) | (with_reducible refine c_gcons ?_) | (with_reducible refine c_gsub ?_)
    | (with_reducible refine c_bm ?_) | (with_reducible refine c_sl ?_) | (with_reducible refine c_nopart ?_) | (with_reducible refine c_part ?_)
    | (with_reducible refine c_dnewK ?_) | (with_reducible refine c_dget ?_) | (with_reducible refine c_dnot ?_) | (with_reducible refine c_dget1 ?_) | (with_reducible refine c_dget2 ?_) | (with_reducible refine c_dsetd ?_)
    | (with_reducible refine v_add ?_) | (with_reducible refine v_sub ?_)
    | ((with_reducible refine v_mod ?_ ?_); (first | assumption | omega)) | ((with_reducible refine v_fdiv ?_ ?_); (omega))
    | ((with_reducible refine v_mul ?_ ?_); (first | exact Or.inl (by omega) | exact Or.inr (by omega)))
    | (with_reducible refine v_lt ?_) | (with_reducible refine v_le ?_) | (with_reducible refine v_gt ?_) | (with_reducible refine v_ge ?_)
    | (with_reducible refine v_eq ?_) | (with_reducible refine v_ne ?_) | (with_reducible refine v_neg ?_)
    | (with_reducible refine v_isT ?_) | (with_reducible refine v_isR ?_) | (with_reducible refine v_isI ?_) | (with_reducible refine v_isnT ?_) | (with_reducible refine v_isnR ?_) | (with_reducible refine v_isnI ?_)
    | (with_reducible refine v_intB ?_) | (with_reducible refine v_max2 ?_) | (with_reducible refine v_min2 ?_)
    | (with_reducible refine v_isiIB ?_) | (with_reducible refine v_isiII ?_)
    | ((with_reducible apply v_ixL); (walk_at "look"); (walk_at "at"))
    | ((with_reducible apply v_ixT); (walk_at "look"); (walk_at "at"))
    | ((with_reducible apply c_gtup); (walk_at "look"); (exact rfl))
    | ((with_reducible apply lsV); (walk_at "look"))
    | (with_reducible refine c_for ?_) | (with_reducible refine c_lc ?_) | (with_reducible refine c_iL ?_) | (with_reducible refine c_iT ?_) | (with_reducible refine c_iR ?_) | (with_reducible refine c_iR2 ?_) | (with_reducible refine c_iE ?_) | (with_reducible refine c_iZ ?_) | (with_reducible refine c_iZTL ?_) | (with_reducible refine c_iZ3 ?_) | (with_reducible refine c_iVD ?_)
    | ((with_reducible apply itL); (walk_at "look")) | ((with_reducible apply itE); (walk_at "look")) | ((with_reducible apply itT); (walk_at "look"))
    | (with_reducible refine c_yes ?_) | ((with_reducible refine wipeAnd ?_ ?_); (exact rfl))
    | (with_reducible refine xB ?_) | (with_reducible refine xI ?_)
    | (with_reducible refine iteNF ?_) | (with_reducible refine iteNT ?_)
    | (with_reducible refine v_eqs (b := true) (by decide +kernel) ?_) | (with_reducible refine v_eqs (b := false) (by decide +kernel) ?_)
    | ((with_reducible apply v_lenL); (walk_at "look")) | ((with_reducible apply v_lenT); (walk_at "look")) | ((with_reducible apply v_lenK); (walk_at "look")) | ((with_reducible apply v_lenD); (walk_at "look"))
    | ((with_reducible apply v_isiT); (walk_at "look")) | ((with_reducible apply v_isiL); (walk_at "look")) | ((with_reducible apply v_isiD); (walk_at "look"))
    | ((with_reducible refine iteNDT ?_ ?_); (walk_at "pf")) | ((with_reducible refine iteNDF ?_ ?_); (walk_at "pf"))
    | (with_reducible refine iteT ?_) | (with_reducible refine iteF ?_)
    | ((with_reducible refine iteDT ?_ ?_); (walk_at "pf")) | ((with_reducible refine iteDF ?_ ?_); (walk_at "pf")))
  | `(tactic| walk_at "go") => `(tactic| repeat (first | walk_at "1" | walk_at "f"))
local macro_rules
  | `(tactic| walk_at "f") => `(tactic| first
    | ((with_reducible apply fl_Rim_size); (assumption); (walk_at "look"))
    | ((with_reducible apply rc_Rim_at_number); (walk_at "look"))
    | ((with_reducible apply fl_MirrorRim_size); (assumption); (walk_at "look"))
    | ((with_reducible apply rc_MirrorRim_at_number); (walk_at "look"))
    | ((with_reducible apply fl_FixedRim_size); (assumption); (walk_at "look"))
    | ((with_reducible apply fl_FixedRim_beyond); (assumption); (walk_at "look"))
    | ((with_reducible apply rc_FixedRim_at_number); (walk_at "look"))
    | ((with_reducible apply fl_Number_value); (assumption); (walk_at "look"))
    | ((with_reducible apply rc_Number_below); (walk_at "look"))
    | ((with_reducible apply rc_Number_value_by); (walk_at "look"))
    | ((with_reducible apply rc_Number_own_take); (walk_at "look"))
    | ((with_reducible apply rc_Number_own_wrong); (walk_at "look"))
    | ((with_reducible apply rc_Number_first_wrong); (walk_at "look"))
    | ((with_reducible apply rc_Number_takes); (walk_at "look"))
    | ((with_reducible apply rc_Number_depth); (walk_at "look"))
    | ((with_reducible apply rc_Number_parts); (walk_at "look"))
    | ((with_reducible apply fl_Take_back); (assumption); (walk_at "look"))
    | ((with_reducible apply fl_Take_steps); (assumption); (walk_at "look"))
    | ((with_reducible apply rc_Take_below); (walk_at "look"))
    | ((with_reducible apply rc_Take_value_by); (walk_at "look"))
    | ((with_reducible apply rc_Take_own_take); (walk_at "look"))
    | ((with_reducible apply rc_Take_own_wrong); (walk_at "look"))
    | ((with_reducible apply rc_Take_first_wrong); (walk_at "look"))
    | ((with_reducible apply rc_Take_takes); (walk_at "look"))
    | ((with_reducible apply rc_Take_depth); (walk_at "look"))
    | ((with_reducible apply rc_Take_parts); (walk_at "look"))
    | ((with_reducible apply fl_Added_one); (assumption); (walk_at "look"))
    | ((with_reducible apply fl_Added_other); (assumption); (walk_at "look"))
    | ((with_reducible apply rc_Added_below); (walk_at "look"))
    | ((with_reducible apply rc_Added_value_by); (walk_at "look"))
    | ((with_reducible apply rc_Added_own_take); (walk_at "look"))
    | ((with_reducible apply rc_Added_own_wrong); (walk_at "look"))
    | ((with_reducible apply rc_Added_first_wrong); (walk_at "look"))
    | ((with_reducible apply rc_Added_takes); (walk_at "look"))
    | ((with_reducible apply rc_Added_depth); (walk_at "look"))
    | ((with_reducible apply rc_Added_parts); (walk_at "look"))
    | ((with_reducible apply fl_Multiplied_one); (assumption); (walk_at "look"))
    | ((with_reducible apply fl_Multiplied_other); (assumption); (walk_at "look"))
    | ((with_reducible apply rc_Multiplied_below); (walk_at "look"))
    | ((with_reducible apply rc_Multiplied_value_by); (walk_at "look"))
    | ((with_reducible apply rc_Multiplied_own_take); (walk_at "look"))
    | ((with_reducible apply rc_Multiplied_own_wrong); (walk_at "look"))
    | ((with_reducible apply rc_Multiplied_first_wrong); (walk_at "look"))
    | ((with_reducible apply rc_Multiplied_takes); (walk_at "look"))
    | ((with_reducible apply rc_Multiplied_depth); (walk_at "look"))
    | ((with_reducible apply rc_Multiplied_parts); (walk_at "look"))
    | ((with_reducible apply fl_Grid_sizes); (assumption); (walk_at "look"))
    | ((with_reducible apply fl_Grid_rims); (assumption); (walk_at "look"))
    | ((with_reducible apply fl_Grid_edges); (assumption); (walk_at "look"))
    | ((with_reducible apply rc_Grid_lines); (walk_at "look"))
    | ((with_reducible apply rc_Grid_places_many); (walk_at "look"))
    | ((with_reducible apply rc_Grid_all_places); (walk_at "look"))
    | ((with_reducible apply rc_Grid_has_place); (walk_at "look"))
    | ((with_reducible apply rc_Grid_beside); (walk_at "look"))
    | ((with_reducible apply fl_Job_grid); (assumption); (walk_at "look"))
    | ((with_reducible apply fl_Job_term); (assumption); (walk_at "look"))
    | ((with_reducible apply fl_Job_taken); (assumption); (walk_at "look"))
    | ((with_reducible apply fl_Job_modulus); (assumption); (walk_at "look"))
    | ((with_reducible apply fl_Job_rounds); (assumption); (walk_at "look"))
    | ((with_reducible apply fl_Job_first); (assumption); (walk_at "look"))
    | ((with_reducible apply rc_Job_deep); (walk_at "look"))
    | ((with_reducible apply rc_Job_all_spots); (walk_at "look"))
    | ((with_reducible apply rc_Job_is_spot); (walk_at "look"))
    | ((with_reducible apply rc_Job_where_of); (walk_at "look"))
    | ((with_reducible apply rc_Job_reads_of); (walk_at "look"))
    | ((with_reducible apply rc_Job_first_worth); (walk_at "look"))
    | ((with_reducible apply rc_Job_worth_at); (walk_at "look"))
    | ((with_reducible apply rc_Job_next_worth); (walk_at "look"))
    | ((with_reducible apply fl_Paper_job); (assumption); (walk_at "look"))
    | ((with_reducible apply fl_Paper_pieces); (assumption); (walk_at "look"))
    | ((with_reducible apply fl_Paper_hands); (assumption); (walk_at "look"))
    | ((with_reducible apply fl_Paper_waits); (assumption); (walk_at "look"))
    | ((with_reducible apply fl_Paper_slots); (assumption); (walk_at "look"))
    | ((with_reducible apply fl_Paper_wanted); (assumption); (walk_at "look"))
    | ((with_reducible apply fl_Run_paper); (assumption); (walk_at "look"))
    | ((with_reducible apply fl_Run_at); (assumption); (walk_at "look"))
    | ((with_reducible apply fl_Run_left); (assumption); (walk_at "look"))
    | ((with_reducible apply fl_Run_room); (assumption); (walk_at "look"))
    | ((with_reducible apply fl_Run_order); (assumption); (walk_at "look"))
    | ((with_reducible apply fl_Run_amiss); (assumption); (walk_at "look"))
    | ((with_reducible apply rc_Run_piece_at); (walk_at "look"))
    | ((with_reducible apply rc_Run_next_spot); (walk_at "look"))
    | ((with_reducible apply rc_Run_may_begin); (walk_at "look"))
    | ((with_reducible apply rc_Run_can_step); (walk_at "look"))
    | ((with_reducible apply rc_Run_ready); (walk_at "look"))
    | ((with_reducible apply rc_Run_held); (walk_at "look"))
    | ((with_reducible apply rc_Run_look); (walk_at "look"))
    | ((with_reducible apply rc_Run_note_reads); (walk_at "look"))
    | ((with_reducible apply rc_Run_step); (walk_at "look"))
    | ((with_reducible apply rc_Run_is_over); (walk_at "look")))

section
set_option maxHeartbeats 4000000
/-! ### the tape -/
def TapeA (H : Hp) (t : Addr) : Prop := ∃ a b c : Int, H t = some (.lst [.int a, .int b, .int c])
/-- a draw: any number below many; the tape alone is changed -/
def spDraw0 : Sp := fun vs H Q _ => ∃ t n, vs = [.ref t, .int n] ∧ TapeA H t ∧ 0 < n ∧ n < 100000 ∧ ∀ H' i, 0 ≤ i → i < n → Keep [t] H H' → TapeA H' t → Q (.int i) H'
section
variable {P : Program} {w : World} {K : PySem.W.Frag} {mg : Str → Option Value} {base : Heap}
theorem sc73 : FnScope ["_law_tape_here", "_law_many", "_law_number"] ["_law_tape_here", "_law_many"] (C8.fnScope st73) := C8.fnScope_by (by decide +kernel)
theorem ok_law_draw0 (T : Txt K mg) : C8.Cal P w K mg base 1 "_law_draw" spDraw0 [] := by
  refine cal_by (k := 0) (T.df 73 _ rfl) (g_law_draw T) sc73 (fun _ _ _ _ us hl => match us, hl with | [_, _], _ => rfl) (fun vs H Q E h => ?_) (fun A outer s H vs Q E hr o h => ?_)
  · obtain ⟨t, n, rfl, _⟩ := h
    rfl
  · obtain ⟨t, n, rfl, ⟨a, b, c, ht⟩, hn, hm, k⟩ := h
    refine ⟨_, (pss_cons (ps_if (pt_cmpR (op_self o) (pe_ix (ix_self o) (pv 0) pe_int (fun _ _ => rfl)) pe_int (nomark _)) (pss_cons (ps_set (i := 2) (sc73).nd rfl (by first | exact Or.inl rfl | exact Or.inr rfl) (pe_op (op_self o) (pe_ix (ix_self o) (pv 0) pe_int (fun _ _ => rfl)) (pv 1)))
      (pss_cons (ps_asg (pe_op (op_self o) (pe_ix (ix_self o) (pv 0) pe_int (fun _ _ => rfl)) (pv 1)) (pg_sub (pv 0) pe_int (set_self o)))
      (pss_one (ps_ret (pv 2))))) pss_nil)
      (pss_cons (ps_asg (pe_op (op_self o) (pe_ix (ix_self o) (pv 0) pe_int (fun _ _ => rfl)) pe_int) (pg_sub (pv 0) pe_int (set_self o)))
      (pss_cons (ps_set (i := 2) (sc73).nd rfl (by first | exact Or.inl rfl | exact Or.inr rfl) (pe_op (op_self o) (pe_op (op_self o) (pe_op (op_self o) (pe_op (op_self o) (pe_ix (ix_self o) (pv 0) pe_int (fun _ _ => rfl)) (pe_op (op_self o) pe_int (pe_ix (ix_self o) (pv 0) pe_int (fun _ _ => rfl)))) pe_int) pe_int) pe_int))
      (pss_cons (ps_set (i := 2) (sc73).nd rfl (by first | exact Or.inl rfl | exact Or.inr rfl) (pe_op (op_self o) (pe_op (op_self o) (pv 2) (pe_op (op_self o) (pe_op (op_self o) (pv 2) pe_int) pe_int)) pe_int))
      (pss_one (ps_ret (pe_op (op_self o) (pe_op (op_self o) (pe_op (op_self o) (pv 2) (pe_op (op_self o) (pe_op (op_self o) (pv 2) pe_int) pe_int)) pe_int) (pv 1)))))))), ?_⟩
    walk_at "go"
    refine iteD (fun hb => ?_) (fun hb => ?_)
    · walk_at "go"
      refine v_setL ht (j := 1) rfl fun H2 k2 h2 => ?_
      walk_at "go"
      exact k H2 _ (Int.emod_nonneg _ (by omega)) (Int.emod_lt_of_pos _ hn) k2 ⟨_, _, _, h2⟩
    · walk_at "go"
      refine v_setL ht (j := 2) rfl fun H2 k2 h2 => ?_
      have h2 : H2 t = some (.lst [.int a, .int b, .int (c + 1)]) := h2
      walk_at "go"
      exact k H2 _ (Int.emod_nonneg _ (by omega)) (Int.emod_lt_of_pos _ hn) k2 ⟨_, _, _, h2⟩
/-! the tape as a thing of its own: what it holds is not told, so a draw leaves the abstract heap as it was -/
def TapeO (t : Addr) : HO := .ext fun h => ∃ (a b c : Int) (x y z : Tok) (n : Nat), h.get? t = some { cls := .type "list", data := .seq #[.int a x, .int b y, .int c z] n }
theorem tape_at {H : Hp} {h : Heap} {t : Addr} (ok : HOk P w H h) (e : H t = some (TapeO t)) : ∃ (a b c : Int) (x y z : Tok) (n : Nat), h.get? t = some { cls := .type "list", data := .seq #[.int a x, .int b y, .int c z] n } := (ok t _ e).1
theorem hok_swap {H : Hp} {h : Heap} {t : Addr} {o o' : HO} (ok : HOk P w H h) (e : H t = some o) (n1 : ∀ x, o ≠ .own x) (n2 : ∀ xs, o ≠ .tup xs) (new : ObjOk P w (upd H t o') h t o') : HOk P w (upd H t o') h := fun b u q => by
  by_cases hb : b = t
  · subst hb
    rw [upd_same] at q
    cases q
    exact new
  · rw [upd_ne hb] at q
    exact (ok b u q).stay (fun _ _ _ z => z) (fun d z => by rw [upd_ne (fun y => by rw [y, e] at z; exact n1 _ (Option.some.inj z))]; exact z) fun d xs z => by rw [upd_ne (fun y => by rw [y, e] at z; exact n2 _ (Option.some.inj z))]; exact z
theorem un_swap {fs : List Addr} {H H' : Hp} {h h' : Heap} {t : Addr} {o o' u : HO} (e : H t = some o) (e2 : ∀ xs, o ≠ .tup xs) (e3 : ∀ ob v, o ≠ .frz ob v) (e4 : ∀ ps, o ≠ .tbl ps) (un : Un fs [] (upd H t o') H' h h') : Un fs [] H (upd H' t u) h h' where
  keep := fun b ob q n hf hx => un.keep b ob q (by rw [upd_ne (fun z => by rw [z, e] at n; cases n)]; exact n) hf hx
  slot := fun b ob q n hf hx => un.slot b ob q (by rw [upd_ne (fun z => by rw [z, e] at n; cases n)]; exact n) hf hx
  free := fun b ob q n hx => by
    have nb : b ≠ t := fun z => by rw [z, e] at n; cases n
    rw [upd_ne nb]
    exact un.free b ob q (by rw [upd_ne nb]; exact n) hx
  there := un.there
  tups := fun b xs q => by
    have nb : b ≠ t := fun z => by rw [z, e] at q; exact e2 _ (Option.some.inj q)
    rw [upd_ne nb]
    exact un.tups b xs (by rw [upd_ne nb]; exact q)
  frzs := fun b ob xs q => by
    have nb : b ≠ t := fun z => by rw [z, e] at q; exact e3 _ _ (Option.some.inj q)
    rw [upd_ne nb]
    exact un.frzs b ob xs (by rw [upd_ne nb]; exact q)
  tbls := fun b ps q => by
    have nb : b ≠ t := fun z => by rw [z, e] at q; exact e4 _ (Option.some.inj q)
    rw [upd_ne nb]
    exact un.tbls b ps (by rw [upd_ne nb]; exact q)
theorem tapeO_ok {H : Hp} {h : Heap} {t : Addr} {a b c : Int} {x y z : Tok} {n : Nat} (e : h.get? t = some { cls := .type "list", data := .seq #[.int a x, .int b y, .int c z] n }) : ObjOk P w H h t (TapeO t) :=
  ⟨⟨a, b, c, x, y, z, n, e⟩, ⟨_, e⟩, fun h1 h2 ⟨a, b, c, x, y, z, n, e⟩ st => ⟨a, b, c, x, y, z, n, st _ e⟩⟩
theorem tape_lst {H : Hp} {h : Heap} {t : Addr} {a b c : Int} (ok : HOk P w H h) (e : H t = some (.lst [.int a, .int b, .int c])) : ObjOk P w (upd H t (TapeO t)) h t (TapeO t) := by
  obtain ⟨_, its, n, r, e2⟩ := (show ObjOk P w H h t (.lst [.int a, .int b, .int c]) from ok t _ e)
  cases r with
  | cons r1 r => cases r with
    | cons r2 r => cases r with
      | cons r3 r =>
        cases r
        obtain ⟨x, rfl⟩ := r1
        obtain ⟨y, rfl⟩ := r2
        obtain ⟨z, rfl⟩ := r3
        exact tapeO_ok e2
/-- a draw: any number below many -/
def spDraw : Sp := fun vs H Q _ => ∃ t n, vs = [.ref t, .int n] ∧ H t = some (TapeO t) ∧ 0 < n ∧ n < 100000 ∧ ∀ H' i, 0 ≤ i → i < n → Same H H' → Q (.int i) H'
theorem ok_law_draw (T : Txt K mg) : C8.Cal P w K mg base 1 "_law_draw" spDraw [] := by
  obtain ⟨f, fd, ps, ds, F, hm, kp, b, d⟩ := (ok_law_draw0 (P := P) (w := w) (base := base) T).ex
  cases d
  have len : ∀ (vs : List V), vs.length = 2 → vs.length = ps.length := fun vs hv => by
    have := F.len [.ref 0, .int 1] (fun b => if b = 0 then some (.lst [.int 0, .int 0, .int 0]) else none) (fun _ _ => True) (fun _ _ _ => True) ⟨0, 1, rfl, ⟨0, 0, 0, rfl⟩, by decide, by decide, fun _ _ _ _ _ _ => trivial⟩
    rw [hv, ← this]
    rfl
  refine ⟨f, fd, ps, [], ⟨fun vs H Q E h => ?_, fun A outer s H args us vs Q E hr e0 hb hv h => ?_⟩, hm, kp, b, .nil⟩
  · obtain ⟨t, n, rfl, _⟩ := h
    exact len _ rfl
  · obtain ⟨t, n, rfl, ht, h0, h1, k⟩ := h
    obtain ⟨a, b, c, x, y, z, m, e⟩ := tape_at e0.hok ht
    have new : ObjOk P w (upd H t (.lst [.int a, .int b, .int c])) s.heap t (.lst [.int a, .int b, .int c]) := ⟨by show 3 ≤ sizeLine; decide, [.int a x, .int b y, .int c z], m, .cons ⟨x, rfl⟩ (.cons ⟨y, rfl⟩ (.cons ⟨z, rfl⟩ .nil)), e⟩
    have e1 : Env0 P w K mg base A outer s (upd H t (.lst [.int a, .int b, .int c])) := ⟨e0.frames, e0.mod, fun b o q => ⟨(e0.bs b o q).1, by
        rw [upd_ne (fun z => by have := (e0.bs b o q).2; rw [z, ht] at this; cases this)]
        exact (e0.bs b o q).2⟩, e0.bsz, e0.funs, fun b q => by
        rw [upd_ne (fun z => by have := e0.frf b q; rw [z, ht] at this; cases this)]
        exact e0.frf b q, hok_swap e0.hok ht (fun x z => by unfold TapeO at z; cases z) (fun x z => by unfold TapeO at z; cases z) new, e0.bare⟩
    refine codeAny_mono (F.run A outer s _ args us [.ref t, .int n] (fun v H' => TapeA H' t ∧ Q v (upd H' t (TapeO t))) E hr e1 hb hv ⟨t, n, rfl, ⟨a, b, c, upd_same⟩, h0, h1, fun H' i i0 i1 kk tp => ⟨tp, k _ i i0 i1 fun b o q => ?_⟩⟩) fun r s' hq => ?_
    · by_cases hb : b = t
      · rw [hb] at q ⊢
        rw [ht] at q
        cases q
        exact upd_same
      · rw [upd_ne hb]
        exact kk b o (by rw [upd_ne hb]; exact q) (nin1 hb)
    · cases r with
      | error e => exact hq
      | ok fl =>
        cases fl with
        | ret u =>
          obtain ⟨v, H', os, bare, un, hok, rv, ⟨a', b', c', tp⟩, q⟩ := hq
          exact ⟨v, upd H' t (TapeO t), os, bare, un_swap ht (fun x z => by unfold TapeO at z; cases z) (fun x y z => by unfold TapeO at z; cases z) (fun x z => by unfold TapeO at z; cases z) un, hok_swap hok tp (fun x z => nomatch z) (fun x z => nomatch z) (tape_lst hok tp), rv, q⟩
        | next => exact hq
        | brk => exact hq
        | cont => exact hq
end
end
section
set_option maxHeartbeats 4000000
section
variable {P : Program} {w : World} {K : PySem.W.Frag} {mg : Str → Option Value} {base : Heap}
/-! ### small tests -/
def spWhole : Sp := fun vs H Q _ => ∃ i : Int, vs = [.int i] ∧ Q (.bl true) H
theorem sc5 : FnScope ["thing"] ["thing"] (C8.fnScope st5) := C8.fnScope_by (by decide +kernel)
theorem ok_is_whole (T : Txt K mg) : C8.Cal P w K mg base 1 "is_whole" spWhole [] := by
  refine cal_by (k := 0) (T.df 5 _ rfl) (g_is_whole T) sc5 (fun _ _ _ _ us hl => match us, hl with | [_], _ => rfl) (fun vs H Q E h => ?_) (fun A outer s H vs Q E hr o h => ?_)
  · obtain ⟨i, rfl, _⟩ := h
    rfl
  · obtain ⟨i, rfl, k⟩ := h
    refine ⟨_, (pss_one (ps_ret (pe_and (pe_callB (cr_self o) (by rfl) (z_isinstance T) b_isinstance (pa_cons (pv 0) (pa_cons (pe_bltn (v := .ty "int") (by rfl) (z_int T) b_int rfl) pa_nil))) (pe_one (pe_not (pe_callB (cr_self o) (by rfl) (z_isinstance T) b_isinstance (pa_cons (pv 0) (pa_cons (pe_bltn (v := .ty "bool") (by rfl) (z_bool T) b_bool rfl) pa_nil)))))))), ?_⟩
    walk_at "go"
    exact k
def spBetween : Sp := fun vs H Q _ => ∃ i a b : Int, vs = [.int i, .int a, .int b] ∧ a ≤ i ∧ i ≤ b ∧ Q (.bl true) H
theorem sc6 : FnScope ["thing", "low", "high"] ["thing", "low", "high"] (C8.fnScope st6) := C8.fnScope_by (by decide +kernel)
theorem ok_is_between (T : Txt K mg) : C8.Cal P w K mg base 2 "is_between" spBetween [] := by
  refine cal_by (k := 1) (T.df 6 _ rfl) (g_is_between T) sc6 (fun _ _ _ _ us hl => match us, hl with | [_, _, _], _ => rfl) (fun vs H Q E h => ?_) (fun A outer s H vs Q E hr o h => ?_)
  · obtain ⟨i, a, b, rfl, _⟩ := h
    rfl
  · obtain ⟨i, a, b, rfl, h1, h2, k⟩ := h
    refine ⟨_, (pss_one (ps_ret (pe_and (C8.pe_c (ok_is_whole (P := P) (w := w) T) hr (by decide) (by rfl) (pa_cons (pv 0) pa_nil)) (pe_one (pe_chain (op_self o) (op_self o) (pv 1) (pv 0) (pv 2)))))), ?_⟩
    walk_at "go"
    refine ⟨i, rfl, ?_⟩
    walk_at "go"
    rw [decide_eq_true h2]
    exact k
def spBelow : Sp := fun vs H Q _ => ∃ i m : Int, vs = [.int i, .int m] ∧ 0 ≤ i ∧ i < m ∧ Q (.bl true) H
theorem sc44 : FnScope ["thing", "many"] ["thing", "many"] (C8.fnScope st44) := C8.fnScope_by (by decide +kernel)
theorem ok_is_below (T : Txt K mg) : C8.Cal P w K mg base 1 "is_below" spBelow [] := by
  refine cal_by (k := 0) (T.df 44 _ rfl) (g_is_below T) sc44 (fun _ _ _ _ us hl => match us, hl with | [_, _], _ => rfl) (fun vs H Q E h => ?_) (fun A outer s H vs Q E hr o h => ?_)
  · obtain ⟨i, m, rfl, _⟩ := h
    rfl
  · obtain ⟨i, m, rfl, h1, h2, k⟩ := h
    refine ⟨_, (pss_one (ps_ret (pe_and (pe_callB (cr_self o) (by rfl) (z_isinstance T) b_isinstance (pa_cons (pv 0) (pa_cons (pe_bltn (v := .ty "int") (by rfl) (z_int T) b_int rfl) pa_nil))) (pe_and (pe_not (pe_callB (cr_self o) (by rfl) (z_isinstance T) b_isinstance (pa_cons (pv 0) (pa_cons (pe_bltn (v := .ty "bool") (by rfl) (z_bool T) b_bool rfl) pa_nil)))) (pe_one (pe_chain (op_self o) (op_self o) pe_int (pv 0) (pv 1))))))), ?_⟩
    walk_at "go"
    rw [decide_eq_true h2]
    exact k
def spWait : Sp := fun vs H Q _ => ∃ (p : Addr) (i j m : Int), vs = [.ref p, .int m] ∧ H p = some (.tup [.int i, .int j]) ∧ 0 ≤ i ∧ i < m ∧ 0 ≤ j ∧ j < m ∧ Q (.bl true) H
theorem sc48 : FnScope ["thing", "many"] ["thing", "many"] (C8.fnScope st48) := C8.fnScope_by (by decide +kernel)
theorem ok_is_wait (T : Txt K mg) : C8.Cal P w K mg base 2 "is_wait" spWait [] := by
  refine cal_by (k := 1) (T.df 48 _ rfl) (g_is_wait T) sc48 (fun _ _ _ _ us hl => match us, hl with | [_, _], _ => rfl) (fun vs H Q E h => ?_) (fun A outer s H vs Q E hr o h => ?_)
  · obtain ⟨p, i, j, m, rfl, _⟩ := h
    rfl
  · obtain ⟨p, i, j, m, rfl, hp, h1, h2, h3, h4, k⟩ := h
    refine ⟨_, (pss_one (ps_ret (pe_and (pe_callB (cr_self o) (by rfl) (z_isinstance T) b_isinstance (pa_cons (pv 0) (pa_cons (pe_bltn (v := .ty "tuple") (by rfl) (z_tuple T) b_tuple rfl) pa_nil))) (pe_and (pe_cmpR (op_self o) (pe_callB (cr_self o) (by rfl) (z_len T) b_len (pa_cons (pv 0) pa_nil)) pe_int (nomark _)) (pe_and (C8.pe_c (ok_is_below (P := P) (w := w) T) hr (by decide) (by rfl) (pa_cons (pe_ix (ix_self o) (pv 0) pe_int (fun _ _ => rfl)) (pa_cons (pv 1) pa_nil))) (pe_one (C8.pe_c (ok_is_below (P := P) (w := w) T) hr (by decide) (by rfl) (pa_cons (pe_ix (ix_self o) (pv 0) pe_int (fun _ _ => rfl)) (pa_cons (pv 1) pa_nil))))))))), ?_⟩
    walk_at "go"
    refine ⟨i, m, rfl, h1, h2, ?_⟩
    walk_at "go"
    exact ⟨j, m, rfl, h3, h4, k⟩
/-! ### what a rim is told as -/
inductive Rk where
  | fx | mi | ro
def RimA (H : Hp) (a : Addr) : Rk → Prop
  | .fx => H a = some (.tup [.str "fixed", .int 7])
  | .mi => H a = some (.tup [.str "mirror"])
  | .ro => H a = some (.tup [.str "round"])
theorem RimA.same {H H' : Hp} {a : Addr} {k : Rk} (h : RimA H a k) (s : Same H H') : RimA H' a k := by
  cases k <;> exact s _ _ h
theorem dp_str {K : PySem.W.Frag} {H : Hp} {a : Addr} {x : Str} (h : H a = some (.tup [.str x])) : Dp K H (.ref a) (.tuple [.str x]) := .tup (SqT.of h) (.cons (.str x) .nil)
theorem shp {u : Str} (hk : PyData.strOk u = true) : SeqAt.shaped (.tuple [.str u]) = true := by
  show (PyData.canLay0 (.tuple [.str u]) && decide (PyData.depth (.tuple [.str u]) ≤ 64)) = true
  simp [PyData.canLay0, PyData.canLayAll0, PyData.depth, PyData.depthAll, hk]
def rEqS1 : R2 := fun x y H Q => ∃ a b u v, x = .ref a ∧ y = .ref b ∧ H a = some (.tup [.str u]) ∧ H b = some (.tup [.str v]) ∧ Q (.bl (u == v)) H
theorem v_eqS1 {H : Hp} {Q : VK} {a b : Addr} {u v : Str} {c : Bool} (ha : H a = some (.tup [.str u])) (hb : H b = some (.tup [.str v])) (hc : (u == v) = c) (ku : PyData.strOk u = true) (kv : PyData.strOk v = true) (q : Q (.bl c) H) : OpV P w K (compareOp .Eq) (.ref a) (.ref b) H Q := by
  intro X o
  obtain ⟨rfl, rfl, rfl, hc', hu⟩ := o
  refine ⟨_, op_eqD (by omega), ⟨_, _, dp_str ha, dp_str hb, shp ku, shp kv, ?_⟩⟩
  have e : PyData.eqv (.tuple [.str u]) (.tuple [.str v]) = c := by
    rw [← hc]
    simp [PyData.eqv, PyData.eqvAll]
  rw [e]
  exact q
def spRim : Sp := fun vs H Q _ => ∃ (p : Addr) (k : Rk), vs = [.ref p] ∧ RimA H p k ∧ ∀ H', Same H H' → Q (.bl true) H'
theorem sc7 : FnScope ["thing"] ["thing"] (C8.fnScope st7) := C8.fnScope_by (by decide +kernel)
theorem ok_is_rim (T : Txt K mg) : C8.Cal P w K mg base 3 "is_rim" spRim [] := by
  refine cal_by (k := 2) (T.df 7 _ rfl) (g_is_rim T) sc7 (fun _ _ _ _ us hl => match us, hl with | [_], _ => rfl) (fun vs H Q E h => ?_) (fun A outer s H vs Q E hr o h => ?_)
  · obtain ⟨p, k, rfl, _⟩ := h
    rfl
  · obtain ⟨p, k, rfl, hp, q⟩ := h
    refine ⟨_, (pss_cons (ps_if (PW.pt (pw_or (pt_not (pt_val (pe_callB (cr_self o) (by rfl) (z_isinstance T) b_isinstance (pa_cons (pv 0) (pa_cons (pe_bltn (v := .ty "tuple") (by rfl) (z_tuple T) b_tuple rfl) pa_nil))))) (pw_or1 (pt_cmpR (op_self o) (pe_callB (cr_self o) (by rfl) (z_len T) b_len (pa_cons (pv 0) pa_nil)) pe_int (nomark _))))) (pss_one (ps_ret pe_bl)) pss_nil)
      (pss_cons (ps_if (pt_cmpR (op_self o) (pe_ix (ix_self o) (pv 0) pe_int (fun _ _ => rfl)) pe_str (nomark _)) (pss_one (ps_ret (pe_and (pe_cmpR (op_self o) (pe_callB (cr_self o) (by rfl) (z_len T) b_len (pa_cons (pv 0) pa_nil)) pe_int (nomark _)) (pe_one (C8.pe_c (ok_is_between (P := P) (w := w) T) hr (by decide) (by rfl) (pa_cons (pe_ix (ix_self o) (pv 0) pe_int (fun _ _ => rfl)) (pa_cons pe_int (pa_cons (C8.pe_gc (by rfl) (i_MOST_FIXED T)) pa_nil)))))))) pss_nil)
      (pss_one (ps_ret (pe_or (pe_cmpR (op_self o) (pv 0) (pe_tup (pa_mn (pa_cons pe_str pa_nil))) (nomark _)) (pe_one (pe_cmpR (op_self o) (pv 0) (pe_tup (pa_mn (pa_cons pe_str pa_nil))) (nomark _)))))))), ?_⟩
    cases k with
    | fx =>
      have hp : H p = some (.tup [.str "fixed", .int 7]) := hp
      walk_at "go"
      exact ⟨7, 0, _, rfl, by decide, by decide, q _ (Same.refl H)⟩
    | mi =>
      have hp : H p = some (.tup [.str "mirror"]) := hp
      walk_at "go"
      refine ⟨len1, fun t H2 nt s2 ht => ?_⟩
      walk_at "go"
      refine v_eqS1 (c := true) (s2 _ _ hp) ht (by decide +kernel) (by decide +kernel) (by decide +kernel) ?_
      walk_at "go"
      exact q _ s2
    | ro =>
      have hp : H p = some (.tup [.str "round"]) := hp
      walk_at "go"
      refine ⟨len1, fun t H2 nt s2 ht => ?_⟩
      walk_at "go"
      refine v_eqS1 (c := false) (s2 _ _ hp) ht (by decide +kernel) (by decide +kernel) (by decide +kernel) ?_
      walk_at "go"
      refine ⟨len1, fun t' H3 nt' s3 ht' => ?_⟩
      walk_at "go"
      refine v_eqS1 (c := true) (s3 _ _ (s2 _ _ hp)) ht' (by decide +kernel) (by decide +kernel) (by decide +kernel) ?_
      walk_at "go"
      exact q _ (s2.trans s3)
end
end
section
set_option maxHeartbeats 4000000
/-! ### all but lists and dicts stay -/
def isM : HO → Bool
  | .lst _ => true
  | .dK _ => true
  | _ => false
def Nol (H H' : Hp) : Prop := ∀ b o, H b = some o → isM o = false → H' b = some o
theorem Nol.refl (H : Hp) : Nol H H := fun _ _ h _ => h
theorem Nol.trans {H H1 H2 : Hp} (a : Nol H H1) (b : Nol H1 H2) : Nol H H2 := fun c o h n => b c o (a c o h n) n
theorem same_nol {H H' : Hp} (s : Same H H') : Nol H H' := fun b o h _ => s b o h
theorem Keep.nol {H H' : Hp} {D : Addr} {o : HO} (k : Keep [D] H H') (h : H D = some o) (m : isM o = true) : Nol H H' := fun b u e n => k b u e (nin1 fun z => by
  rw [z, h] at e
  cases e
  rw [m] at n
  cases n)
theorem Keep.nolL {H H' : Hp} {D : Addr} {xs : List V} (k : Keep [D] H H') (h : H D = some (.lst xs)) : Nol H H' := k.nol h rfl
theorem Nol.tups {H H' : Hp} (s : Nol H H') : Tups H H' := fun b xs h => s b _ h rfl
theorem SpA.nol {H H' : Hp} {a : Addr} {z : Sp2} (h : SpA H a z) (s : Nol H H') : SpA H' a z := h.mono s.tups
theorem SpA.same {H H' : Hp} {a : Addr} {z : Sp2} (h : SpA H a z) (s : Same H H') : SpA H' a z := h.mono (same_nol s).tups
theorem LSp.same {H H' : Hp} {l : Addr} {ks : SpL} (h : LSp H l ks) (s : Same H H') : LSp H' l ks := ⟨s _ _ h.1, fun p hp => (h.2 p hp).same s⟩
theorem LSp.keep {H H' : Hp} {l D : Addr} {ks : SpL} (h : LSp H l ks) (s : Nol H H') (e : H' l = some (.lst ks.vs)) : LSp H' l ks := ⟨e, fun p hp => (h.2 p hp).nol s⟩
theorem keep0 {H H' : Hp} (k : Keep [] H H') : Same H H' := fun b o h => k b o h (by simp)
theorem same_k0 {H H' : Hp} (k : Same H H') : Keep [] H H' := fun b o h _ => k b o h
/-- the object at D is changed, D was not there at H -/
theorem same_of_new {H H1 H2 : Hp} {D : Addr} (s : Same H H1) (n : H D = none) (k : Keep [D] H1 H2) : Same H H2 := fun b o e => k b o (s b o e) (nin1 (ne_of_none e n))
end
section
set_option maxHeartbeats 4000000
section
variable {P : Program} {w : World} {K : PySem.W.Frag} {σ : L2.St} {H : Hp} {Q : VK} {D : Ends} {te : TE} {g : TG} {tb : TS} {tt : TT}
theorem forR {n : Nat} {j : Int} (hj : j = n) (h1 : n ≤ 1000000) (Pv : Nat → L2.St → Hp → Prop) (h0 : Pv 0 σ H) (hs : ∀ i σ H, i < n → Pv i σ H → g (.int i) σ H fun σ2 H2 => tb { D with nx := Pv (i + 1), ct := Pv (i + 1), bk := D.nx } σ2 H2) (hd : ∀ σ H, Pv n σ H → D.nx σ H) : ItR [.int j] H (ForJ g tb D σ) := by
  subst hj
  refine itR (by omega) (by omega) ?_
  rw [Int.toNat_natCast]
  refine forZ walk_range Pv h0 (fun _ _ _ _ _ => trivial) (fun i x σ H H' hi p y => ?_) hd
  obtain ⟨rfl, rfl⟩ := y
  have e : ((0 : Int) + (i : Nat)) = (i : Int) := by omega
  dsimp only
  rw [e]
  exact hs i σ _ hi p
theorem forR2 {n : Nat} {a b : Int} (hj : b = a + n) (ha : -1000000 ≤ a ∧ a ≤ 1000000) (h1 : n ≤ 1000000) (Pv : Nat → L2.St → Hp → Prop) (h0 : Pv 0 σ H) (hs : ∀ i σ H, i < n → Pv i σ H → g (.int (a + (i : Nat))) σ H fun σ2 H2 => tb { D with nx := Pv (i + 1), ct := Pv (i + 1), bk := D.nx } σ2 H2) (hd : ∀ σ H, Pv n σ H → D.nx σ H) : ItR2 [.int a, .int b] H (ForJ g tb D σ) := by
  subst hj
  refine itR2 (by omega) ?_
  have e : (a + (n : Int) - a).toNat = n := by omega
  rw [e]
  refine forZ walk_range Pv h0 (fun _ _ _ _ _ => trivial) (fun i x σ H H' hi p y => ?_) hd
  obtain ⟨rfl, rfl⟩ := y
  exact hs i σ _ hi p
theorem forL {a : Addr} {xs : List V} (Pv : Nat → L2.St → Hp → Prop) (h0 : Pv 0 σ H) (hG : ∀ i σ H, i ≤ xs.length → Pv i σ H → H a = some (.lst xs)) (hs : ∀ i x σ H, xs[i]? = some x → Pv i σ H → g x σ H fun σ2 H2 => tb { D with nx := Pv (i + 1), ct := Pv (i + 1), bk := D.nx } σ2 H2) (hd : ∀ σ H, Pv xs.length σ H → D.nx σ H) : ForJ g tb D σ (Itl K a) H := by
  refine forZ wl Pv h0 hG (fun i x σ H H' hi p y => ?_) hd
  obtain ⟨rfl, y⟩ := y
  exact hs i x σ _ y p
theorem lcL {a : Addr} {xs : List V} {vs : List Nat} (S : List Addr) (R : Addr → Nat → List V → Hp → Prop) (hn : xs.length ≤ 1000000) (ha : H a = some (.lst xs)) (haS : a ∉ S)
    (h0 : ∀ D H', H D = none → Same H H' → H' D = some (.lst []) → R D 0 [] H')
    (hs : ∀ D i x acc H1, H D = none → xs[i]? = some x → acc.length ≤ i → Keep S H H1 → H1 D = some (.lst acc) → R D i acc H1 → g x (wipe σ vs) H1 fun σ3 H3 => wipe σ3 vs = wipe σ vs ∧ tt σ3 H3 fun b H4 =>
      if b = true then te σ3 H4 fun y H5 => H5 D = some (.lst acc) ∧ Keep S H H5 ∧ ∀ H6, Keep [D] H5 H6 → H6 D = some (.lst (acc ++ [y])) → R D (i + 1) (acc ++ [y]) H6 else H4 D = some (.lst acc) ∧ Keep S H H4 ∧ R D (i + 1) acc H4)
    (hd : ∀ D acc H', H D = none → acc.length ≤ xs.length → Keep S H H' → H' D = some (.lst acc) → R D xs.length acc H' → Q (.ref D) H') : LcJ (mnG g) (mnT tt) (mnE te) vs σ Q (Itl K a) H := by
  refine lcZ wl S R (bigL' hn) (fun H' k => k _ _ ha haS) h0 (fun D i x acc H1 H2 nD hi hl k hD r y => ?_) hd
  obtain ⟨rfl, y⟩ := y
  exact hs D i x acc _ nD y hl k hD r
theorem lcLs {a : Addr} {xs : List V} {vs : List Nat} (S : List Addr) (R : Addr → Nat → List V → Hp → Prop) (hn : xs.length ≤ 1000000) (ha : ∀ H', Keep S H H' → SqL K H' a xs)
    (h0 : ∀ D H', H D = none → Same H H' → H' D = some (.lst []) → R D 0 [] H')
    (hs : ∀ D i x acc H1, H D = none → xs[i]? = some x → acc.length ≤ i → Keep S H H1 → H1 D = some (.lst acc) → R D i acc H1 → g x (wipe σ vs) H1 fun σ3 H3 => wipe σ3 vs = wipe σ vs ∧ tt σ3 H3 fun b H4 =>
      if b = true then te σ3 H4 fun y H5 => H5 D = some (.lst acc) ∧ Keep S H H5 ∧ ∀ H6, Keep [D] H5 H6 → H6 D = some (.lst (acc ++ [y])) → R D (i + 1) (acc ++ [y]) H6 else H4 D = some (.lst acc) ∧ Keep S H H4 ∧ R D (i + 1) acc H4)
    (hd : ∀ D acc H', H D = none → acc.length ≤ xs.length → Keep S H H' → H' D = some (.lst acc) → R D xs.length acc H' → Q (.ref D) H') : LcJ (mnG g) (mnT tt) (mnE te) vs σ Q (Itl K a) H := by
  refine lcZ wls S R (bigL' hn) (fun H' k => ha _ k) h0 (fun D i x acc H1 H2 nD hi hl k hD r y => ?_) hd
  obtain ⟨rfl, y⟩ := y
  exact hs D i x acc _ nD y hl k hD r
theorem lcR {n : Nat} {j : Int} {vs : List Nat} (hj : j = n) (S : List Addr) (R : Addr → Nat → List V → Hp → Prop) (hn : n ≤ 1000000)
    (h0 : ∀ D H', H D = none → Same H H' → H' D = some (.lst []) → R D 0 [] H')
    (hs : ∀ D i acc H1, H D = none → i < n → acc.length ≤ i → Keep S H H1 → H1 D = some (.lst acc) → R D i acc H1 → g (.int i) (wipe σ vs) H1 fun σ3 H3 => wipe σ3 vs = wipe σ vs ∧ tt σ3 H3 fun b H4 =>
      if b = true then te σ3 H4 fun y H5 => H5 D = some (.lst acc) ∧ Keep S H H5 ∧ ∀ H6, Keep [D] H5 H6 → H6 D = some (.lst (acc ++ [y])) → R D (i + 1) (acc ++ [y]) H6 else H4 D = some (.lst acc) ∧ Keep S H H4 ∧ R D (i + 1) acc H4)
    (hd : ∀ D acc H', H D = none → acc.length ≤ n → Keep S H H' → H' D = some (.lst acc) → R D n acc H' → Q (.ref D) H') : ItR [.int j] H (LcJ (mnG g) (mnT tt) (mnE te) vs σ Q) := by
  subst hj
  refine itR (by omega) (by omega) ?_
  rw [Int.toNat_natCast]
  refine lcZ walk_range S R (bigL' hn) (fun _ _ => trivial) h0 (fun D i x acc H1 H2 nD hi hl k hD r y => ?_) hd
  obtain ⟨rfl, rfl⟩ := y
  have e : ((0 : Int) + (i : Nat)) = (i : Int) := by omega
  dsimp only
  rw [e]
  exact hs D i acc _ nD hi hl k hD r
end
theorem map_at {α : Type} {f : α → V} {l : List α} {i : Nat} {x : V} (h : (l.map f)[i]? = some x) : ∃ y, l[i]? = some y ∧ x = f y := by
  rw [List.getElem?_map] at h
  cases e : l[i]? with
  | none => rw [e] at h; cases h
  | some y => rw [e] at h; cases h; exact ⟨y, rfl, rfl⟩
end
section
set_option maxHeartbeats 4000000
section
variable {P : Program} {w : World} {K : PySem.W.Frag} {mg : Str → Option Value} {base : Heap}
/-! ### rims -/
/-- Rim.__init__, of an instance of C -/
def spRimI (C : Addr) : Sp := fun vs H Q _ => ∃ (x dx : Addr) (s : Int), vs = [.ref x, .int s] ∧ H x = some (.ins C dx []) ∧ ∀ H', Keep [x] H H' → H' x = some (.ins C dx (fs1_Rim (.int s))) → Q .non H'
theorem sc8 : FnScope ["self", "size"] ["self", "size"] (C8.fnScope st8) := C8.fnScope_by (by decide +kernel)
theorem ok_Rim_init (T : Txt K mg) {C : Addr} (c : Cls K C) (n : NoAttr K C "size") : ∃ fd, FnOk P w K mg base C8.CX0 1 d8.at_ fd ["self", "size"] (spRimI C) ∧ Binds K fd ["self", "size"] [] := by
  have key := fn_by (P := P) (w := w) (base := base) (mg := mg) (k := 0) (sp := spRimI C) (T.df 8 _ rfl) sc8 (fun vs H Q E h => ?_) (fun A outer s H vs Q E hr o h => ?_)
  · obtain ⟨fd, F, b⟩ := key
    exact ⟨fd, F, b (fun _ _ _ _ us hl => match us, hl with | [_, _], _ => rfl)⟩
  · obtain ⟨x, dx, s, rfl, _⟩ := h
    rfl
  · obtain ⟨x, dx, s, rfl, hx, k⟩ := h
    refine ⟨_, (pss_one (ps_fld (pv 0) (pv 1) rfl)), ?_⟩
    walk_at "go"
    exact ⟨x, C, dx, [], rfl, hx, c, n, (by decide), k _ (Keep.upd (List.mem_singleton.mpr rfl)) upd_same⟩
theorem ok_mk_Rim (T : Txt K mg) : C8.Mak P w K mg base 1 "Rim" 161 (spRimI 161) [] := by
  obtain ⟨fd, F, b⟩ := ok_Rim_init (P := P) (w := w) (base := base) T (c_Rim T) (n_Rim_size T)
  exact ⟨_, fd, _, [], k_Rim T, F, g_Rim T, b, .nil⟩
theorem ok_mk_MirrorRim (T : Txt K mg) : C8.Mak P w K mg base 1 "MirrorRim" 182 (spRimI 182) [] := by
  obtain ⟨fd, F, b⟩ := ok_Rim_init (P := P) (w := w) (base := base) T (c_MirrorRim T) (n_MirrorRim_size T)
  exact ⟨_, fd, _, [], k_MirrorRim T, F, g_MirrorRim T, b, .nil⟩
theorem c_cfn {σ : L2.St} {H : Hp} {Q : VK} {C : Addr} {sp : Sp} {E : XK} {to : TE} {t : TA} (q : to σ H fun x H1 => x = .ref C ∧ t σ H1 fun vs H2 => sp vs H2 Q E) : tCFn C sp E to t σ H Q := q
def spFixI : Sp := fun vs H Q _ => ∃ (x dx : Addr) (s b : Int), vs = [.ref x, .int s, .int b] ∧ H x = some (.ins 208 dx []) ∧ ∀ H', Keep [x] H H' → H' x = some (o_FixedRim dx (.int s) (.int b)) → Q .non H'
theorem sc11 : FnScope ["self", "size", "beyond"] ["self", "size", "beyond"] (C8.fnScope st11) := C8.fnScope_by (by decide +kernel)
theorem ok_mk_FixedRim (T : Txt K mg) : C8.Mak P w K mg base 2 "FixedRim" 208 spFixI [] := by
  obtain ⟨fdr, Fr, br⟩ := ok_Rim_init (P := P) (w := w) (base := base) T (c_FixedRim T) (n_FixedRim_size T)
  refine mak_by (k := 1) (T.df 11 _ rfl) (k_FixedRim T) (g_FixedRim T) sc11 (fun _ _ _ _ us hl => match us, hl with | [_, _, _], _ => rfl) (fun vs H Q E h => ?_) (fun A outer s H vs Q E hr o h => ?_)
  · obtain ⟨x, dx, s, b, rfl, _⟩ := h
    rfl
  · obtain ⟨x, dx, s, b, rfl, hx, k⟩ := h
    refine ⟨_, (pss_cons (ps_expr (pe_cfn (E := C8.E0) (f_Rim_init T) Fr (hr.mono (by decide)) br C8.pass0 (pe_glob (v := .ref 161) (by rfl) (g_Rim T) rfl) (pa_cons (pv 0) (pa_cons (pv 1) pa_nil))))
      (pss_one (ps_fld (pv 0) (pv 2) rfl))), ?_⟩
    walk_at "go"
    refine c_cfn ?_
    walk_at "go"
    refine ⟨rfl, ?_⟩
    walk_at "go"
    refine ⟨x, dx, s, rfl, hx, fun H1 k1 h1 => ?_⟩
    walk_at "go"
    refine st_FixedRim_beyond T h1 fun H2 k2 h2 => ?_
    walk_at "go"
    exact k _ (k1.trans k2) h2
/-- an edge of a grid: its class by what it was told -/
def EdgeA (H : Hp) (a : Addr) (s : Int) : Rk → Prop
  | .fx => ∃ dx, H a = some (o_FixedRim dx (.int s) (.int 7))
  | .mi => ∃ dx, H a = some (o_MirrorRim dx (.int s))
  | .ro => ∃ dx, H a = some (o_Rim dx (.int s))
theorem EdgeA.same {H H' : Hp} {a : Addr} {s : Int} {k : Rk} (h : EdgeA H a s k) (e : Same H H') : EdgeA H' a s k := by
  cases k <;> exact ⟨h.choose, e _ _ h.choose_spec⟩
def EdgeC (C : Addr) : Prop := C = 161 ∨ C = 182 ∨ C = 208
def spAt : Sp := fun vs H Q _ => ∃ (a : Addr) (n s : Int) (k : Rk), vs = [.ref a, .int n] ∧ EdgeA H a s k ∧ 0 < s ∧ s < 100 ∧ (∀ i, 0 ≤ i → i < s → Q (.int i) H) ∧ (k = .fx → Q .non H)
/-- .. of the class C -/
def spAtC (C : Addr) : Sp := fun vs H Q _ => ∃ (a : Addr) (n s : Int), vs = [.ref a, .int n] ∧ 0 < s ∧ s < 100 ∧ (∀ i, 0 ≤ i → i < s → Q (.int i) H) ∧ ((C = 161 ∧ EdgeA H a s .ro) ∨ (C = 182 ∧ EdgeA H a s .mi) ∨ (C = 208 ∧ EdgeA H a s .fx ∧ Q .non H))
theorem sc9 : FnScope ["self", "number"] ["self", "number"] (C8.fnScope st9) := C8.fnScope_by (by decide +kernel)
theorem sc10 : FnScope ["self", "number", "there"] ["self", "number"] (C8.fnScope st10) := C8.fnScope_by (by decide +kernel)
theorem sc12 : FnScope ["self", "number"] ["self", "number"] (C8.fnScope st12) := C8.fnScope_by (by decide +kernel)
theorem ok_at_ro (T : Txt K mg) : C8.Met P w K mg base 1 161 "at_number" (spAtC 161) [] := by
  refine met_by (k := 0) (T.df 9 _ rfl) (c_Rim T) (m_Rim_at_number T) sc9 (fun _ _ _ _ us hl => match us, hl with | [_, _], _ => rfl) (fun vs H Q E h => ?_) (fun A outer s H vs Q E hr o h => ?_)
  · obtain ⟨x, dx, s, rfl, _⟩ := h
    rfl
  · obtain ⟨a, n, s, rfl, h0, h1, k, q⟩ := h
    obtain ⟨dx, e⟩ : EdgeA H a s .ro := by rcases q with q | q | q <;> first | exact q.2 | exact absurd q.1 (by decide)
    refine ⟨_, (pss_one (ps_ret (pe_op (op_self o) (pv 1) (pe_fldZ o (pv 0) rfl)))), ?_⟩
    have e' : H a = some (o_Rim dx (.int s)) := e
    walk_at "go"
    exact k _ (Int.emod_nonneg _ (by omega)) (Int.emod_lt_of_pos _ h0)
theorem ok_at_mi (T : Txt K mg) : C8.Met P w K mg base 1 182 "at_number" (spAtC 182) [] := by
  refine met_by (k := 0) (T.df 10 _ rfl) (c_MirrorRim T) (m_MirrorRim_at_number T) sc10 (fun _ _ _ _ us hl => match us, hl with | [_, _], _ => rfl) (fun vs H Q E h => ?_) (fun A outer s H vs Q E hr o h => ?_)
  · obtain ⟨x, dx, s, rfl, _⟩ := h
    rfl
  · obtain ⟨a, n, s, rfl, h0, h1, k, q⟩ := h
    obtain ⟨dx, e⟩ : EdgeA H a s .mi := by rcases q with q | q | q <;> first | exact q.2 | exact absurd q.1 (by decide)
    refine ⟨_, (pss_cons (ps_set (i := 2) (sc10).nd rfl (by first | exact Or.inl rfl | exact Or.inr rfl) (pe_op (op_self o) (pv 1) (pe_op (op_self o) pe_int (pe_fldZ o (pv 0) rfl))))
      (pss_cons (ps_if (pt_cmpR (op_self o) (pv 2) (pe_fldZ o (pv 0) rfl) (nomark _)) (pss_one (ps_ret (pv 2))) pss_nil)
      (pss_one (ps_ret (pe_op (op_self o) (pe_op (op_self o) (pe_op (op_self o) pe_int (pe_fldZ o (pv 0) rfl)) pe_int) (pv 2)))))), ?_⟩
    have e' : H a = some (o_MirrorRim dx (.int s)) := e
    have b1 : 0 ≤ n % (2 * s) := Int.emod_nonneg _ (by omega)
    have b2 : n % (2 * s) < 2 * s := Int.emod_lt_of_pos _ (by omega)
    walk_at "go"
    refine iteD (fun hb => ?_) (fun hb => ?_)
    · walk_at "go"
      exact k _ b1 hb
    · walk_at "go"
      exact k _ (by omega) (by omega)
theorem ok_at_fx (T : Txt K mg) : C8.Met P w K mg base 1 208 "at_number" (spAtC 208) [] := by
  refine met_by (k := 0) (T.df 12 _ rfl) (c_FixedRim T) (m_FixedRim_at_number T) sc12 (fun _ _ _ _ us hl => match us, hl with | [_, _], _ => rfl) (fun vs H Q E h => ?_) (fun A outer s H vs Q E hr o h => ?_)
  · obtain ⟨x, dx, s, rfl, _⟩ := h
    rfl
  · obtain ⟨a, n, s, rfl, h0, h1, k, q⟩ := h
    obtain ⟨⟨dx, e⟩, qn⟩ : EdgeA H a s .fx ∧ Q .non H := by rcases q with q | q | q <;> first | exact q.2 | exact absurd q.1 (by decide)
    refine ⟨_, (pss_cons (ps_if (pt_chain (op_self o) (op_self o) pe_int (pv 1) (pe_fldZ o (pv 0) rfl)) (pss_one (ps_ret (pv 1))) pss_nil)
      (pss_one (ps_ret pe_non))), ?_⟩
    have e' : H a = some (o_FixedRim dx (.int s) (.int 7)) := e
    walk_at "go"
    refine iteD (fun hb => ?_) (fun hb => ?_)
    · walk_at "go"
      refine iteD (fun hc => ?_) (fun hc => ?_)
      · walk_at "go"
        exact k _ hb hc
      · walk_at "go"
        exact qn
    · walk_at "go"
      exact qn
theorem ok_at_number (T : Txt K mg) {C : Addr} (hC : EdgeC C) : C8.Met P w K mg base 1 C "at_number" (spAtC C) [] := by
  rcases hC with h | h | h <;> subst h
  · exact ok_at_ro T
  · exact ok_at_mi T
  · exact ok_at_fx T
/-- the leaf of edge.at_number(n) -/
theorem at_leaf {σ : L2.St} {H : Hp} {Q : VK} {ta : TE} {t : TA} {a : Addr} {s n : Int} {k : Rk} (he : EdgeA H a s k) (h0 : 0 < s) (h1 : s < 100) (hq : ∀ i, 0 ≤ i → i < s → Q (.int i) H) (hn : k = .fx → Q .non H)
    (hta : ∀ R : VK, R (.ref a) H → ta σ H R) (ht : ∀ R : List V → Hp → Prop, R [.int n] H → t σ H R) : ∃ C, EdgeC C ∧ tMeth C "at_number" (spAtC C) [] C8.E0 ta t σ H Q := by
  cases k with
  | ro =>
    obtain ⟨dx, e⟩ := id he
    exact ⟨161, .inl rfl, c_meth (hta _ (rc_Rim_at_number e (ht _ ⟨a, n, s, rfl, h0, h1, hq, .inl ⟨rfl, he⟩⟩)))⟩
  | mi =>
    obtain ⟨dx, e⟩ := id he
    exact ⟨182, .inr (.inl rfl), c_meth (hta _ (rc_MirrorRim_at_number e (ht _ ⟨a, n, s, rfl, h0, h1, hq, .inr (.inl ⟨rfl, he⟩)⟩)))⟩
  | fx =>
    obtain ⟨dx, e⟩ := id he
    exact ⟨208, .inr (.inr rfl), c_meth (hta _ (rc_FixedRim_at_number e (ht _ ⟨a, n, s, rfl, h0, h1, hq, .inr (.inr ⟨rfl, he, hn rfl⟩)⟩)))⟩
def spRimOf : Sp := fun vs H Q _ => ∃ (p : Addr) (k : Rk) (s : Int), vs = [.int s, .ref p] ∧ RimA H p k ∧ ∀ a H', H a = none → Same H H' → EdgeA H' a s k → Q (.ref a) H'
theorem sc13 : FnScope ["size", "told"] ["size", "told"] (C8.fnScope st13) := C8.fnScope_by (by decide +kernel)
theorem ok_rim_of (T : Txt K mg) : C8.Cal P w K mg base 4 "rim_of" spRimOf [] := by
  refine cal_by (k := 3) (T.df 13 _ rfl) (g_rim_of T) sc13 (fun _ _ _ _ us hl => match us, hl with | [_, _], _ => rfl) (fun vs H Q E h => ?_) (fun A outer s H vs Q E hr o h => ?_)
  · obtain ⟨p, k, s, rfl, _⟩ := h
    rfl
  · obtain ⟨p, k, s, rfl, hp, q⟩ := h
    refine ⟨_, (pss_cons (ps_if (pt_cmpR (op_self o) (pe_ix (ix_self o) (pv 1) pe_int (fun _ _ => rfl)) pe_str (nomark _)) (pss_one (ps_ret (C8.pe_mk (ok_mk_MirrorRim (P := P) (w := w) T) hr (by decide) (by rfl) (pa_mn (pa_cons (pv 0) pa_nil))))) pss_nil)
      (pss_cons (ps_if (pt_cmpR (op_self o) (pe_ix (ix_self o) (pv 1) pe_int (fun _ _ => rfl)) pe_str (nomark _)) (pss_one (ps_ret (C8.pe_mk (ok_mk_Rim (P := P) (w := w) T) hr (by decide) (by rfl) (pa_mn (pa_cons (pv 0) pa_nil))))) pss_nil)
      (pss_one (ps_ret (C8.pe_mk (ok_mk_FixedRim (P := P) (w := w) T) hr (by decide) (by rfl) (pa_mn (pa_cons (pv 0) (pa_cons (pe_ix (ix_self o) (pv 1) pe_int (fun _ _ => rfl)) pa_nil)))))))), ?_⟩
    cases k with
    | mi =>
      have hp : H p = some (.tup [.str "mirror"]) := hp
      walk_at "go"
      intro x dx H2 nx nd ne s2 hx hdx
      refine ⟨x, dx, s, rfl, hx, fun H3 k3 h3 => ⟨rfl, ?_⟩⟩
      exact q x H3 nx (fun b o e => k3 b o (s2 b o e) (nin1 (ne_of_none e nx))) ⟨dx, h3⟩
    | ro =>
      have hp : H p = some (.tup [.str "round"]) := hp
      walk_at "go"
      intro x dx H2 nx nd ne s2 hx hdx
      refine ⟨x, dx, s, rfl, hx, fun H3 k3 h3 => ⟨rfl, ?_⟩⟩
      exact q x H3 nx (fun b o e => k3 b o (s2 b o e) (nin1 (ne_of_none e nx))) ⟨dx, h3⟩
    | fx =>
      have hp : H p = some (.tup [.str "fixed", .int 7]) := hp
      walk_at "go"
      intro x dx H2 nx nd ne s2 hx hdx
      refine ⟨x, dx, s, 7, rfl, hx, fun H3 k3 h3 => ⟨rfl, ?_⟩⟩
      exact q x H3 nx (fun b o e => k3 b o (s2 b o e) (nin1 (ne_of_none e nx))) ⟨dx, h3⟩
end
end
section
set_option maxHeartbeats 4000000
theorem EdgeA.nol {H H' : Hp} {a : Addr} {s : Int} {k : Rk} (h : EdgeA H a s k) (e : Nol H H') : EdgeA H' a s k := by
  cases k <;> exact ⟨h.choose, e _ _ h.choose_spec rfl⟩
theorem RimA.nol {H H' : Hp} {a : Addr} {k : Rk} (h : RimA H a k) (s : Nol H H') : RimA H' a k := by
  cases k <;> exact s _ _ h rfl
/-- tellings of rims: one a line -/
def RimsA (H : Hp) (r : Addr) (sz : List Int) (rk : List Rk) : Prop := rk.length = sz.length ∧ ∃ ps : List Addr, H r = some (.lst (ps.map V.ref)) ∧ ps.length = sz.length ∧ ∀ (i : Nat) (p : Addr) (k : Rk), ps[i]? = some p → rk[i]? = some k → RimA H p k
theorem RimsA.same {H H' : Hp} {r : Addr} {sz : List Int} {rk : List Rk} (h : RimsA H r sz rk) (s : Same H H') : RimsA H' r sz rk := by
  obtain ⟨h0, ps, h1, h2, h3⟩ := h
  exact ⟨h0, ps, s _ _ h1, h2, fun i p k a b => (h3 i p k a b).same s⟩
def EdgesA (H : Hp) (e : Addr) (sz : List Int) (rk : List Rk) : Prop := ∃ es : List Addr, H e = some (.lst (es.map V.ref)) ∧ es.length = sz.length ∧ ∀ (i : Nat) (a : Addr) (s : Int) (k : Rk), es[i]? = some a → sz[i]? = some s → rk[i]? = some k → EdgeA H a s k
structure GridA (H : Hp) (g : Addr) (sz : List Int) : Prop where
  ok : SzOk sz
  ex : ∃ (dx s r e : Addr) (rk : List Rk), H g = some (o_Grid dx (.ref s) (.ref r) (.ref e)) ∧ H s = some (.lst (sz.map V.int)) ∧ rk.length = sz.length ∧ EdgesA H e sz rk
theorem EdgesA.same {H H' : Hp} {e : Addr} {sz : List Int} {rk : List Rk} (h : EdgesA H e sz rk) (s : Same H H') : EdgesA H' e sz rk := by
  obtain ⟨es, h1, h2, h3⟩ := h
  exact ⟨es, s _ _ h1, h2, fun i a z k x y w => (h3 i a z k x y w).same s⟩
theorem GridA.same {H H' : Hp} {g : Addr} {sz : List Int} (h : GridA H g sz) (t : Same H H') : GridA H' g sz := by
  obtain ⟨ok, dx, s, r, e, rk, h1, h2, h3, h4⟩ := h
  exact ⟨ok, dx, s, r, e, rk, t _ _ h1, t _ _ h2, h3, h4.same t⟩
section
variable {P : Program} {w : World} {K : PySem.W.Frag} {mg : Str → Option Value} {base : Heap}
def spGridI : Sp := fun vs H Q _ => ∃ (x dx sp rp : Addr) (sz : List Int) (rk : List Rk), vs = [.ref x, .ref sp, .ref rp] ∧ H x = some (.ins 657 dx []) ∧ SzOk sz ∧ H sp = some (.lst (sz.map V.int)) ∧ RimsA H rp sz rk ∧
  ∀ H', Keep [x] H H' → GridA H' x sz → Q .non H'
theorem sc53 : FnScope ["self", "sizes", "rims", "many", "k", "size", "rim"] ["self", "sizes", "rims"] (C8.fnScope st53) := C8.fnScope_by (by decide +kernel)
theorem prod_take (sz : List Int) (i : Nat) (s : Int) (h : sz[i]? = some s) : prodI (sz.take (i + 1)) = prodI (sz.take i) * s := by
  rw [List.take_add_one, h]
  simp [prodI]
theorem ok_mk_Grid (T : Txt K mg) : C8.Mak P w K mg base 5 "Grid" 657 spGridI [] := by
  refine mak_by (k := 4) (T.df 53 _ rfl) (k_Grid T) (g_Grid T) sc53 (fun _ _ _ _ us hl => match us, hl with | [_, _, _], _ => rfl) (fun vs H Q E h => ?_) (fun A outer s H vs Q E hr o h => ?_)
  · obtain ⟨x, dx, sp, rp, sz, rk, rfl, _⟩ := h
    rfl
  · obtain ⟨x, dx, sp, rp, sz, rk, rfl, hx, ok, hs, hr', k⟩ := h
    obtain ⟨hk, ps, hp, hpl, hpk⟩ := id hr'
    have l := sz_len ok
    refine ⟨_, (pss_cons (ps_if (PW.pt (pw_or (pt_not (pt_chain (op_self o) (op_self o) pe_int (pe_callB (cr_self o) (by rfl) (z_len T) b_len (pa_cons (pv 1) pa_nil)) (C8.pe_gc (by rfl) (i_MOST_LINES T)))) (pw_or1 (pt_cmpR (op_self o) (pe_callB (cr_self o) (by rfl) (z_len T) b_len (pa_cons (pv 2) pa_nil)) (pe_callB (cr_self o) (by rfl) (z_len T) b_len (pa_cons (pv 1) pa_nil)) (nomark _))))) (pss_one ps_never) pss_nil)
      (pss_cons (ps_set (i := 3) (sc53).nd rfl (by first | exact Or.inl rfl | exact Or.inr rfl) pe_int)
      (pss_cons (ps_for PassesOwn.never rfl (pi_range1 (by rfl) (z_range T) (pa_cons (pe_callB (cr_self o) (by rfl) (z_len T) b_len (pa_cons (pv 1) pa_nil)) pa_nil)) (pg_name (i := 4) (sc53).nd (by rfl) (by first | exact Or.inl rfl | exact Or.inr rfl)) (pss_cons (ps_if (PW.pt (pw_or (pt_not (pt_val (C8.pe_c (ok_is_between (P := P) (w := w) T) hr (by decide) (by rfl) (pa_cons (pe_ix (ix_self o) (pv 1) (pv 4) (fun _ _ => rfl)) (pa_cons pe_int (pa_cons (C8.pe_gc (by rfl) (i_MOST_SIZE T)) pa_nil)))))) (pw_or1 (pt_not (pt_val (C8.pe_c (ok_is_rim (P := P) (w := w) T) hr (by decide) (by rfl) (pa_cons (pe_ix (ix_self o) (pv 2) (pv 4) (fun _ _ => rfl)) pa_nil))))))) (pss_one ps_never) pss_nil)
      (pss_one (ps_set (i := 3) (sc53).nd rfl (by first | exact Or.inl rfl | exact Or.inr rfl) (pe_op (op_self o) (pv 3) (pe_ix (ix_self o) (pv 1) (pv 4) (fun _ _ => rfl)))))))
      (pss_cons (ps_if (pt_cmpR (op_self o) (pv 3) (C8.pe_gc (by rfl) (i_MOST_PLACES T)) (nomark _)) (pss_one ps_never) pss_nil)
      (pss_cons (ps_fld (pv 0) (pe_callTy (cr_self o) (by rfl) (z_list T) b_list (pa_cons (pv 1) pa_nil)) rfl)
      (pss_cons (ps_fld (pv 0) (pe_callTy (cr_self o) (by rfl) (z_list T) b_list (pa_cons (pv 2) pa_nil)) rfl)
      (pss_one (ps_fld (pv 0) (pe_lc (own := [("size", 5), ("rim", 6)]) rfl (sc53).nd (pi_zipZ o (by rfl) (z_zip T) (pa_cons (pv 1) (pa_cons (pv 2) pa_nil))) (blkOk_by (own := [("size", 5), ("rim", 6)]) (by kernel_rfl)) (fun _ _ _ _ _ => pg_mn (pg_tupZ (n := 2) o.blk (pgs_cons (pg_name (i := 5) (sc53).nd (by rfl) (by first | exact Or.inl rfl | exact Or.inr rfl)) (pgs_cons (pg_name (i := 6) (sc53).nd (by rfl) (by first | exact Or.inl rfl | exact Or.inr rfl)) pgs_nil)))) (fun _ _ _ _ _ => pts_mn pts_nil) (fun _ _ _ _ _ => pe_mn (C8.pe_c (ok_rim_of (P := P) (w := w) T) hr (by decide) (by rfl) (pa_cons (pv 5) (pa_cons (pv 6) pa_nil))))) rfl)))))))), ?_⟩
    walk_at "go"
    refine forR (n := sz.length) (by rw [List.length_map]) (by omega) (fun i σ H' => Same H H' ∧ ∃ kk, σ = [some (.ref x), some (.ref sp), some (.ref rp), some (.int (prodI (sz.take i))), kk, none, none]) ⟨Same.refl H, _, rfl⟩ (fun i σ H' hi ⟨e, kk, es⟩ => ?_) (fun σ H' ⟨e, kk, es⟩ => ?_)
    · subst es
      have hsi : sz[i]? = some sz[i] := List.getElem?_eq_getElem hi
      have hsv : (sz.map V.int)[i]? = some (V.int sz[i]) := by rw [List.getElem?_map, hsi]; rfl
      have hpi : ps[i]? = some (ps[i]'(by omega)) := List.getElem?_eq_getElem (by omega)
      have hpv : (ps.map V.ref)[i]? = some (V.ref (ps[i]'(by omega))) := by rw [List.getElem?_map, hpi]; rfl
      have b := sz_each ok _ (List.mem_of_getElem? hsi)
      walk_at "go"
      refine ⟨_, _, _, rfl, by omega, by omega, ?_⟩
      walk_at "go"
      refine ⟨_, rk[i]'(by omega), rfl, (hpk i _ _ hpi (List.getElem?_eq_getElem (by omega))).same e, fun H2 s2 => ?_⟩
      walk_at "go"
      exact ⟨e.trans s2, _, by rw [prod_take sz i _ hsi]; rfl⟩
    · subst es
      have hp40 : prodI (sz.take sz.length) ≤ 40 := by rw [List.take_length]; exact sz_prod ok
      have hx' := e _ _ hx
      walk_at "go"
      refine v_listL (e _ _ hs) fun s1 H1 n1 e1 h1 => ?_
      walk_at "go"
      refine st_Grid_sizes T (e1 _ _ hx') fun H2 k2 h2 => ?_
      walk_at "go"
      have ex : ∀ b o, H b = some o → b ≠ x → H2 b = some o := fun b o q n => k2 b o (e1 b o (e b o q)) (nin1 n)
      have rpx : rp ≠ x := ne_of hp hx (fun z => nomatch z)
      refine v_listL (ex _ _ hp rpx) fun r1 H3 n3 e3 h3 => ?_
      walk_at "go"
      refine st_Grid_rims T (e3 _ _ h2) fun H4 k4 h4 => ?_
      walk_at "go"
      have ex4 : ∀ b o, H b = some o → b ≠ x → H4 b = some o := fun b o q n => k4 b o (e3 b o (ex b o q n)) (nin1 n)
      have spx : sp ≠ x := ne_of hs hx (fun z => nomatch z)
      refine itZ (ex4 _ _ hs spx) (ex4 _ _ hp rpx) ?_
      refine lcZ (wz (n := sz.length) (by simp [hpl])) [] (fun D i acc H' => ∃ es : List Addr, acc = es.map V.ref ∧ es.length = i ∧ ∀ (j : Nat) (a : Addr) (s : Int) (k : Rk), es[j]? = some a → sz[j]? = some s → rk[j]? = some k → EdgeA H' a s k) (bigL' (by omega)) (fun H' k' => ⟨keep0 k' _ _ (ex4 _ _ hs spx), keep0 k' _ _ (ex4 _ _ hp rpx)⟩)
        (fun D H' nD sD hD => ⟨[], rfl, rfl, fun j a s k h => by simp at h⟩) (fun D i v acc H5 H6 nD hi hl k5 hD ⟨es, ea, el, hes⟩ y => ?_) (fun D acc H' nD hl k' hD ⟨es, ea, el, hes⟩ => ?_)
      · obtain ⟨Tt, u1, u2, rfl, nT, rfl, hu1, hu2⟩ := y
        obtain ⟨s5, hs5, rfl⟩ := map_at hu1
        obtain ⟨p5, hp5, rfl⟩ := map_at hu2
        have hT : upd H5 Tt (.tup [V.int s5, V.ref p5]) Tt = some (.tup [V.int s5, V.ref p5]) := upd_same
        have sT : Same H5 (upd H5 Tt (.tup [V.int s5, V.ref p5])) := same_new nT
        walk_at "go"
        have sp5 : Same H4 (upd H5 Tt (.tup [V.int s5, V.ref p5])) := Same.trans (keep0 k5) sT
        obtain ⟨k, hk5⟩ : ∃ k, rk[i]? = some k := ⟨_, List.getElem?_eq_getElem (by omega)⟩
        have hp5x : ∀ b o, H b = some o → b ≠ x → upd H5 Tt (.tup [V.int s5, V.ref p5]) b = some o := fun b o q n => sp5 _ _ (ex4 b o q n)
        have hr5 : RimA (upd H5 Tt (.tup [V.int s5, V.ref p5])) p5 k := by
          have q := hpk i p5 k hp5 hk5
          cases k <;> exact hp5x _ _ q (ne_of q hx (fun z => nomatch z))
        refine ⟨p5, k, s5, rfl, hr5, fun a H7 na s7 ea7 => ⟨s7 _ _ (sT _ _ hD), same_k0 (sp5.trans s7), fun H8 k8 h8 => ⟨es ++ [a], by rw [ea]; simp, by simp [el], fun j a' s' k' h1 h2 h3 => ?_⟩⟩⟩
        have nl := k8.nolL (s7 _ _ (sT _ _ hD))
        rcases app_at h1 with q1 | ⟨q1, q2⟩
        · exact (((hes j a' s' k' q1 h2 h3).same (sT.trans s7)).nol nl)
        · subst q2
          rw [q1, el] at h2 h3
          rw [hs5] at h2
          rw [hk5] at h3
          cases h2
          cases h3
          exact ea7.nol nl
      · have s5 := keep0 k'
        walk_at "go"
        refine st_Grid_edges T (s5 _ _ h4) fun H6 k6 h6 => ?_
        walk_at "go"
        have nD' : H D = none := by
          cases q : H D with
          | none => rfl
          | some o =>
            by_cases hb : D = x
            · rw [hb, h4] at nD
              cases nD
            · rw [ex4 _ _ q hb] at nD
              cases nD
        have Dx : D ≠ x := fun z => by rw [z, h4] at nD; cases nD
        have s1x : s1 ≠ x := fun z => by rw [z, hx'] at n1; cases n1
        refine k H6 (fun b o q n => ?_) ⟨ok, dx, s1, r1, D, rk, h6, k6 _ _ (s5 _ _ (k4 _ _ (e3 _ _ (k2 _ _ h1 (nin1 s1x))) (nin1 s1x))) (nin1 s1x), hk, es, ?_, el, fun i a s' k'' x1 x2 x3 => ?_⟩
        · have n : b ≠ x := fun z => n (by rw [z]; exact List.mem_singleton.mpr rfl)
          exact k6 _ _ (s5 _ _ (ex4 b o q n)) (nin1 n)
        · rw [← ea]
          exact k6 _ _ hD (nin1 Dx)
        · have q := hes i a s' k'' x1 x2 x3
          have ax : a ≠ x := fun z => by
            have e4 := s5 _ _ h4
            rw [z] at q
            cases k'' <;> obtain ⟨dx', q⟩ := q <;> rw [e4] at q <;> cases q
          cases k'' <;> obtain ⟨dx', q⟩ := q <;> exact ⟨dx', k6 _ _ q (nin1 ax)⟩
end
end
section
set_option maxHeartbeats 4000000
/-! ### lists of places -/
abbrev PlL : Type := List (Addr × List Int)
abbrev PlL.vs (ks : PlL) : List V := List.map (fun p : Addr × List Int => V.ref p.1) ks
abbrev PlL.zs (ks : PlL) : List (List Int) := List.map (fun p : Addr × List Int => p.2) ks
def LPl (H : Hp) (l : Addr) (ks : PlL) : Prop := H l = some (.lst ks.vs) ∧ ∀ p ∈ ks, H p.1 = some (.tup (p.2.map V.int))
theorem LPl.same {H H' : Hp} {l : Addr} {ks : PlL} (h : LPl H l ks) (s : Same H H') : LPl H' l ks := ⟨s _ _ h.1, fun p hp => s _ _ (h.2 p hp)⟩
theorem places_take {sz : List Int} (m : SzOk sz) (i : Nat) : (placesF (sz.take i)).length ≤ 40 := by
  have h := sz_all (p := fun sz => (List.range 4).all fun i => decide ((placesF (sz.take i)).length ≤ 40)) (by decide +kernel) m
  have l := sz_len m
  by_cases hi : i < 4
  · exact of_decide_eq_true (List.all_eq_true.mp h i (List.mem_range.mpr hi))
  · have e : sz.take i = sz.take 3 := by rw [List.take_of_length_le (by omega), List.take_of_length_le (by omega)]
    rw [e]
    exact of_decide_eq_true (List.all_eq_true.mp h 3 (List.mem_range.mpr (by omega)))
theorem mem_placesF_len {sz pl : List Int} (h : pl ∈ placesF sz) : pl.length = sz.length := plOk_len (mem_placesF_ok h)
section
variable {P : Program} {w : World} {K : PySem.W.Frag} {mg : Str → Option Value} {base : Heap}
def spLines : Sp := fun vs H Q _ => ∃ (g : Addr) (sz : List Int), vs = [.ref g] ∧ GridA H g sz ∧ Q (.int sz.length) H
theorem sc54 : FnScope ["self"] ["self"] (C8.fnScope st54) := C8.fnScope_by (by decide +kernel)
theorem ok_Grid_lines (T : Txt K mg) : C8.Met P w K mg base 1 657 "lines" spLines [] := by
  refine met_by (k := 0) (T.df 54 _ rfl) (c_Grid T) (m_Grid_lines T) sc54 (fun _ _ _ _ us hl => match us, hl with | [_], _ => rfl) (fun vs H Q E h => ?_) (fun A outer s H vs Q E hr o h => ?_)
  · obtain ⟨g, sz, rfl, _⟩ := h
    rfl
  · obtain ⟨g, sz, rfl, ⟨ok, dx, sp, rp, ep, rk, hg, hsp, _⟩, q⟩ := h
    refine ⟨_, (pss_one (ps_ret (pe_callB (cr_self o) (by rfl) (z_len T) b_len (pa_cons (pe_fldZ o (pv 0) rfl) pa_nil)))), ?_⟩
    walk_at "go"
    rw [List.length_map]
    exact q
def spPlaces : Sp := fun vs H Q _ => ∃ (g : Addr) (sz : List Int), vs = [.ref g] ∧ GridA H g sz ∧ ∀ H' l (ks : PlL), Same H H' → H l = none → LPl H' l ks → ks.zs = placesF sz → Q (.ref l) H'
theorem sc56 : FnScope ["self", "found", "size", "longer", "place", "number"] ["self"] (C8.fnScope st56) := C8.fnScope_by (by decide +kernel)
theorem ok_Grid_all_places (T : Txt K mg) : C8.Met P w K mg base 1 657 "all_places" spPlaces [] := by
  refine met_by (k := 0) (T.df 56 _ rfl) (c_Grid T) (m_Grid_all_places T) sc56 (fun _ _ _ _ us hl => match us, hl with | [_], _ => rfl) (fun vs H Q E h => ?_) (fun A outer s H vs Q E hr o h => ?_)
  · obtain ⟨g, sz, rfl, _⟩ := h
    rfl
  · obtain ⟨g, sz, rfl, ⟨ok, dx, sp, rp, ep, rk, hg, hsp, _⟩, q⟩ := h
    have hsz := sz_len ok
    refine ⟨_, (pss_cons (ps_set (i := 1) (sc56).nd rfl (by first | exact Or.inl rfl | exact Or.inr rfl) (pe_lst (pa_mn (pa_cons (pe_tup (pa_mn pa_nil)) pa_nil))))
      (pss_cons (ps_for PassesOwn.never rfl (pi_listZ o (pe_fldZ o (pv 0) rfl)) (pg_name (i := 2) (sc56).nd (by rfl) (by first | exact Or.inl rfl | exact Or.inr rfl)) (pss_cons (ps_set (i := 3) (sc56).nd rfl (by first | exact Or.inl rfl | exact Or.inr rfl) (pe_lst (pa_mn pa_nil)))
      (pss_cons (ps_for PassesOwn.never rfl (pi_listZ o (pv 1)) (pg_name (i := 4) (sc56).nd (by rfl) (by first | exact Or.inl rfl | exact Or.inr rfl)) (pss_one (ps_expr (pe_bmZ o PySem.F.plainAttrs_list PySem.F.slot_list_extend PySem.F.type_list_extend (mt_self o) (pe_mn (pv 3)) (pa_cons (pe_lc (own := [("number", 5)]) rfl (sc56).nd (pi_range1 (by rfl) (z_range T) (pa_cons (pv 2) pa_nil)) (blkOk_by (own := [("number", 5)]) (by kernel_rfl)) (fun _ _ _ _ _ => pg_mn (pg_name (i := 5) (sc56).nd (by rfl) (by first | exact Or.inl rfl | exact Or.inr rfl))) (fun _ _ _ _ _ => pts_mn pts_nil) (fun _ _ _ _ _ => pe_mn (pe_op (op_self o.blk) (pv 4) (pe_tup (pa_mn (pa_cons (pv 5) pa_nil)))))) pa_nil)))))
      (pss_one (ps_set (i := 1) (sc56).nd rfl (by first | exact Or.inl rfl | exact Or.inr rfl) (pv 3))))))
      (pss_one (ps_ret (pv 1))))), ?_⟩
    walk_at "go"
    refine ⟨len0, fun e0 H1 n1 s1 h1 => ?_⟩
    walk_at "go"
    refine ⟨len1, fun l0 H2 n2 s2 h2 => ?_⟩
    walk_at "go"
    refine forL (a := sp) (xs := sz.map V.int) (fun i σ H' => Same H H' ∧ ∃ (l : Addr) (ks : PlL) (a b c : Option V), σ = [some (.ref g), some (.ref l), a, b, c, none] ∧ H l = none ∧ LPl H' l ks ∧ ks.zs = placesF (sz.take i)) ?_ (fun i σ H' hi ⟨e, _⟩ => e _ _ hsp) (fun i x σ H' hx ⟨e, l, ks, a, b, c, es, nl, hl, hz⟩ => ?_) (fun σ H' ⟨e, l, ks, a, b, c, es, nl, hl, hz⟩ => ?_)
    · exact ⟨s1.trans s2, l0, [(e0, [])], _, _, _, rfl, s1.free n2, ⟨h2, fun p hp => by rw [List.mem_singleton.mp hp]; exact s2 _ _ h1⟩, rfl⟩
    · subst es
      obtain ⟨s, hs, rfl⟩ := map_at hx
      have bs := sz_each ok _ (List.mem_of_getElem? hs)
      walk_at "go"
      refine ⟨len0, fun m H3 n3 s3 h3 => ?_⟩
      walk_at "go"
      refine itL (s3 _ _ hl.1) ?_
      have hks : ks.zs = placesF (sz.take i) := hz
      have hw : widen ks.zs s = placesF (sz.take (i + 1)) := by rw [hks, List.take_add_one, hs]; exact (placesF_snoc _ _).symm
      have hwl : (widen ks.zs s).length ≤ 40 := by rw [hw]; exact places_take ok _
      have ml : m ≠ l := fun z => by rw [z, hl.1] at n3; cases n3
      have nm : H m = none := e.free n3
      refine forL (a := l) (xs := ks.vs) (fun j σ H' => Same H H' ∧ LPl H' l ks ∧ ∃ (acc : PlL) (c : Option V), σ = [some (.ref g), some (.ref l), some (.int s), some (.ref m), c, none] ∧ LPl H' m acc ∧ acc.zs = widen (ks.zs.take j) s) ?_ (fun j σ H' hj ⟨_, h, _⟩ => h.1) (fun j x σ H' hx' ⟨e', hl', acc, c', es, hm, ha⟩ => ?_) (fun σ H' ⟨e', hl', acc, c', es, hm, ha⟩ => ?_)
      · exact ⟨e.trans s3, hl.same s3, [], _, rfl, ⟨h3, fun p hp => by simp at hp⟩, rfl⟩
      · subst es
        obtain ⟨q, hq, rfl⟩ := map_at hx'
        have hqt := hl'.2 q (List.mem_of_getElem? hq)
        have hm1 := hm.1
        have hl1 := hl'.1
        walk_at "go"
        refine lcR (n := s.toNat) (j := s) (by omega) [] (fun D k accD H5 => ∃ ks5 : PlL, accD = ks5.vs ∧ ks5.zs = (List.range k).map (fun n => q.2 ++ [((n : Nat) : Int)]) ∧ ∀ p ∈ ks5, H5 p.1 = some (.tup (p.2.map V.int))) (by omega) (fun D H5 nD sD hD => ⟨[], rfl, rfl, fun p hp => by simp at hp⟩) (fun D k accD H5 nD hk hlk k5 hD ⟨ks5, ea, ez, ht⟩ => ?_) (fun D accD H5 nD hl5 k5 hD ⟨ks5, ea, ez, ht⟩ => ?_)
        · have s5 := keep0 k5
          walk_at "go"
          refine ⟨len1, fun t6 H6 n6 s6 h6 => ?_⟩
          walk_at "go"
          refine v_catT (s6 _ _ (s5 _ _ hqt)) h6 (by simp) ?_ fun p7 H7 s7 h7 => ?_
          · have : q.2.length ≤ 3 := by
              have := mem_placesF_len (sz := sz.take i) (pl := q.2) (by rw [← hks]; exact List.mem_map.mpr ⟨q, List.mem_of_getElem? hq, rfl⟩)
              rw [this, List.length_take]
              omega
            exact bigL (by simp only [List.length_map, List.length_cons, List.length_nil]; omega)
          · refine ⟨s7 _ _ (s6 _ _ hD), same_k0 ((s5.trans s6).trans s7), fun H8 k8 h8 => ⟨ks5 ++ [(p7, q.2 ++ [(k : Int)])], ?_, ?_, fun p hp => ?_⟩⟩
            · rw [ea]
              simp [PlL.vs]
            · simp only [PlL.zs] at ez ⊢
              rw [List.map_append, ez, List.range_succ, List.map_append]
              rfl
            · have nlh := k8.nolL (s7 _ _ (s6 _ _ hD))
              rcases List.mem_append.mp hp with hp | hp
              · exact nlh _ _ (s7 _ _ (s6 _ _ (ht p hp))) rfl
              · rw [List.mem_singleton.mp hp]
                refine nlh _ _ ?_ rfl
                rw [h7, List.map_append]
                rfl
        · have s5 := keep0 k5
          have hmD : H5 m = some (.lst acc.vs) := s5 _ _ hm.1
          walk_at "go"
          have hzq : ks.zs[j]? = some q.2 := by simp only [PlL.zs]; rw [List.getElem?_map, hq]; rfl
          have e1 : widen (ks.zs.take (j + 1)) s = acc.zs ++ ks5.zs := by
            rw [List.take_add_one, hzq, widen_app, ha, ez]
            simp [widen]
          have e2 : (acc.zs ++ ks5.zs).length ≤ 40 := by
            rw [← e1]
            refine Nat.le_trans ?_ hwl
            have := List.take_append_drop (j + 1) ks.zs
            calc (widen (ks.zs.take (j + 1)) s).length ≤ (widen (ks.zs.take (j + 1)) s ++ widen (ks.zs.drop (j + 1)) s).length := by simp
              _ = (widen ks.zs s).length := by rw [← widen_app, this]
          refine v_ext hmD hD ?_ fun H6 k6 h6 => ?_
          · rw [ea]
            simp only [PlL.zs, List.length_append, List.length_map] at e2
            exact bigL (by simp only [PlL.vs, List.length_map]; omega)
          · walk_at "go"
            have nl6 := k6.nolL hmD
            refine ⟨same_of_new (e'.trans s5) nm k6, ⟨k6 _ _ (s5 _ _ hl'.1) (nin1 (Ne.symm ml)), fun p hp => nl6 _ _ (s5 _ _ (hl'.2 p hp)) rfl⟩, acc ++ ks5, _, rfl, ⟨?_, fun p hp => ?_⟩, ?_⟩
            · rw [h6, ea]
              simp [PlL.vs]
            · rcases List.mem_append.mp hp with hp | hp
              · exact nl6 _ _ (s5 _ _ (hm.2 p hp)) rfl
              · exact nl6 _ _ (ht p hp) rfl
            · rw [e1]
              simp [PlL.zs]
      · subst es
        walk_at "go"
        refine ⟨e', m, acc, _, _, _, rfl, nm, hm, ?_⟩
        rw [ha, ← hw]
        congr 1
        refine List.take_of_length_le ?_
        simp [PlL.zs, PlL.vs]
    · subst es
      walk_at "go"
      refine q H' l ks e nl hl ?_
      rw [hz]
      congr 1
      exact List.take_of_length_le (by simp)

def spPlacesL : Sp := fun vs H Q _ => ∃ (g : Addr) (sz : List Int), vs = [.ref g] ∧ SzOk sz ∧ H g = some (.lst (sz.map V.int)) ∧ ∀ H' l (ks : PlL), Same H H' → H l = none → LPl H' l ks → ks.zs = placesF sz → Q (.ref l) H'
theorem sc75 : FnScope ["_law_sizes", "_law_found", "_law_size", "_law_longer", "_law_place", "_law_k"] ["_law_sizes"] (C8.fnScope st75) := C8.fnScope_by (by decide +kernel)
theorem ok_law_places (T : Txt K mg) : C8.Cal P w K mg base 1 "_law_places" spPlacesL [] := by
  refine cal_by (k := 0) (T.df 75 _ rfl) (g_law_places T) sc75 (fun _ _ _ _ us hl => match us, hl with | [_], _ => rfl) (fun vs H Q E h => ?_) (fun A outer s H vs Q E hr o h => ?_)
  · obtain ⟨g, sz, rfl, _⟩ := h
    rfl
  · obtain ⟨g, sz, rfl, ok, hsp, q⟩ := h
    have hsz := sz_len ok
    refine ⟨_, (pss_cons (ps_set (i := 1) (sc75).nd rfl (by first | exact Or.inl rfl | exact Or.inr rfl) (pe_lst (pa_mn (pa_cons (pe_tup (pa_mn pa_nil)) pa_nil))))
      (pss_cons (ps_for PassesOwn.never rfl (pi_listZ o (pv 0)) (pg_name (i := 2) (sc75).nd (by rfl) (by first | exact Or.inl rfl | exact Or.inr rfl)) (pss_cons (ps_set (i := 3) (sc75).nd rfl (by first | exact Or.inl rfl | exact Or.inr rfl) (pe_lst (pa_mn pa_nil)))
      (pss_cons (ps_for PassesOwn.never rfl (pi_listZ o (pv 1)) (pg_name (i := 4) (sc75).nd (by rfl) (by first | exact Or.inl rfl | exact Or.inr rfl)) (pss_one (ps_expr (pe_bmZ o PySem.F.plainAttrs_list PySem.F.slot_list_extend PySem.F.type_list_extend (mt_self o) (pe_mn (pv 3)) (pa_cons (pe_lc (own := [("_law_k", 5)]) rfl (sc75).nd (pi_range1 (by rfl) (z_range T) (pa_cons (pv 2) pa_nil)) (blkOk_by (own := [("_law_k", 5)]) (by kernel_rfl)) (fun _ _ _ _ _ => pg_mn (pg_name (i := 5) (sc75).nd (by rfl) (by first | exact Or.inl rfl | exact Or.inr rfl))) (fun _ _ _ _ _ => pts_mn pts_nil) (fun _ _ _ _ _ => pe_mn (pe_op (op_self o.blk) (pv 4) (pe_tup (pa_mn (pa_cons (pv 5) pa_nil)))))) pa_nil)))))
      (pss_one (ps_set (i := 1) (sc75).nd rfl (by first | exact Or.inl rfl | exact Or.inr rfl) (pv 3))))))
      (pss_one (ps_ret (pv 1))))), ?_⟩
    walk_at "go"
    refine ⟨len0, fun e0 H1 n1 s1 h1 => ?_⟩
    walk_at "go"
    refine ⟨len1, fun l0 H2 n2 s2 h2 => ?_⟩
    walk_at "go"
    refine forL (a := g) (xs := sz.map V.int) (fun i σ H' => Same H H' ∧ ∃ (l : Addr) (ks : PlL) (a b c : Option V), σ = [some (.ref g), some (.ref l), a, b, c, none] ∧ H l = none ∧ LPl H' l ks ∧ ks.zs = placesF (sz.take i)) ?_ (fun i σ H' hi ⟨e, _⟩ => e _ _ hsp) (fun i x σ H' hx ⟨e, l, ks, a, b, c, es, nl, hl, hz⟩ => ?_) (fun σ H' ⟨e, l, ks, a, b, c, es, nl, hl, hz⟩ => ?_)
    · exact ⟨s1.trans s2, l0, [(e0, [])], _, _, _, rfl, s1.free n2, ⟨h2, fun p hp => by rw [List.mem_singleton.mp hp]; exact s2 _ _ h1⟩, rfl⟩
    · subst es
      obtain ⟨s, hs, rfl⟩ := map_at hx
      have bs := sz_each ok _ (List.mem_of_getElem? hs)
      walk_at "go"
      refine ⟨len0, fun m H3 n3 s3 h3 => ?_⟩
      walk_at "go"
      refine itL (s3 _ _ hl.1) ?_
      have hks : ks.zs = placesF (sz.take i) := hz
      have hw : widen ks.zs s = placesF (sz.take (i + 1)) := by rw [hks, List.take_add_one, hs]; exact (placesF_snoc _ _).symm
      have hwl : (widen ks.zs s).length ≤ 40 := by rw [hw]; exact places_take ok _
      have ml : m ≠ l := fun z => by rw [z, hl.1] at n3; cases n3
      have nm : H m = none := e.free n3
      refine forL (a := l) (xs := ks.vs) (fun j σ H' => Same H H' ∧ LPl H' l ks ∧ ∃ (acc : PlL) (c : Option V), σ = [some (.ref g), some (.ref l), some (.int s), some (.ref m), c, none] ∧ LPl H' m acc ∧ acc.zs = widen (ks.zs.take j) s) ?_ (fun j σ H' hj ⟨_, h, _⟩ => h.1) (fun j x σ H' hx' ⟨e', hl', acc, c', es, hm, ha⟩ => ?_) (fun σ H' ⟨e', hl', acc, c', es, hm, ha⟩ => ?_)
      · exact ⟨e.trans s3, hl.same s3, [], _, rfl, ⟨h3, fun p hp => by simp at hp⟩, rfl⟩
      · subst es
        obtain ⟨q, hq, rfl⟩ := map_at hx'
        have hqt := hl'.2 q (List.mem_of_getElem? hq)
        have hm1 := hm.1
        have hl1 := hl'.1
        walk_at "go"
        refine lcR (n := s.toNat) (j := s) (by omega) [] (fun D k accD H5 => ∃ ks5 : PlL, accD = ks5.vs ∧ ks5.zs = (List.range k).map (fun n => q.2 ++ [((n : Nat) : Int)]) ∧ ∀ p ∈ ks5, H5 p.1 = some (.tup (p.2.map V.int))) (by omega) (fun D H5 nD sD hD => ⟨[], rfl, rfl, fun p hp => by simp at hp⟩) (fun D k accD H5 nD hk hlk k5 hD ⟨ks5, ea, ez, ht⟩ => ?_) (fun D accD H5 nD hl5 k5 hD ⟨ks5, ea, ez, ht⟩ => ?_)
        · have s5 := keep0 k5
          walk_at "go"
          refine ⟨len1, fun t6 H6 n6 s6 h6 => ?_⟩
          walk_at "go"
          refine v_catT (s6 _ _ (s5 _ _ hqt)) h6 (by simp) ?_ fun p7 H7 s7 h7 => ?_
          · have : q.2.length ≤ 3 := by
              have := mem_placesF_len (sz := sz.take i) (pl := q.2) (by rw [← hks]; exact List.mem_map.mpr ⟨q, List.mem_of_getElem? hq, rfl⟩)
              rw [this, List.length_take]
              omega
            exact bigL (by simp only [List.length_map, List.length_cons, List.length_nil]; omega)
          · refine ⟨s7 _ _ (s6 _ _ hD), same_k0 ((s5.trans s6).trans s7), fun H8 k8 h8 => ⟨ks5 ++ [(p7, q.2 ++ [(k : Int)])], ?_, ?_, fun p hp => ?_⟩⟩
            · rw [ea]
              simp [PlL.vs]
            · simp only [PlL.zs] at ez ⊢
              rw [List.map_append, ez, List.range_succ, List.map_append]
              rfl
            · have nlh := k8.nolL (s7 _ _ (s6 _ _ hD))
              rcases List.mem_append.mp hp with hp | hp
              · exact nlh _ _ (s7 _ _ (s6 _ _ (ht p hp))) rfl
              · rw [List.mem_singleton.mp hp]
                refine nlh _ _ ?_ rfl
                rw [h7, List.map_append]
                rfl
        · have s5 := keep0 k5
          have hmD : H5 m = some (.lst acc.vs) := s5 _ _ hm.1
          walk_at "go"
          have hzq : ks.zs[j]? = some q.2 := by simp only [PlL.zs]; rw [List.getElem?_map, hq]; rfl
          have e1 : widen (ks.zs.take (j + 1)) s = acc.zs ++ ks5.zs := by
            rw [List.take_add_one, hzq, widen_app, ha, ez]
            simp [widen]
          have e2 : (acc.zs ++ ks5.zs).length ≤ 40 := by
            rw [← e1]
            refine Nat.le_trans ?_ hwl
            have := List.take_append_drop (j + 1) ks.zs
            calc (widen (ks.zs.take (j + 1)) s).length ≤ (widen (ks.zs.take (j + 1)) s ++ widen (ks.zs.drop (j + 1)) s).length := by simp
              _ = (widen ks.zs s).length := by rw [← widen_app, this]
          refine v_ext hmD hD ?_ fun H6 k6 h6 => ?_
          · rw [ea]
            simp only [PlL.zs, List.length_append, List.length_map] at e2
            exact bigL (by simp only [PlL.vs, List.length_map]; omega)
          · walk_at "go"
            have nl6 := k6.nolL hmD
            refine ⟨same_of_new (e'.trans s5) nm k6, ⟨k6 _ _ (s5 _ _ hl'.1) (nin1 (Ne.symm ml)), fun p hp => nl6 _ _ (s5 _ _ (hl'.2 p hp)) rfl⟩, acc ++ ks5, _, rfl, ⟨?_, fun p hp => ?_⟩, ?_⟩
            · rw [h6, ea]
              simp [PlL.vs]
            · rcases List.mem_append.mp hp with hp | hp
              · exact nl6 _ _ (s5 _ _ (hm.2 p hp)) rfl
              · exact nl6 _ _ (ht p hp) rfl
            · rw [e1]
              simp [PlL.zs]
      · subst es
        walk_at "go"
        refine ⟨e', m, acc, _, _, _, rfl, nm, hm, ?_⟩
        rw [ha, ← hw]
        congr 1
        refine List.take_of_length_le ?_
        simp [PlL.zs, PlL.vs]
    · subst es
      walk_at "go"
      refine q H' l ks e nl hl ?_
      rw [hz]
      congr 1
      exact List.take_of_length_le (by simp)

end
end
section
set_option maxHeartbeats 4000000
section
variable {P : Program} {w : World} {K : PySem.W.Frag} {mg : Str → Option Value} {base : Heap}
def spMany : Sp := fun vs H Q _ => ∃ (g : Addr) (sz : List Int), vs = [.ref g] ∧ GridA H g sz ∧ ∀ H', Same H H' → Q (.int (placesF sz).length) H'
theorem sc55 : FnScope ["self"] ["self"] (C8.fnScope st55) := C8.fnScope_by (by decide +kernel)
theorem ok_Grid_places_many (T : Txt K mg) : C8.Met P w K mg base 2 657 "places_many" spMany [] := by
  refine met_by (k := 1) (T.df 55 _ rfl) (c_Grid T) (m_Grid_places_many T) sc55 (fun _ _ _ _ us hl => match us, hl with | [_], _ => rfl) (fun vs H Q E h => ?_) (fun A outer s H vs Q E hr o h => ?_)
  · obtain ⟨g, sz, rfl, _⟩ := h
    rfl
  · obtain ⟨g, sz, rfl, G, q⟩ := h
    obtain ⟨ok, dx, sp, rp, ep, rk, hg, hsp, _⟩ := id G
    refine ⟨_, (pss_one (ps_ret (pe_callB (cr_self o) (by rfl) (z_len T) b_len (pa_cons (C8.pe_mt0 (ok_Grid_all_places (P := P) (w := w) T) hr (by decide) (pv 0)) pa_nil)))), ?_⟩
    walk_at "go"
    refine ⟨g, sz, rfl, G, fun H' l ks s nl hl hz => ?_⟩
    have hl1 := hl.1
    walk_at "go"
    have e : (PlL.vs ks).length = (placesF sz).length := by rw [← hz]; simp [PlL.vs, PlL.zs]
    rw [e]
    exact q _ s
theorem w3 {a b d : Addr} {xs ys zs : List V} (h1 : xs.length = ys.length) (h2 : xs.length = zs.length) : Walk (It3 K a b d) xs.length (fun H => H a = some (.lst xs) ∧ H b = some (.tup ys) ∧ H d = some (.tup zs)) (YTri (fun i => xs[i]?) (fun i => ys[i]?) (fun i => zs[i]?)) :=
  (walk_3 h1 h2).mono (fun H h => ⟨SqL.of h.1, SqT.of h.2.1, SqT.of h.2.2⟩) fun _ _ _ _ _ _ y => y
theorem wTL {a b : Addr} {xs ys : List V} (h : xs.length = ys.length) : Walk (ItTL K a b) xs.length (fun H => H a = some (.tup xs) ∧ H b = some (.lst ys)) (YPair (fun i => xs[i]?) (fun i => ys[i]?)) :=
  (walk_TL h).mono (fun H h => ⟨SqT.of h.1, SqL.of h.2⟩) fun _ _ _ _ _ _ y => y
def spHas : Sp := fun vs H Q _ => ∃ (g p : Addr) (sz pl : List Int), vs = [.ref g, .ref p] ∧ GridA H g sz ∧ H p = some (.tup (pl.map V.int)) ∧ plOk sz pl ∧ ∀ H', Same H H' → Q (.bl true) H'
theorem sc57 : FnScope ["self", "thing", "number", "size"] ["self", "thing"] (C8.fnScope st57) := C8.fnScope_by (by decide +kernel)
theorem ok_Grid_has_place (T : Txt K mg) : C8.Met P w K mg base 3 657 "has_place" spHas [] := by
  refine met_by (k := 2) (T.df 57 _ rfl) (c_Grid T) (m_Grid_has_place T) sc57 (fun _ _ _ _ us hl => match us, hl with | [_, _], _ => rfl) (fun vs H Q E h => ?_) (fun A outer s H vs Q E hr o h => ?_)
  · obtain ⟨g, p, sz, pl, rfl, _⟩ := h
    rfl
  · obtain ⟨g, p, sz, pl, rfl, G, hp, hok, q⟩ := h
    obtain ⟨ok, dx, sp, rp, ep, rk, hg, hsp, _⟩ := id G
    have hlen := plOk_len hok
    have l := sz_len ok
    refine ⟨_, (pss_cons (ps_if (PW.pt (pw_or (pt_not (pt_val (pe_callB (cr_self o) (by rfl) (z_isinstance T) b_isinstance (pa_cons (pv 1) (pa_cons (pe_bltn (v := .ty "tuple") (by rfl) (z_tuple T) b_tuple rfl) pa_nil))))) (pw_or1 (pt_cmpR (op_self o) (pe_callB (cr_self o) (by rfl) (z_len T) b_len (pa_cons (pv 1) pa_nil)) (pe_callB (cr_self o) (by rfl) (z_len T) b_len (pa_cons (pe_fldZ o (pv 0) rfl) pa_nil)) (nomark _))))) (pss_one (ps_ret pe_bl)) pss_nil)
      (pss_one (ps_ret (pe_callB (cr_self o) (by rfl) (z_all T) b_all (pa_cons (pe_lc (own := [("number", 2), ("size", 3)]) rfl (sc57).nd (pi_zipTLZ o (by rfl) (z_zip T) (pa_cons (pv 1) (pa_cons (pe_fldZ o (pv 0) rfl) pa_nil))) (blkOk_by (own := [("number", 2), ("size", 3)]) (by kernel_rfl)) (fun _ _ _ _ _ => pg_mn (pg_tupZ (n := 2) o.blk (pgs_cons (pg_name (i := 2) (sc57).nd (by rfl) (by first | exact Or.inl rfl | exact Or.inr rfl)) (pgs_cons (pg_name (i := 3) (sc57).nd (by rfl) (by first | exact Or.inl rfl | exact Or.inr rfl)) pgs_nil)))) (fun _ _ _ _ _ => pts_mn pts_nil) (fun _ _ _ _ _ => pe_mn (C8.pe_c (ok_is_between (P := P) (w := w) T) hr (by decide) (by rfl) (pa_cons (pv 2) (pa_cons pe_int (pa_cons (pe_op (op_self o.blk) (pv 3) pe_int) pa_nil)))))) pa_nil))))), ?_⟩
    walk_at "go"
    refine itZTL hp hsp ?_
    refine lcZ (wTL (by simp [hlen])) [] (fun D i acc H' => acc = (List.replicate i true).map V.bl) (bigL' (by simp; omega)) (fun H' k' => ⟨keep0 k' _ _ hp, keep0 k' _ _ hsp⟩) (fun D H' nD sD hD => rfl) (fun D i v acc H5 H6 nD hi hl k5 hD ea y => ?_) (fun D acc H' nD hl k' hD ea => ?_)
    · obtain ⟨Tt, u1, u2, rfl, nT, rfl, hu1, hu2⟩ := y
      obtain ⟨p5, hp5, rfl⟩ := map_at hu1
      obtain ⟨s5, hs5, rfl⟩ := map_at hu2
      have b := plOk_at hok i _ _ hs5 hp5
      have hT : upd H5 Tt (.tup [V.int p5, V.int s5]) Tt = some (.tup [V.int p5, V.int s5]) := upd_same
      have sT : Same H5 (upd H5 Tt (.tup [V.int p5, V.int s5])) := same_new nT
      walk_at "go"
      refine ⟨p5, 0, s5 - 1, rfl, by omega, by omega, sT _ _ hD, same_k0 (Same.trans (keep0 k5) sT), fun H8 k8 h8 => ?_⟩
      rw [ea, List.replicate_succ']
      simp
    · rw [ea] at hD
      refine v_all hD ?_
      have e : ((List.replicate (pl.map V.int).length true).all id) = true := by simp
      rw [e]
      exact q _ (keep0 k')
def spBeside : Sp := fun vs H Q _ => ∃ (g p st : Addr) (sz pl ss : List Int), vs = [.ref g, .ref p, .ref st] ∧ GridA H g sz ∧ H p = some (.tup (pl.map V.int)) ∧ plOk sz pl ∧ H st = some (.tup (ss.map V.int)) ∧ ss.length = sz.length ∧
  (∀ T H', Same H H' → H' T = some (.tup [.str "rim", .int 7]) → Q (.ref T) H') ∧ ∀ T a pl' H', Same H H' → H' T = some (.tup [.str "place", .ref a]) → H' a = some (.tup (pl'.map V.int)) → plOk sz pl' → Q (.ref T) H'
theorem sc58 : FnScope ["self", "place", "steps", "found", "edge", "number", "step", "there"] ["self", "place", "steps"] (C8.fnScope st58) := C8.fnScope_by (by decide +kernel)
theorem ok_Grid_beside (T : Txt K mg) : C8.Met P w K mg base 2 657 "beside" spBeside [] := by
  refine met_by (k := 1) (T.df 58 _ rfl) (c_Grid T) (m_Grid_beside T) sc58 (fun _ _ _ _ us hl => match us, hl with | [_, _, _], _ => rfl) (fun vs H Q E h => ?_) (fun A outer s H vs Q E hr o h => ?_)
  · obtain ⟨g, p, st, sz, pl, ss, rfl, _⟩ := h
    rfl
  · obtain ⟨g, p, st, sz, pl, ss, rfl, G, hp, hok, hst, hsl, qr, qp⟩ := h
    obtain ⟨ok, dx, sp, rp, ep, rk, hg, hsp, hrk, es, hes, hel, hee⟩ := id G
    have hlen := plOk_len hok
    have l := sz_len ok
    refine ⟨_, (pss_cons (ps_set (i := 3) (sc58).nd rfl (by first | exact Or.inl rfl | exact Or.inr rfl) (pe_tup (pa_mn pa_nil)))
      (pss_cons (ps_for PassesOwn.never rfl (pi_zip3Z o (by rfl) (z_zip T) (pa_cons (pe_fldZ o (pv 0) rfl) (pa_cons (pv 1) (pa_cons (pv 2) pa_nil)))) (pg_tupZ (n := 3) o (pgs_cons (pg_name (i := 4) (sc58).nd (by rfl) (by first | exact Or.inl rfl | exact Or.inr rfl)) (pgs_cons (pg_name (i := 5) (sc58).nd (by rfl) (by first | exact Or.inl rfl | exact Or.inr rfl)) (pgs_cons (pg_name (i := 6) (sc58).nd (by rfl) (by first | exact Or.inl rfl | exact Or.inr rfl)) pgs_nil)))) (pss_cons (ps_set (i := 7) (sc58).nd rfl (by first | exact Or.inl rfl | exact Or.inr rfl) (pe_exi (S := EdgeC) (fun C hC => C8.pe_mt (ok_at_number T hC) hr (by decide) (pv 4) (pa_cons (pe_op (op_self o) (pv 5) (pv 6)) pa_nil))))
      (pss_cons (ps_if (pt_cmpR (op_self o) (pv 7) pe_non (nomark _)) (pss_one (ps_ret (pe_tup (pa_mn (pa_cons pe_str (pa_cons (pe_fldZ o (pv 4) rfl) pa_nil)))))) pss_nil)
      (pss_one (ps_set (i := 3) (sc58).nd rfl (by first | exact Or.inl rfl | exact Or.inr rfl) (pe_op (op_self o) (pv 3) (pe_tup (pa_mn (pa_cons (pv 7) pa_nil)))))))))
      (pss_one (ps_ret (pe_tup (pa_mn (pa_cons pe_str (pa_cons (pv 3) pa_nil)))))))), ?_⟩
    walk_at "go"
    refine ⟨len0, fun e0 H1 n1 s1 h1 => ?_⟩
    walk_at "go"
    refine itZ3 (s1 _ _ hes) (s1 _ _ hp) (s1 _ _ hst) ?_
    refine forZ (w3 (by simp [hlen, hel]) (by simp [hsl, hel])) (fun i σ H' => Same H H' ∧ ∃ (f : Addr) (q : List Int) (a b c d : Option V), σ = [some (.ref g), some (.ref p), some (.ref st), some (.ref f), a, b, c, d] ∧ H' f = some (.tup (q.map V.int)) ∧ plOk (sz.take i) q) ⟨s1, e0, [], _, _, _, _, rfl, h1, trivial⟩ (fun i σ H' hi ⟨e, _⟩ => ⟨e _ _ hes, e _ _ hp, e _ _ hst⟩) (fun i x σ H2 H3 hi ⟨e, f, q, a, b, c, d, es', hf, hq⟩ y => ?_) (fun σ H' ⟨e, f, q, a, b, c, d, es', hf, hq⟩ => ?_)
    · subst es'
      obtain ⟨Tt, u1, u2, u3, rfl, nT, rfl, hu1, hu2, hu3⟩ := y
      obtain ⟨e5, he5, rfl⟩ := map_at hu1
      obtain ⟨p5, hp5, rfl⟩ := map_at hu2
      obtain ⟨t5, ht5, rfl⟩ := map_at hu3
      have hil : i < sz.length := by rw [List.length_map] at hi; omega
      have hs5 : sz[i]? = some sz[i] := List.getElem?_eq_getElem hil
      obtain ⟨k, hk5⟩ : ∃ k, rk[i]? = some k := ⟨_, List.getElem?_eq_getElem (by omega)⟩
      have hT : upd H2 Tt (.tup [V.ref e5, V.int p5, V.int t5]) Tt = some (.tup [V.ref e5, V.int p5, V.int t5]) := upd_same
      have sT : Same H2 (upd H2 Tt (.tup [V.ref e5, V.int p5, V.int t5])) := same_new nT
      have b := sz_each ok _ (List.mem_of_getElem? hs5)
      have hE := ((hee i e5 _ k he5 hs5 hk5).same e).same sT
      have hf' := sT _ _ hf
      generalize upd H2 Tt (.tup [V.ref e5, V.int p5, V.int t5]) = H3 at hT sT hE hf'
      have e3 := e.trans sT
      walk_at "go"
      refine at_leaf (n := p5 + t5) hE (by omega) (by omega) (fun v h0 h1 => ?_) (fun hk => ?_) (fun R r => ?_) (fun R r => ?_)
      · walk_at "go"
        refine ⟨len1, fun t6 H6 n6 s6 h6 => ?_⟩
        walk_at "go"
        have ql := plOk_len hq
        rw [List.length_take] at ql
        refine v_catT (s6 _ _ hf') h6 (by simp) (bigL (by simp only [List.length_map, List.length_cons, List.length_nil]; omega)) fun p7 H7 s7 h7 => ?_
        walk_at "go"
        refine ⟨(e3.trans s6).trans s7, p7, q ++ [v], _, _, _, _, rfl, by rw [h7, List.map_append]; rfl, ?_⟩
        rw [List.take_add_one, hs5]
        exact plOk_snoc hq h0 h1
      · subst hk
        obtain ⟨dx5, h5⟩ := hE
        walk_at "go"
        refine ⟨len2, fun t6 H6 n6 s6 h6 => ?_⟩
        exact qr t6 H6 (e3.trans s6) h6
      · walk_at "go"
        exact r
      · walk_at "go"
        exact r
    · subst es'
      walk_at "go"
      refine ⟨len2, fun t6 H6 n6 s6 h6 => ?_⟩
      refine qp t6 f q H6 (e.trans s6) h6 (s6 _ _ hf) ?_
      rw [List.length_map, hel, List.take_length] at hq
      exact hq
end
end
section
set_option maxHeartbeats 4000000
/-! ### the law's world -/
structure WorldA (H : Hp) (p : Addr) (sz : List Int) (tk : List Sp2) (R : Nat) : Prop where
  ok : SzOk sz
  hR : R ≤ 5
  tok : ∀ z ∈ tk, TkOk sz z
  few : tk.length ≤ 3
  nd : tk.Nodup
  ex : ∃ (s r t : Addr) (rk : List Rk) (ks : SpL), H p = some (.tup [.ref s, .ref r, .ref t, .int R]) ∧ H s = some (.lst (sz.map V.int)) ∧ RimsA H r sz rk ∧ LSp H t ks ∧ ks.zs = tk
theorem WorldA.same {H H' : Hp} {p : Addr} {sz : List Int} {tk : List Sp2} {R : Nat} (h : WorldA H p sz tk R) (e : Same H H') : WorldA H' p sz tk R := by
  obtain ⟨a, b, c, d, f, s, r, t, rk, ks, h1, h2, h3, h4, h5⟩ := h
  exact ⟨a, b, c, d, f, s, r, t, rk, ks, e _ _ h1, e _ _ h2, h3.same e, h4.same e, h5⟩
theorem spL_app (a b : SpL) : SpL.vs (a ++ b) = a.vs ++ b.vs := List.map_append
theorem spL_zapp (a b : SpL) : SpL.zs (a ++ b) = a.zs ++ b.zs := List.map_append
theorem LSp.app {H H' : Hp} {l : Addr} {ks : SpL} (hk : ∀ p ∈ ks, SpA H p.1 p.2) (n : Nol H H') {p : Addr × Sp2} (hp : SpA H' p.1 p.2) : ∀ q ∈ ks ++ [p], SpA H' q.1 q.2 := fun q hq => by
  rcases List.mem_append.mp hq with h | h
  · exact (hk q h).nol n
  · rw [List.mem_singleton.mp h]
    exact hp
section
variable {P : Program} {w : World} {K : PySem.W.Frag} {mg : Str → Option Value} {base : Heap}
def spSpots : Sp := fun vs H Q _ => ∃ (p : Addr) (sz : List Int) (tk : List Sp2) (R : Nat), vs = [.ref p] ∧ WorldA H p sz tk R ∧ ∀ H' l (ks : SpL), Same H H' → H l = none → LSp H' l ks → ks.zs = spotsF R sz → Q (.ref l) H'
theorem sc76 : FnScope ["_law_world_here", "_law_found", "_law_turn", "_law_place"] ["_law_world_here"] (C8.fnScope st76) := C8.fnScope_by (by decide +kernel)
theorem ok_law_spots (T : Txt K mg) : C8.Cal P w K mg base 2 "_law_spots" spSpots [] := by
  refine cal_by (k := 1) (T.df 76 _ rfl) (g_law_spots T) sc76 (fun _ _ _ _ us hl => match us, hl with | [_], _ => rfl) (fun vs H Q E h => ?_) (fun A outer s H vs Q E hr o h => ?_)
  · obtain ⟨p, sz, tk, R, rfl, _⟩ := h
    rfl
  · obtain ⟨p, sz, tk, R, rfl, W, q⟩ := h
    obtain ⟨ok, hR, _, _, _, s0, r0, t0, rk, tks, hp, hs, hrm, htk, hz⟩ := id W
    have hpl := places_len ok
    refine ⟨_, (pss_cons (ps_set (i := 1) (sc76).nd rfl (by first | exact Or.inl rfl | exact Or.inr rfl) (pe_lst (pa_mn pa_nil)))
      (pss_cons (ps_for PassesOwn.never rfl (pi_range2 (by rfl) (z_range T) (pa_cons pe_int (pa_cons (pe_op (op_self o) (pe_ix (ix_self o) (pv 0) pe_int (fun _ _ => rfl)) pe_int) pa_nil))) (pg_name (i := 2) (sc76).nd (by rfl) (by first | exact Or.inl rfl | exact Or.inr rfl)) (pss_one (ps_expr (pe_bmZ o PySem.F.plainAttrs_list PySem.F.slot_list_extend PySem.F.type_list_extend (mt_self o) (pe_mn (pv 1)) (pa_cons (pe_lc (own := [("_law_place", 3)]) rfl (sc76).nd (pi_listZ o (C8.pe_c (ok_law_places (P := P) (w := w) T) hr (by decide) (by rfl) (pa_cons (pe_ix (ix_self o) (pv 0) pe_int (fun _ _ => rfl)) pa_nil))) (blkOk_by (own := [("_law_place", 3)]) (by kernel_rfl)) (fun _ _ _ _ _ => pg_mn (pg_name (i := 3) (sc76).nd (by rfl) (by first | exact Or.inl rfl | exact Or.inr rfl))) (fun _ _ _ _ _ => pts_mn pts_nil) (fun _ _ _ _ _ => pe_mn (pe_tup (pa_mn (pa_cons (pv 2) (pa_cons (pv 3) pa_nil)))))) pa_nil)))))
      (pss_one (ps_ret (pv 1))))), ?_⟩
    walk_at "go"
    refine ⟨len0, fun m H1 n1 s1 h1 => ?_⟩
    walk_at "go"
    refine forR2 (n := R) (a := 1) (by omega) (by omega) (by omega) (fun i σ H' => Same H H' ∧ ∃ (ks : SpL) (a b : Option V), σ = [some (.ref p), some (.ref m), a, b] ∧ LSp H' m ks ∧ ks.zs = spotsF i sz) ⟨s1, [], _, _, rfl, ⟨h1, fun p hp => by simp at hp⟩, rfl⟩ (fun i σ H' hi ⟨e, ks, a, b, es, hm, hz⟩ => ?_) (fun σ H' ⟨e, ks, a, b, es, hm, hz⟩ => ?_)
    · subst es
      have hm1 := hm.1
      walk_at "go"
      refine ⟨s0, sz, rfl, ok, e _ _ hs, fun H2 l pk s2 nl hl hpz => ?_⟩
      have hl1 := hl.1
      have hlen : (PlL.vs pk).length ≤ 6 := by
        have : (PlL.vs pk).length = pk.zs.length := by simp [PlL.vs, PlL.zs]
        rw [this, hpz]
        exact hpl.1
      walk_at "go"
      refine lcL (a := l) (xs := PlL.vs pk) [] (fun D j acc H' => ∃ k5 : SpL, acc = k5.vs ∧ k5.zs = (pk.zs.take j).map (fun pl => (1 + (i : Int), pl)) ∧ ∀ p ∈ k5, SpA H' p.1 p.2) (by omega) hl1 (by simp) (fun D H' nD sD hD => ⟨[], rfl, by simp, fun p hp => by simp at hp⟩) (fun D j x acc H5 nD hx hlj k5 hD ⟨ks5, ea, ez, ht⟩ => ?_) (fun D acc H5 nD hl5 k5 hD ⟨ks5, ea, ez, ht⟩ => ?_)
      · obtain ⟨pp, hpp, rfl⟩ := map_at hx
        have hpt := hl.2 pp (List.mem_of_getElem? hpp)
        walk_at "go"
        refine ⟨len2, fun t6 H6 n6 s6 h6 => ?_⟩
        refine ⟨s6 _ _ hD, same_k0 ((keep0 k5).trans s6), fun H8 k8 h8 => ⟨ks5 ++ [(t6, (1 + (i : Int), pp.2))], ?_, ?_, ?_⟩⟩
        · rw [ea, spL_app]
          rfl
        · have hq : pk.zs[j]? = some pp.2 := by simp only [PlL.zs]; rw [List.getElem?_map, hpp]; rfl
          rw [spL_zapp, ez, List.take_add_one, hq]
          simp [SpL.zs]
        · have nl8 := k8.nolL (s6 _ _ hD)
          refine LSp.app (l := m) ht ((same_nol s6).trans nl8) ⟨pp.1, nl8 _ _ h6 rfl, nl8 _ _ (s6 _ _ (keep0 k5 _ _ hpt)) rfl⟩
      · have s5 := keep0 k5
        have hm5 := s5 _ _ (s2 _ _ hm1)
        walk_at "go"
        have e1 : ks5.zs = (placesF sz).map fun pl => (1 + (i : Int), pl) := by
          rw [ez, hpz, List.take_of_length_le]
          have : (PlL.vs pk).length = pk.zs.length := by simp [PlL.vs, PlL.zs]
          rw [this, hpz]
          exact Nat.le_refl _
        have l1 : ks.length ≤ 30 := by
          have : ks.length = ks.zs.length := by simp [SpL.zs]
          rw [this, hz, spotsF_len]
          calc i * (placesF sz).length ≤ 5 * 6 := Nat.mul_le_mul (by omega) hpl.1
            _ = 30 := rfl
        refine v_ext hm5 hD (bigL (by simp only [SpL.vs, List.length_map]; omega)) fun H6 k6 h6 => ?_
        walk_at "go"
        have nl6 := k6.nolL hm5
        refine ⟨same_of_new ((e.trans s2).trans s5) n1 k6, ks ++ ks5, _, _, rfl, ⟨by rw [h6, ea, spL_app], fun p hp => ?_⟩, ?_⟩
        · rcases List.mem_append.mp hp with hp | hp
          · exact ((hm.2 p hp).same (s2.trans s5)).nol nl6
          · exact (ht p hp).nol nl6
        · rw [spL_zapp, hz, e1, spotsF_snoc]
    · subst es
      walk_at "go"
      exact q H' m ks e n1 hm hz
end
end
section
set_option maxHeartbeats 4000000
section
variable {P : Program} {w : World} {K : PySem.W.Frag} {mg : Str → Option Value} {base : Heap}
def spThere : Sp := fun vs H Q _ => ∃ (p a b : Addr) (sz : List Int) (tk : List Sp2) (R : Nat) (pl ss : List Int), vs = [.ref p, .ref a, .ref b] ∧ WorldA H p sz tk R ∧ H a = some (.tup (pl.map V.int)) ∧ plOk sz pl ∧ H b = some (.tup (ss.map V.int)) ∧ ss.length = sz.length ∧
  (∀ H', Same H H' → Q .non H') ∧ ∀ H' l pl', Same H H' → H' l = some (.tup (pl'.map V.int)) → plOk sz pl' → Q (.ref l) H'
theorem sc77 : FnScope ["_law_world_here", "_law_place", "_law_steps", "_law_found", "_law_k", "_law_size", "_law_at"] ["_law_world_here", "_law_place", "_law_steps"] (C8.fnScope st77) := C8.fnScope_by (by decide +kernel)
theorem ok_law_there (T : Txt K mg) : C8.Cal P w K mg base 1 "_law_there" spThere [] := by
  refine cal_by (k := 0) (T.df 77 _ rfl) (g_law_there T) sc77 (fun _ _ _ _ us hl => match us, hl with | [_, _, _], _ => rfl) (fun vs H Q E h => ?_) (fun A outer s H vs Q E hr o h => ?_)
  · obtain ⟨p, a, b, sz, tk, R, pl, ss, rfl, _⟩ := h
    rfl
  · obtain ⟨p, a, b, sz, tk, R, pl, ss, rfl, W, ha, hok, hb, hsl, qn, qp⟩ := h
    obtain ⟨ok, hR, _, _, _, s0, r0, t0, rk, tks, hp, hs, ⟨hrk, ps, hps, hpl, hpk⟩, htk, hz⟩ := id W
    have hlen := plOk_len hok
    have l := sz_len ok
    refine ⟨_, (pss_cons (ps_set (i := 3) (sc77).nd rfl (by first | exact Or.inl rfl | exact Or.inr rfl) (pe_tup (pa_mn pa_nil)))
      (pss_cons (ps_for PassesOwn.never rfl (pi_enumZ o (by rfl) (z_enumerate T) (pa_cons (pe_ix (ix_self o) (pv 0) pe_int (fun _ _ => rfl)) pa_nil)) (pg_tupZ (n := 2) o (pgs_cons (pg_name (i := 4) (sc77).nd (by rfl) (by first | exact Or.inl rfl | exact Or.inr rfl)) (pgs_cons (pg_name (i := 5) (sc77).nd (by rfl) (by first | exact Or.inl rfl | exact Or.inr rfl)) pgs_nil))) (pss_cons (ps_set (i := 6) (sc77).nd rfl (by first | exact Or.inl rfl | exact Or.inr rfl) (pe_op (op_self o) (pe_ix (ix_self o) (pv 1) (pv 4) (fun _ _ => rfl)) (pe_ix (ix_self o) (pv 2) (pv 4) (fun _ _ => rfl))))
      (pss_cons (ps_if (PW.pt (pw_and (pt_not (pt_chain (op_self o) (op_self o) pe_int (pv 6) (pv 5))) (pw_and1 (pt_cmpR (op_self o) (pe_ix (ix_self o) (pe_ix (ix_self o) (pe_ix (ix_self o) (pv 0) pe_int (fun _ _ => rfl)) (pv 4) (fun _ _ => rfl)) pe_int (fun _ _ => rfl)) pe_str (nomark _))))) (pss_one (ps_ret pe_non)) pss_nil)
      (pss_cons (ps_if (pt_cmpR (op_self o) (pe_ix (ix_self o) (pe_ix (ix_self o) (pe_ix (ix_self o) (pv 0) pe_int (fun _ _ => rfl)) (pv 4) (fun _ _ => rfl)) pe_int (fun _ _ => rfl)) pe_str (nomark _)) (pss_one (ps_set (i := 6) (sc77).nd rfl (by first | exact Or.inl rfl | exact Or.inr rfl) (pe_op (op_self o) (pv 6) (pv 5)))) pss_nil)
      (pss_cons (ps_if (pt_cmpR (op_self o) (pe_ix (ix_self o) (pe_ix (ix_self o) (pe_ix (ix_self o) (pv 0) pe_int (fun _ _ => rfl)) (pv 4) (fun _ _ => rfl)) pe_int (fun _ _ => rfl)) pe_str (nomark _)) (pss_one (ps_set (i := 6) (sc77).nd rfl (by first | exact Or.inl rfl | exact Or.inr rfl) (pe_callB (cr_self o) (by rfl) (z_min T) b_min (pa_cons (pe_op (op_self o) (pv 6) (pe_op (op_self o) pe_int (pv 5))) (pa_cons (pe_op (op_self o) (pe_op (op_self o) (pe_op (op_self o) pe_int (pv 5)) pe_int) (pe_op (op_self o) (pv 6) (pe_op (op_self o) pe_int (pv 5)))) pa_nil))))) pss_nil)
      (pss_one (ps_set (i := 3) (sc77).nd rfl (by first | exact Or.inl rfl | exact Or.inr rfl) (pe_op (op_self o) (pv 3) (pe_tup (pa_mn (pa_cons (pv 6) pa_nil)))))))))))
      (pss_one (ps_ret (pv 3))))), ?_⟩
    walk_at "go"
    refine ⟨len0, fun e0 H1 n1 s1 h1 => ?_⟩
    walk_at "go"
    refine forZ we (fun i σ H' => Same H H' ∧ ∃ (f : Addr) (q : List Int) (a1 b1 c1 : Option V), σ = [some (.ref p), some (.ref a), some (.ref b), some (.ref f), a1, b1, c1] ∧ H' f = some (.tup (q.map V.int)) ∧ plOk (sz.take i) q) ⟨s1, e0, [], _, _, _, rfl, h1, trivial⟩ (fun i σ H' hi ⟨e, _⟩ => e _ _ hs) (fun i x σ H2 H3 hi ⟨e, f, q, a1, b1, c1, es, hf, hq⟩ y => ?_) (fun σ H' ⟨e, f, q, a1, b1, c1, es, hf, hq⟩ => ?_)
    · subst es
      obtain ⟨Tt, u1, u2, rfl, nT, rfl, hu1, hu2⟩ := y
      cases hu1
      obtain ⟨s5, hs5, rfl⟩ := map_at hu2
      have hil : i < sz.length := by rw [List.length_map] at hi; omega
      obtain ⟨p5, hp5⟩ : ∃ p5, pl[i]? = some p5 := ⟨_, List.getElem?_eq_getElem (by omega)⟩
      obtain ⟨t5, ht5⟩ : ∃ t5, ss[i]? = some t5 := ⟨_, List.getElem?_eq_getElem (by omega)⟩
      obtain ⟨r5, hr5⟩ : ∃ r5, ps[i]? = some r5 := ⟨_, List.getElem?_eq_getElem (by omega)⟩
      obtain ⟨k, hk5⟩ : ∃ k, rk[i]? = some k := ⟨_, List.getElem?_eq_getElem (by omega)⟩
      have hp5' : (pl.map V.int)[i]? = some (V.int p5) := by rw [List.getElem?_map, hp5]; rfl
      have ht5' : (ss.map V.int)[i]? = some (V.int t5) := by rw [List.getElem?_map, ht5]; rfl
      have hr5' : (ps.map V.ref)[i]? = some (V.ref r5) := by rw [List.getElem?_map, hr5]; rfl
      have hT : upd H2 Tt (.tup [V.int (i : Nat), V.int s5]) Tt = some (.tup [V.int (i : Nat), V.int s5]) := upd_same
      have sT : Same H2 (upd H2 Tt (.tup [V.int (i : Nat), V.int s5])) := same_new nT
      have b := sz_each ok _ (List.mem_of_getElem? hs5)
      have hK := ((hpk i r5 k hr5 hk5).same e).same sT
      have hf := sT _ _ hf
      have ql := plOk_len hq
      rw [List.length_take] at ql
      generalize upd H2 Tt (.tup [V.int (i : Nat), V.int s5]) = H3 at hT sT hK hf
      have e3 := e.trans sT
      have m1 : 0 ≤ (p5 + t5) % (2 * s5) := Int.emod_nonneg _ (by omega)
      have m2 : (p5 + t5) % (2 * s5) < 2 * s5 := Int.emod_lt_of_pos _ (by omega)
      have m3 : 0 ≤ (p5 + t5) % s5 := Int.emod_nonneg _ (by omega)
      have m4 : (p5 + t5) % s5 < s5 := Int.emod_lt_of_pos _ (by omega)
      cases k with
      | fx =>
        have hK : H3 r5 = some (.tup [.str "fixed", .int 7]) := hK
        walk_at "go"
        refine iteD (fun hb1 => ?_) (fun hb1 => ?_)
        · walk_at "go"
          refine iteND (fun hb2 => ?_) (fun hb2 => ?_)
          · walk_at "go"
            exact qn _ e3
          · walk_at "go"
            refine ⟨len1, fun t6 H6 n6 s6 h6 => ?_⟩
            walk_at "go"
            refine v_catT (s6 _ _ hf) h6 (by simp) (bigL (by simp only [List.length_map, List.length_cons, List.length_nil]; omega)) fun p7 H7 s7 h7 => ?_
            walk_at "go"
            refine ⟨(e3.trans s6).trans s7, p7, q ++ [p5 + t5], _, _, _, rfl, by rw [h7, List.map_append]; rfl, ?_⟩
            rw [List.take_add_one, hs5]
            exact plOk_snoc hq (by omega) (by omega)
        · walk_at "go"
          exact qn _ e3
      | ro =>
        have hK : H3 r5 = some (.tup [.str "round"]) := hK
        walk_at "go"
        refine iteD (fun hb1 => ?_) (fun hb1 => ?_)
        · walk_at "go"
          refine iteND (fun hb2 => ?_) (fun hb2 => ?_)
          · walk_at "go"
            refine ⟨len1, fun t6 H6 n6 s6 h6 => ?_⟩
            walk_at "go"
            refine v_catT (s6 _ _ hf) h6 (by simp) (bigL (by simp only [List.length_map, List.length_cons, List.length_nil]; omega)) fun p7 H7 s7 h7 => ?_
            walk_at "go"
            refine ⟨(e3.trans s6).trans s7, p7, q ++ [(p5 + t5) % s5], _, _, _, rfl, by rw [h7, List.map_append]; rfl, ?_⟩
            rw [List.take_add_one, hs5]
            exact plOk_snoc hq (by omega) (by omega)
          · walk_at "go"
            refine ⟨len1, fun t6 H6 n6 s6 h6 => ?_⟩
            walk_at "go"
            refine v_catT (s6 _ _ hf) h6 (by simp) (bigL (by simp only [List.length_map, List.length_cons, List.length_nil]; omega)) fun p7 H7 s7 h7 => ?_
            walk_at "go"
            refine ⟨(e3.trans s6).trans s7, p7, q ++ [(p5 + t5) % s5], _, _, _, rfl, by rw [h7, List.map_append]; rfl, ?_⟩
            rw [List.take_add_one, hs5]
            exact plOk_snoc hq (by omega) (by omega)
        · walk_at "go"
          refine ⟨len1, fun t6 H6 n6 s6 h6 => ?_⟩
          walk_at "go"
          refine v_catT (s6 _ _ hf) h6 (by simp) (bigL (by simp only [List.length_map, List.length_cons, List.length_nil]; omega)) fun p7 H7 s7 h7 => ?_
          walk_at "go"
          refine ⟨(e3.trans s6).trans s7, p7, q ++ [(p5 + t5) % s5], _, _, _, rfl, by rw [h7, List.map_append]; rfl, ?_⟩
          rw [List.take_add_one, hs5]
          exact plOk_snoc hq (by omega) (by omega)
      | mi =>
        have hK : H3 r5 = some (.tup [.str "mirror"]) := hK
        walk_at "go"
        refine iteD (fun hb1 => ?_) (fun hb1 => ?_)
        · walk_at "go"
          refine iteND (fun hb2 => ?_) (fun hb2 => ?_)
          · walk_at "go"
            refine ⟨len1, fun t6 H6 n6 s6 h6 => ?_⟩
            walk_at "go"
            refine v_catT (s6 _ _ hf) h6 (by simp) (bigL (by simp only [List.length_map, List.length_cons, List.length_nil]; omega)) fun p7 H7 s7 h7 => ?_
            walk_at "go"
            refine ⟨(e3.trans s6).trans s7, p7, q ++ [min ((p5 + t5) % (2 * s5)) (2 * s5 - 1 - (p5 + t5) % (2 * s5))], _, _, _, rfl, by rw [h7, List.map_append]; rfl, ?_⟩
            rw [List.take_add_one, hs5]
            exact plOk_snoc hq (by omega) (by omega)
          · walk_at "go"
            refine ⟨len1, fun t6 H6 n6 s6 h6 => ?_⟩
            walk_at "go"
            refine v_catT (s6 _ _ hf) h6 (by simp) (bigL (by simp only [List.length_map, List.length_cons, List.length_nil]; omega)) fun p7 H7 s7 h7 => ?_
            walk_at "go"
            refine ⟨(e3.trans s6).trans s7, p7, q ++ [min ((p5 + t5) % (2 * s5)) (2 * s5 - 1 - (p5 + t5) % (2 * s5))], _, _, _, rfl, by rw [h7, List.map_append]; rfl, ?_⟩
            rw [List.take_add_one, hs5]
            exact plOk_snoc hq (by omega) (by omega)
        · walk_at "go"
          refine ⟨len1, fun t6 H6 n6 s6 h6 => ?_⟩
          walk_at "go"
          refine v_catT (s6 _ _ hf) h6 (by simp) (bigL (by simp only [List.length_map, List.length_cons, List.length_nil]; omega)) fun p7 H7 s7 h7 => ?_
          walk_at "go"
          refine ⟨(e3.trans s6).trans s7, p7, q ++ [min ((p5 + t5) % (2 * s5)) (2 * s5 - 1 - (p5 + t5) % (2 * s5))], _, _, _, rfl, by rw [h7, List.map_append]; rfl, ?_⟩
          rw [List.take_add_one, hs5]
          exact plOk_snoc hq (by omega) (by omega)
    · subst es
      walk_at "go"
      refine qp _ f q e hf ?_
      rw [List.length_map, List.take_length] at hq
      exact hq
end
end
section
set_option maxHeartbeats 4000000
section
variable {P : Program} {w : World} {K : PySem.W.Frag} {mg : Str → Option Value} {base : Heap}
def spLeans : Sp := fun vs H Q _ => ∃ (p a : Addr) (sz : List Int) (tk : List Sp2) (R : Nat) (z : Sp2), vs = [.ref p, .ref a] ∧ WorldA H p sz tk R ∧ SpA H a z ∧ SpOk R sz z ∧
  ∀ H' l (ks : SpL), Same H H' → H l = none → LSp H' l ks → (∀ y ∈ ks.zs, SpOk R sz y ∧ y.1 < z.1) → ks.length ≤ 3 → Q (.ref l) H'
theorem sc78 : FnScope ["_law_world_here", "_law_spot", "_law_found", "_law_back", "_law_steps", "_law_there_here"] ["_law_world_here", "_law_spot"] (C8.fnScope st78) := C8.fnScope_by (by decide +kernel)
theorem ok_law_leans (T : Txt K mg) : C8.Cal P w K mg base 2 "_law_leans" spLeans [] := by
  refine cal_by (k := 1) (T.df 78 _ rfl) (g_law_leans T) sc78 (fun _ _ _ _ us hl => match us, hl with | [_, _], _ => rfl) (fun vs H Q E h => ?_) (fun A outer s H vs Q E hr o h => ?_)
  · obtain ⟨p, a, sz, tk, R, z, rfl, _⟩ := h
    rfl
  · obtain ⟨p, a, sz, tk, R, z, rfl, W, ⟨pa, ha1, ha2⟩, ⟨z1, z2, z3⟩, q⟩ := h
    obtain ⟨ok, hR, htok, hfew, _, s0, r0, t0, rk, tks, hp, hs, hrm, htk, hz⟩ := id W
    have htk1 := htk.1
    refine ⟨_, (pss_cons (ps_set (i := 2) (sc78).nd rfl (by first | exact Or.inl rfl | exact Or.inr rfl) (pe_lst (pa_mn pa_nil)))
      (pss_cons (ps_for PassesOwn.never rfl (pi_listZ o (pe_ix (ix_self o) (pv 0) pe_int (fun _ _ => rfl))) (pg_tupZ (n := 2) o (pgs_cons (pg_name (i := 3) (sc78).nd (by rfl) (by first | exact Or.inl rfl | exact Or.inr rfl)) (pgs_cons (pg_name (i := 4) (sc78).nd (by rfl) (by first | exact Or.inl rfl | exact Or.inr rfl)) pgs_nil))) (pss_cons (ps_set (i := 5) (sc78).nd rfl (by first | exact Or.inl rfl | exact Or.inr rfl) (C8.pe_c (ok_law_there (P := P) (w := w) T) hr (by decide) (by rfl) (pa_cons (pv 0) (pa_cons (pe_ix (ix_self o) (pv 1) pe_int (fun _ _ => rfl)) (pa_cons (pv 4) pa_nil)))))
      (pss_one (ps_if (PW.pt (pw_and (pt_cmpR (op_self o) (pv 5) pe_non (nomark _)) (pw_and (pt_cmpR (op_self o) (pe_ix (ix_self o) (pv 1) pe_int (fun _ _ => rfl)) (pv 3) (nomark _)) (pw_and1 (pt_cmpR (op_self o) (pe_tup (pa_mn (pa_cons (pe_op (op_self o) (pe_ix (ix_self o) (pv 1) pe_int (fun _ _ => rfl)) (pv 3)) (pa_cons (pv 5) pa_nil)))) (pv 2) (by rfl)))))) (pss_one (ps_expr (pe_bmZ o PySem.F.plainAttrs_list PySem.F.slot_list_append PySem.F.type_list_append (mt_self o) (pe_mn (pv 2)) (pa_cons (pe_tup (pa_mn (pa_cons (pe_op (op_self o) (pe_ix (ix_self o) (pv 1) pe_int (fun _ _ => rfl)) (pv 3)) (pa_cons (pv 5) pa_nil)))) pa_nil)))) pss_nil))))
      (pss_one (ps_ret (pv 2))))), ?_⟩
    walk_at "go"
    refine ⟨len0, fun m H1 n1 s1 h1 => ?_⟩
    walk_at "go"
    have hlt : tks.length ≤ 3 := by
      have : tks.length = tks.zs.length := by simp [SpL.zs]
      rw [this, hz]
      exact hfew
    refine forL (a := t0) (xs := tks.vs) (fun i σ H' => Same H H' ∧ ∃ (ks : SpL) (a1 b1 c1 : Option V), σ = [some (.ref p), some (.ref a), some (.ref m), a1, b1, c1] ∧ LSp H' m ks ∧ (∀ y ∈ ks.zs, SpOk R sz y ∧ y.1 < z.1) ∧ ks.length ≤ i) ⟨s1, [], _, _, _, rfl, ⟨h1, fun p hp => by simp at hp⟩, fun y hy => by simp [SpL.zs] at hy, Nat.le_refl _⟩ (fun i σ H' hi ⟨e, _⟩ => e _ _ htk1) (fun i x σ H2 hx ⟨e, ks, a1, b1, c1, es, hm, hok, hl⟩ => ?_) (fun σ H' ⟨e, ks, a1, b1, c1, es, hm, hok, hl⟩ => ?_)
    · subst es
      obtain ⟨t, ht, rfl⟩ := map_at hx
      have hm1 := hm.1
      obtain ⟨bt, g1, g2⟩ := (htk.2 t (List.mem_of_getElem? ht)).same e
      have tko := htok t.2 (by rw [← hz]; exact List.mem_map.mpr ⟨t, List.mem_of_getElem? ht, rfl⟩)
      have il : i < 3 := by
        have := (List.getElem?_eq_some_iff.mp ht).1
        omega
      walk_at "go"
      refine ⟨p, pa, bt, sz, tk, R, z.2, t.2.2, rfl, W.same e, e _ _ ha2, z3, g2, tko.2.2.1, fun H3 s3 => ?_, fun H3 l pl' s3 hl3 hpl3 => ?_⟩
      · have hm3 := s3 _ _ hm1
        walk_at "go"
        exact ⟨e.trans s3, ks, _, _, _, rfl, hm.same s3, hok, by omega⟩
      · have hm3 := s3 _ _ hm1
        walk_at "go"
        refine iteD (fun hb => ?_) (fun hb => ?_)
        · walk_at "go"
          refine ⟨len2, fun t6 H6 n6 s6 h6 => ?_⟩
          have hsp6 : SpA H6 t6 (z.1 - t.2.1, pl') := ⟨l, h6, s6 _ _ hl3⟩
          have hm6 : LSp H6 m ks := (hm.same s3).same s6
          have hm61 := hm6.1
          walk_at "go"
          refine v_ninS hsp6 hm6 ?_
          walk_at "go"
          refine iteND (fun hb2 => ?_) (fun hb2 => ?_)
          · walk_at "go"
            refine ⟨len2, fun t7 H7 n7 s7 h7 => ?_⟩
            have hm7 := s7 _ _ hm61
            walk_at "go"
            refine v_app hm7 (bigL' (by simp only [SpL.vs, List.length_map]; omega)) fun H8 k8 h8 => ?_
            walk_at "go"
            have nl8 := k8.nolL hm7
            refine ⟨same_of_new ((e.trans s3).trans (s6.trans s7)) n1 k8, ks ++ [(t7, (z.1 - t.2.1, pl'))], _, _, _, rfl, ⟨by rw [h8, spL_app]; rfl, fun q hq => ?_⟩, fun y hy => ?_, ?_⟩
            · refine LSp.app (l := m) (H := H7) (H' := H8) (fun q hq => (hm6.2 q hq).same s7) nl8 ⟨l, nl8 _ _ h7 rfl, nl8 _ _ (s7 _ _ (s6 _ _ hl3)) rfl⟩ q hq
            · rw [spL_zapp] at hy
              rcases List.mem_append.mp hy with hy | hy
              · exact hok y hy
              · have hy : y = (z.1 - t.2.1, pl') := by simpa [SpL.zs] using hy
                subst hy
                have := tko.1
                exact ⟨⟨by show 1 ≤ z.1 - t.2.1; omega, by show z.1 - t.2.1 ≤ R; omega, hpl3⟩, by show z.1 - t.2.1 < z.1; omega⟩
            · rw [List.length_append]
              show ks.length + 1 ≤ i + 1
              omega
          · walk_at "go"
            exact ⟨(e.trans s3).trans s6, ks, _, _, _, rfl, hm6, hok, by omega⟩
        · walk_at "go"
          exact ⟨e.trans s3, ks, _, _, _, rfl, hm.same s3, hok, by omega⟩
    · subst es
      walk_at "go"
      refine q H' m ks e n1 hm hok ?_
      simp only [SpL.vs, List.length_map] at hl
      omega
/-! ### the script's cells, the tape's making -/
def spCell (K : PySem.W.Frag) : Sp := fun vs H Q _ => ∃ (a : Addr) (ns : List Int) (k : Int), vs = [.ref a, .int k] ∧ SqL K H a (ns.map V.int) ∧ 0 ≤ k ∧ ∀ i : Int, Q (.int i) H
theorem sc71 : FnScope ["_law_script", "_law_k"] ["_law_script", "_law_k"] (C8.fnScope st71) := C8.fnScope_by (by decide +kernel)
theorem ok_law_cell_at (T : Txt K mg) : C8.Cal P w K mg base 1 "_law_cell_at" (spCell K) [] := by
  refine cal_by (k := 0) (T.df 71 _ rfl) (g_law_cell_at T) sc71 (fun _ _ _ _ us hl => match us, hl with | [_, _], _ => rfl) (fun vs H Q E h => ?_) (fun A outer s H vs Q E hr o h => ?_)
  · obtain ⟨a, ns, k, rfl, _⟩ := h
    rfl
  · obtain ⟨a, ns, k, rfl, ha, hk, q⟩ := h
    refine ⟨_, (pss_cons (ps_if (pt_cmpR (op_self o) (pv 1) (pe_callB (cr_self o) (by rfl) (z_len T) b_len (pa_cons (pv 0) pa_nil)) (nomark _)) (pss_one (ps_ret (pe_ix (ix_self o) (pv 0) (pv 1) (fun _ _ => rfl)))) pss_nil)
      (pss_one (ps_ret pe_int))), ?_⟩
    walk_at "go"
    refine v_lenS ha ?_
    walk_at "go"
    refine iteD (fun hb => ?_) (fun hb => ?_)
    · walk_at "go"
      rw [List.length_map] at hb
      obtain ⟨i, hi⟩ : ∃ i, ns[k.toNat]? = some i := ⟨_, List.getElem?_eq_getElem (by omega)⟩
      refine v_ixS ha (v := .int i) ?_ (q i)
      have e : k = ((k.toNat : Nat) : Int) := by omega
      rw [e]
      refine atI_nat ?_
      rw [List.getElem?_map, hi]
      rfl
    · walk_at "go"
      exact q 0
def spTape0 : Sp := fun vs H Q _ => ∃ n : Int, vs = [.int n] ∧ ∀ H' t (a b c : Int), H t = none → Same H H' → H' t = some (.lst [.int a, .int b, .int c]) → Q (.ref t) H'
theorem sc72 : FnScope ["_law_cell"] ["_law_cell"] (C8.fnScope st72) := C8.fnScope_by (by decide +kernel)
theorem ok_law_tape0 (T : Txt K mg) : C8.Cal P w K mg base 1 "_law_tape" spTape0 [] := by
  refine cal_by (k := 0) (T.df 72 _ rfl) (g_law_tape T) sc72 (fun _ _ _ _ us hl => match us, hl with | [_], _ => rfl) (fun vs H Q E h => ?_) (fun A outer s H vs Q E hr o h => ?_)
  · obtain ⟨n, rfl, _⟩ := h
    rfl
  · obtain ⟨n, rfl, q⟩ := h
    refine ⟨_, (pss_one (ps_ret (pe_lst (pa_mn (pa_cons (pe_op (op_self o) (pv 0) pe_int) (pa_cons (pe_op (op_self o) (pe_callTy (cr_self o) (by rfl) (z_int T) b_int (pa_cons (pe_cmpR (op_self o) (pv 0) (pe_op (op_self o) pe_int pe_int) (nomark _)) pa_nil)) (pv 0)) (pa_cons pe_int pa_nil))))))), ?_⟩
    walk_at "go"
    refine v_pow (by unfold CPow; decide) ?_
    walk_at "go"
    exact ⟨len3, fun t H' nt s' h' => q H' t _ _ _ nt s' h'⟩
/-- a new tape -/
def spTape : Sp := fun vs H Q _ => ∃ n : Int, vs = [.int n] ∧ ∀ H' t, H t = none → Same H H' → H' t = some (TapeO t) → Q (.ref t) H'
theorem ok_law_tape (T : Txt K mg) : C8.Cal P w K mg base 1 "_law_tape" spTape [] := by
  obtain ⟨f, fd, ps, ds, F, hm, kp, b, d⟩ := (ok_law_tape0 (P := P) (w := w) (base := base) T).ex
  cases d
  have len : 1 = ps.length := F.len [.int 1] (fun _ => none) (fun _ _ => True) (fun _ _ _ => True) ⟨1, rfl, fun _ _ _ _ _ _ _ _ => trivial⟩
  refine ⟨f, fd, ps, [], ⟨fun vs H Q E h => ?_, fun A outer s H args us vs Q E hr e0 hb hv h => ?_⟩, hm, kp, b, .nil⟩
  · obtain ⟨n, rfl, _⟩ := h
    exact len
  · obtain ⟨n, rfl, k⟩ := h
    refine codeAny_mono (F.run A outer s H args us [.int n] (fun v H' => ∃ t a b c, v = .ref t ∧ H t = none ∧ Same H H' ∧ H' t = some (.lst [.int a, .int b, .int c])) E hr e0 hb hv ⟨n, rfl, fun H' t a b c nt s' h' => ⟨t, a, b, c, rfl, nt, s', h'⟩⟩) fun r s' hq => ?_
    cases r with
    | error e => exact hq
    | ok fl =>
      cases fl with
      | ret u =>
        obtain ⟨v, H', os, bare, un, hok, rv, t, a, b, c, rfl, nt, sm, ht⟩ := hq
        refine ⟨.ref t, upd H' t (TapeO t), os, bare, ⟨un.keep, un.slot, fun b ob q n hx => ?_, un.there, fun b xs q => ?_, fun b ob xs q => ?_, fun b ps q => ?_⟩, hok_swap hok ht (fun x z => nomatch z) (fun x z => nomatch z) (tape_lst hok ht), rv, k _ t nt (fun b o q => ?_) upd_same⟩
        · have z := un.free b ob q n hx
          rw [upd_ne (fun y => by rw [y, ht] at z; cases z)]
          exact z
        · rw [upd_ne (ne_of_none q nt)]
          exact un.tups b xs q
        · rw [upd_ne (ne_of_none q nt)]
          exact un.frzs b ob xs q
        · rw [upd_ne (ne_of_none q nt)]
          exact un.tbls b ps q
        · rw [upd_ne (ne_of_none q nt)]
          exact sm b o q
      | next => exact hq
      | brk => exact hq
      | cont => exact hq
end
end
section
set_option maxHeartbeats 4000000
theorem pick {α : Type} {xs : List α} {i : Int} (h0 : 0 ≤ i) (h1 : i < xs.length) : ∃ v, v ∈ xs ∧ atI xs i = some v := by
  obtain ⟨v, hv⟩ : ∃ v, xs[i.toNat]? = some v := ⟨_, List.getElem?_eq_getElem (by omega)⟩
  refine ⟨v, List.mem_of_getElem? hv, ?_⟩
  have e : i = ((i.toNat : Nat) : Int) := by omega
  rw [e]
  exact atI_nat hv
section
variable {P : Program} {w : World} {K : PySem.W.Frag} {mg : Str → Option Value} {base : Heap}
def spWorld : Sp := fun vs H Q _ => ∃ t : Addr, vs = [.ref t] ∧ H t = some (TapeO t) ∧ ∀ H' p sz tk R, Same H H' → WorldA H' p sz tk R → Q (.ref p) H'
theorem sc74 : FnScope ["_law_tape_here", "_law_sizes", "_law_rims", "_law_takes", "_law_k", "_law_back", "_law_steps", "_law_size"] ["_law_tape_here"] (C8.fnScope st74) := C8.fnScope_by (by decide +kernel)
theorem ok_law_world (T : Txt K mg) : C8.Cal P w K mg base 2 "_law_world" spWorld [] := by
  refine cal_by (k := 1) (T.df 74 _ rfl) (g_law_world T) sc74 (fun _ _ _ _ us hl => match us, hl with | [_], _ => rfl) (fun vs H Q E h => ?_) (fun A outer s H vs Q E hr o h => ?_)
  · obtain ⟨t, rfl, _⟩ := h
    rfl
  · obtain ⟨t, rfl, ht, q⟩ := h
    refine ⟨_, (pss_cons (ps_set (i := 1) (sc74).nd rfl (by first | exact Or.inl rfl | exact Or.inr rfl) (pe_ix (ix_self o) (pe_lst (pa_mn (pa_cons (pe_lst (pa_mn (pa_cons pe_int pa_nil))) (pa_cons (pe_lst (pa_mn (pa_cons pe_int (pa_cons pe_int pa_nil)))) (pa_cons (pe_lst (pa_mn (pa_cons pe_int pa_nil))) (pa_cons (pe_lst (pa_mn (pa_cons pe_int pa_nil))) (pa_cons (pe_lst (pa_mn (pa_cons pe_int (pa_cons pe_int pa_nil)))) (pa_cons (pe_lst (pa_mn (pa_cons pe_int pa_nil))) (pa_cons (pe_lst (pa_mn (pa_cons pe_int (pa_cons pe_int (pa_cons pe_int pa_nil))))) (pa_cons (pe_lst (pa_mn (pa_cons pe_int (pa_cons pe_int pa_nil)))) pa_nil)))))))))) (C8.pe_c (ok_law_draw (P := P) (w := w) T) hr (by decide) (by rfl) (pa_cons (pv 0) (pa_cons pe_int pa_nil))) (fun _ _ => rfl)))
      (pss_cons (ps_setLc (i := 2) (own := [("_law_size", 7)]) rfl (sc74).nd rfl rfl (sw_true rfl rfl rfl (by decide +kernel)) (pi_listZ o (pv 1)) (blkOk_by (own := [("_law_size", 7)]) (by kernel_rfl)) (fun _ _ _ _ _ => pg_mn (pg_name (i := 7) (sc74).nd (by rfl) (by first | exact Or.inl rfl | exact Or.inr rfl))) (fun _ _ _ _ _ => pts_mn pts_nil) (fun _ _ _ _ _ => pe_mn (pe_ix (ix_self o.blk) (pe_lst (pa_mn (pa_cons (pe_tup (pa_mn (pa_cons pe_str (pa_cons pe_int pa_nil)))) (pa_cons (pe_tup (pa_mn (pa_cons pe_str pa_nil))) (pa_cons (pe_tup (pa_mn (pa_cons pe_str pa_nil))) pa_nil))))) (C8.pe_c (ok_law_draw (P := P) (w := w) T) hr (by decide) (by rfl) (pa_cons (pv 0) (pa_cons pe_int pa_nil))) (fun _ _ => rfl))))
      (pss_cons (ps_set (i := 3) (sc74).nd rfl (by first | exact Or.inl rfl | exact Or.inr rfl) (pe_lst (pa_mn pa_nil)))
      (pss_cons (ps_for PassesOwn.never rfl (pi_range1 (by rfl) (z_range T) (pa_cons (pe_ix (ix_self o) (pe_lst (pa_mn (pa_cons pe_int (pa_cons pe_int (pa_cons pe_int (pa_cons pe_int (pa_cons pe_int (pa_cons pe_int pa_nil)))))))) (C8.pe_c (ok_law_draw (P := P) (w := w) T) hr (by decide) (by rfl) (pa_cons (pv 0) (pa_cons pe_int pa_nil))) (fun _ _ => rfl)) pa_nil)) (pg_name (i := 4) (sc74).nd (by rfl) (by first | exact Or.inl rfl | exact Or.inr rfl)) (pss_cons (ps_set (i := 5) (sc74).nd rfl (by first | exact Or.inl rfl | exact Or.inr rfl) (pe_ix (ix_self o) (pe_lst (pa_mn (pa_cons pe_int (pa_cons pe_int (pa_cons pe_int (pa_cons pe_int pa_nil)))))) (C8.pe_c (ok_law_draw (P := P) (w := w) T) hr (by decide) (by rfl) (pa_cons (pv 0) (pa_cons pe_int pa_nil))) (fun _ _ => rfl)))
      (pss_cons (ps_set (i := 6) (sc74).nd rfl (by first | exact Or.inl rfl | exact Or.inr rfl) (pe_callTy (cr_self o) (by rfl) (z_tuple T) b_tuple (pa_cons (pe_lc (own := [("_law_size", 7)]) rfl (sc74).nd (pi_listZ o (pv 1)) (blkOk_by (own := [("_law_size", 7)]) (by kernel_rfl)) (fun _ _ _ _ _ => pg_mn (pg_name (i := 7) (sc74).nd (by rfl) (by first | exact Or.inl rfl | exact Or.inr rfl))) (fun _ _ _ _ _ => pts_mn pts_nil) (fun _ _ _ _ _ => pe_mn (pe_op (op_self o.blk) (C8.pe_c (ok_law_draw (P := P) (w := w) T) hr (by decide) (by rfl) (pa_cons (pv 0) (pa_cons pe_int pa_nil))) pe_int))) pa_nil)))
      (pss_one (ps_if (pt_cmpR (op_self o) (pe_tup (pa_mn (pa_cons (pv 5) (pa_cons (pv 6) pa_nil)))) (pv 3) (by rfl)) (pss_one (ps_expr (pe_bmZ o PySem.F.plainAttrs_list PySem.F.slot_list_append PySem.F.type_list_append (mt_self o) (pe_mn (pv 3)) (pa_cons (pe_tup (pa_mn (pa_cons (pv 5) (pa_cons (pv 6) pa_nil)))) pa_nil)))) pss_nil)))))
      (pss_one (ps_ret (pe_tup (pa_mn (pa_cons (pv 1) (pa_cons (pv 2) (pa_cons (pv 3) (pa_cons (C8.pe_c (ok_law_draw (P := P) (w := w) T) hr (by decide) (by rfl) (pa_cons (pv 0) (pa_cons pe_int pa_nil))) pa_nil)))))))))))), ?_⟩
    walk_at "go"
    refine ⟨len1, fun a0 H0 n0 s0 h0 => ?_⟩
    walk_at "go"
    refine ⟨len2, fun a1 H1 n1 s1 h1 => ?_⟩
    walk_at "go"
    refine ⟨len1, fun a2 H2 n2 s2 h2 => ?_⟩
    walk_at "go"
    refine ⟨len1, fun a3 H3 n3 s3 h3 => ?_⟩
    walk_at "go"
    refine ⟨len2, fun a4 H4 n4 s4 h4 => ?_⟩
    walk_at "go"
    refine ⟨len1, fun a5 H5 n5 s5 h5 => ?_⟩
    walk_at "go"
    refine ⟨len3, fun a6 H6 n6 s6 h6 => ?_⟩
    walk_at "go"
    refine ⟨len2, fun a7 H7 n7 s7 h7 => ?_⟩
    walk_at "go"
    refine ⟨len8, fun l8 H8 n8 s8 h8 => ?_⟩
    walk_at "go"
    have t8 : Same H H8 := s0.trans (s1.trans (s2.trans (s3.trans (s4.trans (s5.trans (s6.trans (s7.trans s8)))))))
    refine ⟨t, 8, rfl, t8 _ _ ht, by decide, by decide, fun H9 i i0 i1 s9 => ?_⟩
    obtain ⟨sp, sz, hat, hsp, ok⟩ : ∃ sp sz, atI [V.ref a0, V.ref a1, V.ref a2, V.ref a3, V.ref a4, V.ref a5, V.ref a6, V.ref a7] i = some (V.ref sp) ∧ H9 sp = some (.lst (List.map V.int sz)) ∧ SzOk sz := by
      have c : i = 0 ∨ i = 1 ∨ i = 2 ∨ i = 3 ∨ i = 4 ∨ i = 5 ∨ i = 6 ∨ i = 7 := by omega
      have k7 := s8.trans s9
      have k6 := s7.trans k7
      have k5 := s6.trans k6
      have k4 := s5.trans k5
      have k3 := s4.trans k4
      have k2 := s3.trans k3
      have k1 := s2.trans k2
      have k0 := s1.trans k1
      rcases c with c | c | c | c | c | c | c | c <;> subst c
      · exact ⟨a0, [3], atI_nat (j := 0) rfl, k0 _ _ h0, by decide⟩
      · exact ⟨a1, [2, 2], atI_nat (j := 1) rfl, k1 _ _ h1, by decide⟩
      · exact ⟨a2, [4], atI_nat (j := 2) rfl, k2 _ _ h2, by decide⟩
      · exact ⟨a3, [1], atI_nat (j := 3) rfl, k3 _ _ h3, by decide⟩
      · exact ⟨a4, [2, 1], atI_nat (j := 4) rfl, k4 _ _ h4, by decide⟩
      · exact ⟨a5, [5], atI_nat (j := 5) rfl, k5 _ _ h5, by decide⟩
      · exact ⟨a6, [2, 1, 2], atI_nat (j := 6) rfl, k6 _ _ h6, by decide⟩
      · exact ⟨a7, [3, 2], atI_nat (j := 7) rfl, k7 _ _ h7, by decide⟩
    have hl := sz_len ok
    clear h0 h1 h2 h3 h4 h5 h6 h7 s0 s1 s2 s3 s4 s5 s6 s7 n0 n1 n2 n3 n4 n5 n6 n7
    walk_at "go"
    have t9 := t8.trans s9
    refine lcL (a := sp) (xs := sz.map V.int) [] (fun D j acc H' => ∃ (ps : List Addr) (rk : List Rk), acc = ps.map V.ref ∧ ps.length = j ∧ rk.length = j ∧ ∀ (i : Nat) (p : Addr) (k : Rk), ps[i]? = some p → rk[i]? = some k → RimA H' p k) (by simp; omega) hsp (by simp) (fun D H' nD sD hD => ⟨[], [], rfl, rfl, rfl, fun i p k h => by simp at h⟩) (fun D j x acc H10 nD hx hlj k10 hD ⟨ps, rk, ea, pl, rl, hps⟩ => ?_) (fun D acc H10 nD hl5 k10 hD ⟨ps, rk, ea, pl, rl, hps⟩ => ?_)
    · have s10 := keep0 k10
      have ht10 := s10 _ _ (t9 _ _ ht)
      obtain ⟨s', hs', rfl⟩ := map_at hx
      walk_at "go"
      refine ⟨len2, fun b0 H11 m0 r0 g0 => ?_⟩
      walk_at "go"
      refine ⟨len1, fun b1 H12 m1 r1 g1 => ?_⟩
      walk_at "go"
      refine ⟨len1, fun b2 H13 m2 r2 g2 => ?_⟩
      walk_at "go"
      refine ⟨len3, fun b3 H14 m3 r3 g3 => ?_⟩
      walk_at "go"
      have r14 := r0.trans (r1.trans (r2.trans r3))
      refine ⟨t, 3, rfl, r14 _ _ ht10, by decide, by decide, fun H15 j' j0 j1 r15 => ?_⟩
      obtain ⟨pk, k, hat', hpk⟩ : ∃ pk k, atI [V.ref b0, V.ref b1, V.ref b2] j' = some (V.ref pk) ∧ RimA H15 pk k := by
        have c : j' = 0 ∨ j' = 1 ∨ j' = 2 := by omega
        rcases c with c | c | c <;> subst c
        · exact ⟨b0, .fx, at0, r15 _ _ (r3 _ _ (r2 _ _ (r1 _ _ g0)))⟩
        · exact ⟨b1, .mi, at1, r15 _ _ (r3 _ _ (r2 _ _ g1))⟩
        · exact ⟨b2, .ro, at2, r15 _ _ (r3 _ _ g2)⟩
      walk_at "go"
      have r4 := r14.trans r15
      refine ⟨r4 _ _ hD, same_k0 (s10.trans r4), fun H16 k16 h16 => ⟨ps ++ [pk], rk ++ [k], by rw [ea]; simp, by simp [pl], by simp [rl], fun i p k' h1 h2 => ?_⟩⟩
      have nl := k16.nolL (r4 _ _ hD)
      rcases app_at h1 with q1 | ⟨q1, q2⟩
      · rw [List.getElem?_append_left (by have := (List.getElem?_eq_some_iff.mp q1).1; omega)] at h2
        exact ((hps i p k' q1 h2).same r4).nol nl
      · subst q2
        rw [q1, pl, ← rl, List.getElem?_append_right (Nat.le_refl _), Nat.sub_self] at h2
        cases h2
        exact hpk.nol nl
    · have s10 := keep0 k10
      have hrims : RimsA H10 D sz rk := ⟨by rw [rl, List.length_map], ps, by rw [← ea]; exact hD, by rw [pl, List.length_map], hps⟩
      have t10 := t9.trans s10
      have hsp10 := s10 _ _ hsp
      have ht10 := t10 _ _ ht
      walk_at "go"
      refine ⟨len0, fun m H11 m0 r0 g0 => ?_⟩
      walk_at "go"
      refine ⟨len6, fun l6 H12 m1 r1 g1 => ?_⟩
      walk_at "go"
      refine ⟨t, 6, rfl, r1 _ _ (r0 _ _ ht10), by decide, by decide, fun H13 i' i0' i1' r2 => ?_⟩
      obtain ⟨n, hn3, hat'⟩ : ∃ n : Nat, n ≤ 3 ∧ atI [V.int 2, V.int 1, V.int 3, V.int 2, V.int 3, V.int 0] i' = some (V.int n) := by
        have c : i' = 0 ∨ i' = 1 ∨ i' = 2 ∨ i' = 3 ∨ i' = 4 ∨ i' = 5 := by omega
        rcases c with c | c | c | c | c | c <;> subst c
        · exact ⟨2, by decide, atI_nat (j := 0) rfl⟩
        · exact ⟨1, by decide, atI_nat (j := 1) rfl⟩
        · exact ⟨3, by decide, atI_nat (j := 2) rfl⟩
        · exact ⟨2, by decide, atI_nat (j := 3) rfl⟩
        · exact ⟨3, by decide, atI_nat (j := 4) rfl⟩
        · exact ⟨0, by decide, atI_nat (j := 5) rfl⟩
      walk_at "go"
      have r3 := r0.trans (r1.trans r2)
      have nm : H m = none := t10.free m0
      refine forR (n := n) (by omega) (by omega) (fun i σ H' => Same H10 H' ∧ ∃ (ks : SpL) (a1 b1 c1 : Option V), σ = [some (.ref t), some (.ref sp), some (.ref D), some (.ref m), a1, b1, c1, none] ∧ LSp H' m ks ∧ (∀ z ∈ ks.zs, TkOk sz z) ∧ ks.length ≤ i ∧ ks.zs.Nodup) ⟨r3, [], _, _, _, rfl, ⟨r2 _ _ (r1 _ _ g0), fun p hp => by simp at hp⟩, fun y hy => by simp [SpL.zs] at hy, Nat.le_refl _, List.nodup_nil⟩ (fun i σ H' hi ⟨e, ks, a1, b1, c1, es, hm, htk, hlk, hnd⟩ => ?_) (fun σ H' ⟨e, ks, a1, b1, c1, es, hm, htk, hlk, hnd⟩ => ?_)
      · subst es
        have hm1 := hm.1
        have hte := e _ _ ht10
        walk_at "go"
        refine ⟨len4, fun l7 H14 m4 r4 g4 => ?_⟩
        walk_at "go"
        refine ⟨t, 4, rfl, r4 _ _ hte, by decide, by decide, fun H15 b b0 b1 r5 => ?_⟩
        obtain ⟨bk, hb1, hb3, hat''⟩ : ∃ bk : Int, 1 ≤ bk ∧ bk ≤ 3 ∧ atI [V.int 1, V.int 1, V.int 2, V.int 3] b = some (V.int bk) := by
          have c : b = 0 ∨ b = 1 ∨ b = 2 ∨ b = 3 := by omega
          rcases c with c | c | c | c <;> subst c
          · exact ⟨1, by decide, by decide, at0⟩
          · exact ⟨1, by decide, by decide, at1⟩
          · exact ⟨2, by decide, by decide, at2⟩
          · exact ⟨3, by decide, by decide, at3⟩
        walk_at "go"
        have e15 := e.trans (r4.trans r5)
        have hsp15 := e15 _ _ hsp10
        have ht15 := e15 _ _ ht10
        refine lcL (a := sp) (xs := sz.map V.int) [] (fun D' j acc H' => ∃ ss : List Int, acc = ss.map V.int ∧ ss.length = j ∧ ∀ s ∈ ss, -2 ≤ s ∧ s ≤ 2) (by simp; omega) hsp15 (by simp) (fun D' H' nD sD hD => ⟨[], rfl, rfl, fun s h => by simp at h⟩) (fun D' j x acc H16 nD' hx hlj k16 hD' ⟨ss, ea', sl, hss⟩ => ?_) (fun D' acc H16 nD' hl16 k16 hD' ⟨ss, ea', sl, hss⟩ => ?_)
        · have s16 := keep0 k16
          obtain ⟨s', hs', rfl⟩ := map_at hx
          walk_at "go"
          refine ⟨t, 5, rfl, s16 _ _ ht15, by decide, by decide, fun H17 v v0 v1 r17 => ?_⟩
          walk_at "go"
          refine ⟨r17 _ _ hD', same_k0 (s16.trans r17), fun H18 k18 h18 => ⟨ss ++ [v - 2], by rw [ea']; simp, by simp [sl], fun s hs => ?_⟩⟩
          rcases List.mem_append.mp hs with hs | hs
          · exact hss s hs
          · rw [List.mem_singleton.mp hs]
            omega
        · have s16 := keep0 k16
          have e16 := e15.trans s16
          have hm16 : LSp H16 m ks := ((hm.same r4).same r5).same s16
          rw [List.length_map] at sl
          walk_at "go"
          refine v_tupL hD' fun tp H17 n17 s17 h17 => ?_
          walk_at "go"
          rw [ea'] at h17
          refine ⟨len2, fun t6 H18 n18 s18 h18 => ?_⟩
          have hsp18 : SpA H18 t6 (bk, ss) := ⟨tp, h18, s18 _ _ h17⟩
          have hm18 : LSp H18 m ks := (hm16.same s17).same s18
          have hm181 := hm18.1
          have e18 := e16.trans (s17.trans s18)
          have h17' := s18 _ _ h17
          walk_at "go"
          refine v_ninS hsp18 hm18 ?_
          walk_at "go"
          refine iteND (fun hb2 => ?_) (fun hb2 => ?_)
          · walk_at "go"
            refine ⟨len2, fun t7 H19 n19 s19 h19 => ?_⟩
            have hm19 := s19 _ _ hm181
            walk_at "go"
            refine v_app hm19 (bigL' (by simp only [SpL.vs, List.length_map]; omega)) fun H20 k20 h20 => ?_
            walk_at "go"
            have nl := k20.nolL hm19
            refine ⟨same_of_new (e18.trans s19) m0 k20, ks ++ [(t7, (bk, ss))], _, _, _, rfl, ⟨by rw [h20, spL_app]; rfl, fun q hq => ?_⟩, fun y hy => ?_, ?_, ?_⟩
            · exact LSp.app (l := m) (H := H19) (H' := H20) (fun q hq => (hm18.2 q hq).same s19) nl ⟨tp, nl _ _ h19 rfl, nl _ _ (s19 _ _ h17') rfl⟩ q hq
            · rw [spL_zapp] at hy
              rcases List.mem_append.mp hy with hy | hy
              · exact htk y hy
              · have hy : y = (bk, ss) := by simpa [SpL.zs] using hy
                subst hy
                exact ⟨hb1, hb3, by show ss.length = sz.length; omega, hss⟩
            · rw [List.length_append]
              show ks.length + 1 ≤ i + 1
              omega
            · rw [spL_zapp, List.nodup_append]
              refine ⟨hnd, by simp [SpL.zs], fun a ha b hb e => hb2 ?_⟩
              have hb : b = (bk, ss) := by simpa [SpL.zs] using hb
              rw [← hb, ← e]
              exact ha
          · walk_at "go"
            exact ⟨e18, ks, _, _, _, rfl, hm18, htk, by omega, hnd⟩
      · subst es
        walk_at "go"
        refine ⟨t, 6, rfl, e _ _ ht10, by decide, by decide, fun H14 d d0 d1 r4 => ?_⟩
        walk_at "go"
        refine ⟨len4, fun p H15 np r5 g5 => ?_⟩
        have e15 := e.trans (r4.trans r5)
        have hd : d = ((d.toNat : Nat) : Int) := by omega
        refine q H15 p sz ks.zs d.toNat (t10.trans e15) ⟨ok, by omega, htk, by simp only [SpL.zs, List.length_map]; omega, hnd, sp, D, m, rk, ks, by rw [← hd]; exact g5, e15 _ _ hsp10, hrims.same e15, (hm.same r4).same r5, rfl⟩
end
end
section
set_option maxHeartbeats 4000000
/-! ### terms -/
inductive Tm where
  | num (v : Int)
  | take (b : Int) (ss : List Int)
  | add (x y : Tm)
  | mul (x y : Tm)
namespace Tm
def cls : Tm → Addr
  | .num _ => 326
  | .take _ _ => 371
  | .add _ _ => 430
  | .mul _ _ => 456
def kids : Tm → List Tm
  | .add x y => [x, y]
  | .mul x y => [x, y]
  | _ => []
def ht : Tm → Nat
  | .add x y => max x.ht y.ht + 1
  | .mul x y => max x.ht y.ht + 1
  | _ => 1
def tks : Tm → List Sp2
  | .num _ => []
  | .take b ss => [(b, ss)]
  | .add x y => x.tks ++ y.tks
  | .mul x y => x.tks ++ y.tks
def parts : Tm → Int
  | .add x y => 1 + (x.parts + y.parts)
  | .mul x y => 1 + (x.parts + y.parts)
  | _ => 1
def Ok (sz : List Int) : Tm → Prop
  | .num v => 0 ≤ v ∧ v ≤ 1000
  | .take b ss => TkOk sz (b, ss)
  | .add x y => x.Ok sz ∧ y.Ok sz
  | .mul x y => x.Ok sz ∧ y.Ok sz ∧ x.ht = 1
theorem kid_ht {t k : Tm} (h : k ∈ t.kids) : k.ht < t.ht := by
  cases t with
  | num v => simp [kids] at h
  | take b ss => simp [kids] at h
  | add x y =>
    simp only [kids, List.mem_cons, List.mem_nil_iff, or_false] at h
    simp only [ht]
    rcases h with h | h <;> subst h <;> omega
  | mul x y =>
    simp only [kids, List.mem_cons, List.mem_nil_iff, or_false] at h
    simp only [ht]
    rcases h with h | h <;> subst h <;> omega
theorem kid_ok {sz : List Int} {t k : Tm} (h : k ∈ t.kids) (o : t.Ok sz) : k.Ok sz := by
  cases t with
  | num v => simp [kids] at h
  | take b ss => simp [kids] at h
  | add x y =>
    simp only [kids, List.mem_cons, List.mem_nil_iff, or_false] at h
    rcases h with h | h <;> subst h
    · exact o.1
    · exact o.2
  | mul x y =>
    simp only [kids, List.mem_cons, List.mem_nil_iff, or_false] at h
    rcases h with h | h <;> subst h
    · exact o.1
    · exact o.2.1
theorem tks_ok {sz : List Int} : ∀ {t : Tm}, t.Ok sz → ∀ z ∈ t.tks, TkOk sz z
  | .num v, _, z, h => by simp [tks] at h
  | .take b ss, o, z, h => by
    rw [List.mem_singleton.mp h]
    exact o
  | .add x y, o, z, h => (List.mem_append.mp h).elim (tks_ok o.1 z) (tks_ok o.2 z)
  | .mul x y, o, z, h => (List.mem_append.mp h).elim (tks_ok o.1 z) (tks_ok o.2.1 z)
theorem ht_pos : ∀ t : Tm, 1 ≤ t.ht
  | .num _ => Nat.le_refl _
  | .take _ _ => Nat.le_refl _
  | .add _ _ => Nat.le_add_left _ _
  | .mul _ _ => Nat.le_add_left _ _
end Tm
def TmA (H : Hp) : Addr → Tm → Prop
  | a, .num v => ∃ dx, H a = some (o_Number dx (.int v))
  | a, .take b ss => ∃ dx p, H a = some (o_Take dx (.int b) (.ref p)) ∧ H p = some (.tup (ss.map V.int))
  | a, .add x y => ∃ dx p q, H a = some (o_Added dx (.ref p) (.ref q)) ∧ TmA H p x ∧ TmA H q y
  | a, .mul x y => ∃ dx p q, H a = some (o_Multiplied dx (.ref p) (.ref q)) ∧ TmA H p x ∧ TmA H q y
theorem TmA.nol {H H' : Hp} (n : Nol H H') : ∀ {t : Tm} {a : Addr}, TmA H a t → TmA H' a t
  | .num v, a, ⟨dx, h⟩ => ⟨dx, n _ _ h rfl⟩
  | .take b ss, a, ⟨dx, p, h, h'⟩ => ⟨dx, p, n _ _ h rfl, n _ _ h' rfl⟩
  | .add x y, a, ⟨dx, p, q, h, h1, h2⟩ => ⟨dx, p, q, n _ _ h rfl, TmA.nol n h1, TmA.nol n h2⟩
  | .mul x y, a, ⟨dx, p, q, h, h1, h2⟩ => ⟨dx, p, q, n _ _ h rfl, TmA.nol n h1, TmA.nol n h2⟩
theorem TmA.same {H H' : Hp} (s : Same H H') {t : Tm} {a : Addr} (h : TmA H a t) : TmA H' a t := TmA.nol (same_nol s) h
def TmC (C : Addr) : Prop := C = 326 ∨ C = 371 ∨ C = 430 ∨ C = 456
theorem tmC (t : Tm) : TmC t.cls := by
  cases t
  · exact .inl rfl
  · exact .inr (.inl rfl)
  · exact .inr (.inr (.inl rfl))
  · exact .inr (.inr (.inr rfl))
/-- at l the list of the terms below -/
def KidsA (H : Hp) (l : Addr) (ps : List Addr) (ts : List Tm) : Prop := H l = some (.lst (ps.map V.ref)) ∧ ps.length = ts.length ∧ ∀ (i : Nat) (p : Addr) (t : Tm), ps[i]? = some p → ts[i]? = some t → TmA H p t
/-- the methods that a term of any class has -/
structure HasM (m : Str) : Prop where
  nu : ∀ {H : Hp} {g dx : Addr} {v : V} {R : Prop}, H g = some (o_Number dx v) → R → RecV 326 m (.ref g) H R
  ta : ∀ {H : Hp} {g dx : Addr} {v u : V} {R : Prop}, H g = some (o_Take dx v u) → R → RecV 371 m (.ref g) H R
  ad : ∀ {H : Hp} {g dx : Addr} {v u : V} {R : Prop}, H g = some (o_Added dx v u) → R → RecV 430 m (.ref g) H R
  mu : ∀ {H : Hp} {g dx : Addr} {v u : V} {R : Prop}, H g = some (o_Multiplied dx v u) → R → RecV 456 m (.ref g) H R
theorem has_below : HasM "below" := ⟨rc_Number_below, rc_Take_below, rc_Added_below, rc_Multiplied_below⟩
theorem has_own_take : HasM "own_take" := ⟨rc_Number_own_take, rc_Take_own_take, rc_Added_own_take, rc_Multiplied_own_take⟩
theorem has_own_wrong : HasM "own_wrong" := ⟨rc_Number_own_wrong, rc_Take_own_wrong, rc_Added_own_wrong, rc_Multiplied_own_wrong⟩
theorem has_first_wrong : HasM "first_wrong" := ⟨rc_Number_first_wrong, rc_Take_first_wrong, rc_Added_first_wrong, rc_Multiplied_first_wrong⟩
theorem has_takes : HasM "takes" := ⟨rc_Number_takes, rc_Take_takes, rc_Added_takes, rc_Multiplied_takes⟩
theorem has_depth : HasM "depth" := ⟨rc_Number_depth, rc_Take_depth, rc_Added_depth, rc_Multiplied_depth⟩
theorem has_parts : HasM "parts" := ⟨rc_Number_parts, rc_Take_parts, rc_Added_parts, rc_Multiplied_parts⟩
theorem has_value_by : HasM "value_by" := ⟨rc_Number_value_by, rc_Take_value_by, rc_Added_value_by, rc_Multiplied_value_by⟩
theorem recT {m : Str} (hm : HasM m) {H : Hp} {a : Addr} {t : Tm} {R : Prop} (h : TmA H a t) (r : R) : RecV t.cls m (.ref a) H R := by
  cases t with
  | num v => obtain ⟨dx, h⟩ := h; exact hm.nu h r
  | take b ss => obtain ⟨dx, p, h, _⟩ := h; exact hm.ta h r
  | add x y => obtain ⟨dx, p, q, h, _⟩ := h; exact hm.ad h r
  | mul x y => obtain ⟨dx, p, q, h, _⟩ := h; exact hm.mu h r
/-- the leaf of t.m() -/
theorem tm0 {m : Str} (hm : HasM m) {sp : Addr → Sp} {σ : L2.St} {H : Hp} {Q : VK} {ta : TE} {a : Addr} {t : Tm} (h : TmA H a t) (hta : ∀ R : VK, R (.ref a) H → ta σ H R) (q : sp t.cls [.ref a] H Q C8.E0) : ∃ C, TmC C ∧ tMeth C m (sp C) [] C8.E0 ta tNil σ H Q :=
  ⟨t.cls, tmC t, c_meth (hta _ (recT hm h q))⟩
/-- .. of t.m(v), the argument's reading told -/
theorem tm1 {m : Str} (hm : HasM m) {sp : Addr → Sp} {σ : L2.St} {H : Hp} {Q : VK} {ta : TE} {u : TA} {a : Addr} {t : Tm} {v : V} (h : TmA H a t) (hta : ∀ R : VK, R (.ref a) H → ta σ H R) (hu : ∀ R : List V → Hp → Prop, R [v] H → u σ H R) (q : sp t.cls [.ref a, v] H Q C8.E0) : ∃ C, TmC C ∧ tMeth C m (sp C) [] C8.E0 ta u σ H Q :=
  ⟨t.cls, tmC t, c_meth (hta _ (recT hm h (hu _ q)))⟩
section
variable {P : Program} {w : World} {K : PySem.W.Frag} {mg : Str → Option Value} {base : Heap}
/-! below -/
def spBel (C : Addr) : Sp := fun vs H Q _ => ∃ (a : Addr) (t : Tm), vs = [.ref a] ∧ TmA H a t ∧ t.cls = C ∧ ∀ H' l ps, Same H H' → H l = none → KidsA H' l ps t.kids → Q (.ref l) H'
theorem sc14 : FnScope ["self"] ["self"] (C8.fnScope st14) := C8.fnScope_by (by decide +kernel)
theorem sc29 : FnScope ["self"] ["self"] (C8.fnScope st29) := C8.fnScope_by (by decide +kernel)
theorem bel0 (T : Txt K mg) {C : Addr} (c : Cls K C) (m : Meth K C "below" d14.at_) (hC : C = 326 ∨ C = 371) : C8.Met P w K mg base 1 C "below" (spBel C) [] := by
  refine met_by (k := 0) (T.df 14 _ rfl) c m sc14 (fun _ _ _ _ us hl => match us, hl with | [_], _ => rfl) (fun vs H Q E h => ?_) (fun A outer s H vs Q E hr o h => ?_)
  · obtain ⟨a, t, rfl, _⟩ := h
    rfl
  · obtain ⟨a, t, rfl, ht, hc, q⟩ := h
    refine ⟨_, (pss_one (ps_ret (pe_lst (pa_mn pa_nil)))), ?_⟩
    walk_at "go"
    refine ⟨len0, fun l H1 n1 s1 h1 => ?_⟩
    refine q H1 l [] s1 n1 ?_
    have e : t.kids = [] := by
      cases t <;> first | rfl | (exfalso; subst hc; rcases hC with h | h <;> simp [Tm.cls] at h)
    rw [e]
    exact ⟨h1, rfl, fun i p t h => by simp at h⟩
theorem bel2 (T : Txt K mg) {C : Addr} (c : Cls K C) (m : Meth K C "below" d29.at_) (hC : C = 430 ∨ C = 456) : C8.Met P w K mg base 1 C "below" (spBel C) [] := by
  refine met_by (k := 0) (T.df 29 _ rfl) c m sc29 (fun _ _ _ _ us hl => match us, hl with | [_], _ => rfl) (fun vs H Q E h => ?_) (fun A outer s H vs Q E hr o h => ?_)
  · obtain ⟨a, t, rfl, _⟩ := h
    rfl
  · obtain ⟨a, t, rfl, ht, hc, q⟩ := h
    refine ⟨_, (pss_one (ps_ret (pe_lst (pa_mn (pa_cons (pe_fldZ o (pv 0) rfl) (pa_cons (pe_fldZ o (pv 0) rfl) pa_nil)))))), ?_⟩
    have two : ∀ (x y : Tm) (p r : Addr) (l : Addr) (H1 : Hp), TmA H p x → TmA H r y → Same H H1 → H1 l = some (.lst [.ref p, .ref r]) → KidsA H1 l [p, r] [x, y] := fun x y p r l H1 h1 h2 s h => ⟨h, rfl, fun i p' t' e1 e2 => by
      match i with
      | 0 => cases e1; cases e2; exact TmA.same s h1
      | 1 => cases e1; cases e2; exact TmA.same s h2
      | i + 2 => simp at e1⟩
    cases t with
    | num v => subst hc; rcases hC with h | h <;> simp [Tm.cls] at h
    | take b ss => subst hc; rcases hC with h | h <;> simp [Tm.cls] at h
    | add x y =>
      obtain ⟨dx, p, r, h, h1, h2⟩ := ht
      walk_at "go"
      exact ⟨len2, fun l H1 n1 s1 g1 => q H1 l [p, r] s1 n1 (two x y p r l H1 h1 h2 s1 g1)⟩
    | mul x y =>
      obtain ⟨dx, p, r, h, h1, h2⟩ := ht
      walk_at "go"
      exact ⟨len2, fun l H1 n1 s1 g1 => q H1 l [p, r] s1 n1 (two x y p r l H1 h1 h2 s1 g1)⟩
theorem ok_below (T : Txt K mg) {C : Addr} (hC : TmC C) : C8.Met P w K mg base 1 C "below" (spBel C) [] := by
  rcases hC with h | h | h | h <;> subst h
  · exact bel0 T (c_Number T) (m_Number_below T) (.inl rfl)
  · exact bel0 T (c_Take T) (m_Take_below T) (.inr rfl)
  · exact bel2 T (c_Added T) (m_Added_below T) (.inl rfl)
  · exact bel2 T (c_Multiplied T) (m_Multiplied_below T) (.inr rfl)
/-! own_take -/
def spOT (C : Addr) : Sp := fun vs H Q _ => ∃ (a : Addr) (t : Tm), vs = [.ref a] ∧ TmA H a t ∧ t.cls = C ∧ ∀ H' l (ks : SpL), Same H H' → H l = none → LSp H' l ks → (ks.zs = if C = 371 then t.tks else []) → Q (.ref l) H'
theorem sc15 : FnScope ["self"] ["self"] (C8.fnScope st15) := C8.fnScope_by (by decide +kernel)
theorem sc26 : FnScope ["self"] ["self"] (C8.fnScope st26) := C8.fnScope_by (by decide +kernel)
theorem ot0 (T : Txt K mg) {C : Addr} (c : Cls K C) (m : Meth K C "own_take" d15.at_) (hC : C ≠ 371) : C8.Met P w K mg base 1 C "own_take" (spOT C) [] := by
  refine met_by (k := 0) (T.df 15 _ rfl) c m sc15 (fun _ _ _ _ us hl => match us, hl with | [_], _ => rfl) (fun vs H Q E h => ?_) (fun A outer s H vs Q E hr o h => ?_)
  · obtain ⟨a, t, rfl, _⟩ := h
    rfl
  · obtain ⟨a, t, rfl, ht, hc, q⟩ := h
    refine ⟨_, (pss_one (ps_ret (pe_lst (pa_mn pa_nil)))), ?_⟩
    walk_at "go"
    exact ⟨len0, fun l H1 n1 s1 h1 => q H1 l [] s1 n1 ⟨h1, fun p hp => by simp at hp⟩ (by rw [if_neg hC]; rfl)⟩
theorem ot1 (T : Txt K mg) : C8.Met P w K mg base 1 371 "own_take" (spOT 371) [] := by
  refine met_by (k := 0) (T.df 26 _ rfl) (c_Take T) (m_Take_own_take T) sc26 (fun _ _ _ _ us hl => match us, hl with | [_], _ => rfl) (fun vs H Q E h => ?_) (fun A outer s H vs Q E hr o h => ?_)
  · obtain ⟨a, t, rfl, _⟩ := h
    rfl
  · obtain ⟨a, t, rfl, ht, hc, q⟩ := h
    refine ⟨_, (pss_one (ps_ret (pe_lst (pa_mn (pa_cons (pe_tup (pa_mn (pa_cons (pe_fldZ o (pv 0) rfl) (pa_cons (pe_fldZ o (pv 0) rfl) pa_nil)))) pa_nil))))), ?_⟩
    cases t with
    | num v => simp [Tm.cls] at hc
    | add x y => simp [Tm.cls] at hc
    | mul x y => simp [Tm.cls] at hc
    | take b ss =>
      obtain ⟨dx, p, h, hp⟩ := ht
      walk_at "go"
      refine ⟨len2, fun t1 H1 n1 s1 h1 => ?_⟩
      walk_at "go"
      refine ⟨len1, fun l H2 n2 s2 h2 => ?_⟩
      exact q H2 l [(t1, (b, ss))] (s1.trans s2) (s1.free n2) ⟨h2, fun q hq => by rw [List.mem_singleton.mp hq]; exact ⟨p, s2 _ _ h1, s2 _ _ (s1 _ _ hp)⟩⟩ rfl
theorem ok_own_take (T : Txt K mg) {C : Addr} (hC : TmC C) : C8.Met P w K mg base 1 C "own_take" (spOT C) [] := by
  rcases hC with h | h | h | h <;> subst h
  · exact ot0 T (c_Number T) (m_Number_own_take T) (by decide)
  · exact ot1 T
  · exact ot0 T (c_Added T) (m_Added_own_take T) (by decide)
  · exact ot0 T (c_Multiplied T) (m_Multiplied_own_take T) (by decide)
/-! own_wrong: none is -/
def spOW (C : Addr) : Sp := fun vs H Q _ => ∃ (a : Addr) (t : Tm) (sz : List Int), vs = [.ref a] ∧ TmA H a t ∧ t.cls = C ∧ SzOk sz ∧ t.Ok sz ∧ ∀ H', Same H H' → Q .non H'
theorem sc16 : FnScope ["self"] ["self"] (C8.fnScope st16) := C8.fnScope_by (by decide +kernel)
theorem sc23 : FnScope ["self"] ["self"] (C8.fnScope st23) := C8.fnScope_by (by decide +kernel)
theorem sc27 : FnScope ["self", "step"] ["self"] (C8.fnScope st27) := C8.fnScope_by (by decide +kernel)
theorem ow0 (T : Txt K mg) {C : Addr} (c : Cls K C) (m : Meth K C "own_wrong" d16.at_) : C8.Met P w K mg base 3 C "own_wrong" (spOW C) [] := by
  refine met_by (k := 2) (T.df 16 _ rfl) c m sc16 (fun _ _ _ _ us hl => match us, hl with | [_], _ => rfl) (fun vs H Q E h => ?_) (fun A outer s H vs Q E hr o h => ?_)
  · obtain ⟨a, t, sz, rfl, _⟩ := h
    rfl
  · obtain ⟨a, t, sz, rfl, ht, hc, hs, hk, q⟩ := h
    refine ⟨_, (pss_one (ps_ret pe_non)), ?_⟩
    walk_at "go"
    exact q _ (Same.refl H)
theorem ow1 (T : Txt K mg) : C8.Met P w K mg base 3 326 "own_wrong" (spOW 326) [] := by
  refine met_by (k := 2) (T.df 23 _ rfl) (c_Number T) (m_Number_own_wrong T) sc23 (fun _ _ _ _ us hl => match us, hl with | [_], _ => rfl) (fun vs H Q E h => ?_) (fun A outer s H vs Q E hr o h => ?_)
  · obtain ⟨a, t, sz, rfl, _⟩ := h
    rfl
  · obtain ⟨a, t, sz, rfl, ht, hc, hs, hk, q⟩ := h
    refine ⟨_, (pss_cons (ps_if (pt_val (C8.pe_c (ok_is_between (P := P) (w := w) T) hr (by decide) (by rfl) (pa_cons (pe_fldZ o (pv 0) rfl) (pa_cons (pe_un (un_self o) (C8.pe_gc (by rfl) (i_MOST_NUMBER T))) (pa_cons (C8.pe_gc (by rfl) (i_MOST_NUMBER T)) pa_nil))))) (pss_one (ps_ret pe_non)) pss_nil)
      (pss_one (ps_ret pe_str))), ?_⟩
    cases t with
    | take b ss => simp [Tm.cls] at hc
    | add x y => simp [Tm.cls] at hc
    | mul x y => simp [Tm.cls] at hc
    | num v =>
      obtain ⟨dx, h⟩ := ht
      have hv : 0 ≤ v ∧ v ≤ 1000 := hk
      walk_at "go"
      refine ⟨v, _, _, rfl, by omega, by omega, ?_⟩
      walk_at "go"
      exact q _ (Same.refl H)
theorem ow2 (T : Txt K mg) : C8.Met P w K mg base 3 371 "own_wrong" (spOW 371) [] := by
  refine met_by (k := 2) (T.df 27 _ rfl) (c_Take T) (m_Take_own_wrong T) sc27 (fun _ _ _ _ us hl => match us, hl with | [_], _ => rfl) (fun vs H Q E h => ?_) (fun A outer s H vs Q E hr o h => ?_)
  · obtain ⟨a, t, sz, rfl, _⟩ := h
    rfl
  · obtain ⟨a, t, sz, rfl, ht, hc, hs, hk, q⟩ := h
    refine ⟨_, (pss_cons (ps_if (pt_not (pt_val (C8.pe_c (ok_is_between (P := P) (w := w) T) hr (by decide) (by rfl) (pa_cons (pe_fldZ o (pv 0) rfl) (pa_cons pe_int (pa_cons (C8.pe_gc (by rfl) (i_MOST_BACK T)) pa_nil)))))) (pss_one (ps_ret pe_str)) pss_nil)
      (pss_cons (ps_if (PW.pt (pw_or (pt_not (pt_chain (op_self o) (op_self o) pe_int (pe_callB (cr_self o) (by rfl) (z_len T) b_len (pa_cons (pe_fldZ o (pv 0) rfl) pa_nil)) pe_int)) (pw_or1 (pt_not (pt_val (pe_callB (cr_self o) (by rfl) (z_all T) b_all (pa_cons (pe_lc (own := [("step", 1)]) rfl (sc27).nd (pi_tupZ o (pe_fldZ o (pv 0) rfl)) (blkOk_by (own := [("step", 1)]) (by kernel_rfl)) (fun _ _ _ _ _ => pg_mn (pg_name (i := 1) (sc27).nd (by rfl) (by first | exact Or.inl rfl | exact Or.inr rfl))) (fun _ _ _ _ _ => pts_mn pts_nil) (fun _ _ _ _ _ => pe_mn (C8.pe_c (ok_is_between (P := P) (w := w) T) hr (by decide) (by rfl) (pa_cons (pv 1) (pa_cons (pe_un (un_self o.blk) (C8.pe_gc (by rfl) (i_MOST_STEP T))) (pa_cons (C8.pe_gc (by rfl) (i_MOST_STEP T)) pa_nil)))))) pa_nil))))))) (pss_one (ps_ret pe_str)) pss_nil)
      (pss_one (ps_ret pe_non)))), ?_⟩
    cases t with
    | num v => simp [Tm.cls] at hc
    | add x y => simp [Tm.cls] at hc
    | mul x y => simp [Tm.cls] at hc
    | take b ss =>
      obtain ⟨dx, p, h, hp⟩ := ht
      have hv : TkOk sz (b, ss) := hk
      obtain ⟨b1, b3, hl, hss⟩ := hv
      have b1 : 1 ≤ b := b1
      have b3 : b ≤ 3 := b3
      have hl : ss.length = sz.length := hl
      have hz := sz_len hs
      walk_at "go"
      refine ⟨b, 1, 3, rfl, by omega, by omega, ?_⟩
      walk_at "go"
      refine lcZ wt [] (fun D i acc H' => acc = (List.replicate i true).map V.bl) (bigL' (by simp; omega)) (fun H' k' => keep0 k' _ _ hp) (fun D H' nD sD hD => rfl) (fun D i v acc H5 H6 nD hi hl k5 hD ea y => ?_) (fun D acc H' nD hl k' hD ea => ?_)
      · obtain ⟨rfl, hv⟩ := y
        obtain ⟨s5, hs5, rfl⟩ := map_at hv
        have bb := hss s5 (List.mem_of_getElem? hs5)
        walk_at "go"
        refine ⟨s5, -9, 9, rfl, by omega, by omega, hD, k5, fun H8 k8 h8 => ?_⟩
        rw [ea, List.replicate_succ']
        simp
      · rw [ea] at hD
        refine v_all hD ?_
        have e : ((List.replicate (ss.map V.int).length true).all id) = true := by simp
        rw [e]
        walk_at "go"
        exact q _ (keep0 k')
theorem ok_own_wrong (T : Txt K mg) {C : Addr} (hC : TmC C) : C8.Met P w K mg base 3 C "own_wrong" (spOW C) [] := by
  rcases hC with h | h | h | h <;> subst h
  · exact ow1 T
  · exact ow2 T
  · exact ow0 T (c_Added T) (m_Added_own_wrong T)
  · exact ow0 T (c_Multiplied T) (m_Multiplied_own_wrong T)
end
end
section
set_option maxHeartbeats 4000000
section
variable {P : Program} {w : World} {K : PySem.W.Frag} {mg : Str → Option Value} {base : Heap}
/-! makings -/
def spNumI : Sp := fun vs H Q _ => ∃ (x dx : Addr) (v : V), vs = [.ref x, v] ∧ H x = some (.ins 326 dx []) ∧ ∀ H', Keep [x] H H' → H' x = some (o_Number dx v) → Q .non H'
theorem sc21 : FnScope ["self", "value"] ["self", "value"] (C8.fnScope st21) := C8.fnScope_by (by decide +kernel)
theorem ok_mk_Number (T : Txt K mg) : C8.Mak P w K mg base 1 "Number" 326 spNumI [] := by
  refine mak_by (k := 0) (T.df 21 _ rfl) (k_Number T) (g_Number T) sc21 (fun _ _ _ _ us hl => match us, hl with | [_, _], _ => rfl) (fun vs H Q E h => ?_) (fun A outer s H vs Q E hr o h => ?_)
  · obtain ⟨x, dx, v, rfl, _⟩ := h
    rfl
  · obtain ⟨x, dx, v, rfl, hx, k⟩ := h
    refine ⟨_, (pss_one (ps_fld (pv 0) (pv 1) rfl)), ?_⟩
    walk_at "go"
    refine st_Number_value T hx fun H2 k2 h2 => ?_
    walk_at "go"
    exact k H2 k2 h2
def spTakeI : Sp := fun vs H Q _ => ∃ (x dx : Addr) (v u : V), vs = [.ref x, v, u] ∧ H x = some (.ins 371 dx []) ∧ ∀ H', Keep [x] H H' → H' x = some (o_Take dx v u) → Q .non H'
theorem sc24 : FnScope ["self", "back", "steps"] ["self", "back", "steps"] (C8.fnScope st24) := C8.fnScope_by (by decide +kernel)
theorem ok_mk_Take (T : Txt K mg) : C8.Mak P w K mg base 1 "Take" 371 spTakeI [] := by
  refine mak_by (k := 0) (T.df 24 _ rfl) (k_Take T) (g_Take T) sc24 (fun _ _ _ _ us hl => match us, hl with | [_, _, _], _ => rfl) (fun vs H Q E h => ?_) (fun A outer s H vs Q E hr o h => ?_)
  · obtain ⟨x, dx, v, u, rfl, _⟩ := h
    rfl
  · obtain ⟨x, dx, v, u, rfl, hx, k⟩ := h
    refine ⟨_, (pss_cons (ps_fld (pv 0) (pv 1) rfl)
      (pss_one (ps_fld (pv 0) (pv 2) rfl))), ?_⟩
    walk_at "go"
    refine st_Take_back T hx fun H2 k2 h2 => ?_
    walk_at "go"
    refine st_Take_steps T h2 fun H3 k3 h3 => ?_
    walk_at "go"
    exact k H3 (k2.trans k3) h3
def spPairI (C : Addr) : Sp := fun vs H Q _ => ∃ (x dx : Addr) (v u : V), vs = [.ref x, v, u] ∧ H x = some (.ins C dx []) ∧ ∀ H', Keep [x] H H' → H' x = some (.ins C dx (fs2_Added v u)) → Q .non H'
theorem sc28 : FnScope ["self", "one", "other"] ["self", "one", "other"] (C8.fnScope st28) := C8.fnScope_by (by decide +kernel)
theorem ok_mk_Added (T : Txt K mg) : C8.Mak P w K mg base 1 "Added" 430 (spPairI 430) [] := by
  refine mak_by (k := 0) (T.df 28 _ rfl) (k_Added T) (g_Added T) sc28 (fun _ _ _ _ us hl => match us, hl with | [_, _, _], _ => rfl) (fun vs H Q E h => ?_) (fun A outer s H vs Q E hr o h => ?_)
  · obtain ⟨x, dx, v, u, rfl, _⟩ := h
    rfl
  · obtain ⟨x, dx, v, u, rfl, hx, k⟩ := h
    refine ⟨_, (pss_cons (ps_fld (pv 0) (pv 1) rfl)
      (pss_one (ps_fld (pv 0) (pv 2) rfl))), ?_⟩
    walk_at "go"
    refine st_Added_one T hx fun H2 k2 h2 => ?_
    walk_at "go"
    refine st_Added_other T h2 fun H3 k3 h3 => ?_
    walk_at "go"
    exact k H3 (k2.trans k3) h3
theorem ok_mk_Multiplied (T : Txt K mg) : C8.Mak P w K mg base 1 "Multiplied" 456 (spPairI 456) [] := by
  refine mak_by (k := 0) (T.df 28 _ rfl) (k_Multiplied T) (g_Multiplied T) sc28 (fun _ _ _ _ us hl => match us, hl with | [_, _, _], _ => rfl) (fun vs H Q E h => ?_) (fun A outer s H vs Q E hr o h => ?_)
  · obtain ⟨x, dx, v, u, rfl, _⟩ := h
    rfl
  · obtain ⟨x, dx, v, u, rfl, hx, k⟩ := h
    refine ⟨_, (pss_cons (ps_fld (pv 0) (pv 1) rfl)
      (pss_one (ps_fld (pv 0) (pv 2) rfl))), ?_⟩
    walk_at "go"
    refine st_Multiplied_one T hx fun H2 k2 h2 => ?_
    walk_at "go"
    refine st_Multiplied_other T h2 fun H3 k3 h3 => ?_
    walk_at "go"
    exact k H3 (k2.trans k3) h3
theorem cls_tm (T : Txt K mg) {C : Addr} (hC : TmC C) : Cls K C := by
  rcases hC with h | h | h | h <;> subst h
  · exact c_Number T
  · exact c_Take T
  · exact c_Added T
  · exact c_Multiplied T
/-! first_wrong -/
def spFW (n : Nat) (C : Addr) : Sp := fun vs H Q _ => ∃ (a : Addr) (t : Tm) (sz : List Int), vs = [.ref a] ∧ TmA H a t ∧ t.cls = C ∧ t.ht ≤ n ∧ SzOk sz ∧ t.Ok sz ∧ ∀ H', Same H H' → Q .non H'
theorem sc17 : FnScope ["self", "one", "word"] ["self"] (C8.fnScope st17) := C8.fnScope_by (by decide +kernel)
theorem m_first_wrong (T : Txt K mg) {C : Addr} (hC : TmC C) : Meth K C "first_wrong" d17.at_ := by
  rcases hC with h | h | h | h <;> subst h
  · exact m_Number_first_wrong T
  · exact m_Take_first_wrong T
  · exact m_Added_first_wrong T
  · exact m_Multiplied_first_wrong T
theorem ok_first_wrong (T : Txt K mg) (n : Nat) : ∀ {C : Addr} (hC : TmC C), C8.Met P w K mg base (n + 3) C "first_wrong" (spFW n C) [] := by
  induction n with
  | zero =>
    intro C hC
    refine met_by (k := 2) (T.df 17 _ rfl) (cls_tm T hC) (m_first_wrong T hC) sc17 (fun _ _ _ _ us hl => match us, hl with | [_], _ => rfl) (fun vs H Q E h => ?_) (fun A outer s H vs Q E hr o h => ?_)
    · obtain ⟨a, t, sz, rfl, _⟩ := h
      rfl
    · obtain ⟨a, t, sz, rfl, _, _, h, _⟩ := h
      have := t.ht_pos
      omega
  | succ n ih =>
    intro C hC
    refine met_by (k := n + 3) (T.df 17 _ rfl) (cls_tm T hC) (m_first_wrong T hC) sc17 (fun _ _ _ _ us hl => match us, hl with | [_], _ => rfl) (fun vs H Q E h => ?_) (fun A outer s H vs Q E hr o h => ?_)
    · obtain ⟨a, t, sz, rfl, _⟩ := h
      rfl
    · obtain ⟨a, t, sz, rfl, ht, hc, hn, hs, hk, q⟩ := h
      refine ⟨_, (pss_cons (ps_for PassesOwn.never rfl (pi_listZ o (pe_exi (S := TmC) (fun C hC => C8.pe_mt0 (ok_below T hC) hr (by omega) (pv 0)))) (pg_name (i := 1) (sc17).nd (by rfl) (by first | exact Or.inl rfl | exact Or.inr rfl)) (pss_cons (ps_set (i := 2) (sc17).nd rfl (by first | exact Or.inl rfl | exact Or.inr rfl) (pe_exi (S := TmC) (fun C hC => C8.pe_mt0 (ih hC) hr (by omega) (pv 1))))
      (pss_one (ps_if (pt_cmpR (op_self o) (pv 2) pe_non (nomark _)) (pss_one (ps_ret (pv 2))) pss_nil))))
      (pss_one (ps_ret (pe_exi (S := TmC) (fun C hC => C8.pe_mt0 (ok_own_wrong T hC) hr (by omega) (pv 0)))))), ?_⟩
      walk_at "go"
      refine tm0 has_below ht (fun R r => by walk_at "go"; exact r) ⟨a, t, rfl, ht, rfl, fun H1 l ps s1 nl ⟨hl, hpl, hps⟩ => ?_⟩
      walk_at "go"
      refine forL (a := l) (xs := ps.map V.ref) (fun i σ H' => Same H1 H' ∧ ∃ b c : Option V, σ = [some (.ref a), b, c]) ⟨Same.refl _, _, _, rfl⟩ (fun i σ H' hi ⟨e, _⟩ => e _ _ hl) (fun i x σ H2 hx ⟨e, b, c, es⟩ => ?_) (fun σ H2 ⟨e, b, c, es⟩ => ?_)
      · subst es
        obtain ⟨p, hp, rfl⟩ := map_at hx
        have hi := (List.getElem?_eq_some_iff.mp hp).1
        obtain ⟨kt, hkt⟩ : ∃ kt, t.kids[i]? = some kt := ⟨_, List.getElem?_eq_getElem (by omega)⟩
        have hkm := List.mem_of_getElem? hkt
        have hpt := TmA.same e (hps i p kt hp hkt)
        walk_at "go"
        refine tm0 has_first_wrong hpt (fun R r => by walk_at "go"; exact r) ⟨p, kt, sz, rfl, hpt, rfl, by have := Tm.kid_ht hkm; omega, hs, Tm.kid_ok hkm hk, fun H3 s3 => ?_⟩
        walk_at "go"
        exact ⟨e.trans s3, _, _, rfl⟩
      · subst es
        have ht2 := TmA.same (s1.trans e) ht
        walk_at "go"
        refine tm0 has_own_wrong ht2 (fun R r => by walk_at "go"; exact r) ⟨a, t, sz, rfl, ht2, rfl, hs, hk, fun H3 s3 => q H3 ((s1.trans e).trans s3)⟩
/-! takes -/
def spTks (n : Nat) (C : Addr) : Sp := fun vs H Q _ => ∃ (a : Addr) (t : Tm), vs = [.ref a] ∧ TmA H a t ∧ t.cls = C ∧ t.ht ≤ n ∧ t.tks.length ≤ 1000 ∧ ∀ H' l (ks : SpL), Same H H' → H l = none → LSp H' l ks → (∀ z, z ∈ ks.zs ↔ z ∈ t.tks) → ks.length ≤ t.tks.length → Q (.ref l) H'
theorem sc18 : FnScope ["self", "found", "one", "take"] ["self"] (C8.fnScope st18) := C8.fnScope_by (by decide +kernel)
theorem m_takes (T : Txt K mg) {C : Addr} (hC : TmC C) : Meth K C "takes" d18.at_ := by
  rcases hC with h | h | h | h <;> subst h
  · exact m_Number_takes T
  · exact m_Take_takes T
  · exact m_Added_takes T
  · exact m_Multiplied_takes T
theorem flat_take_len (l : List Tm) (i : Nat) (t : Tm) (h : l[i]? = some t) : ((l.take (i + 1)).flatMap Tm.tks).length = ((l.take i).flatMap Tm.tks).length + t.tks.length := by
  rw [List.take_add_one, h]
  simp
theorem kids_tks (t : Tm) : t.tks = (if t.cls = 371 then t.tks else []) ++ t.kids.flatMap Tm.tks := by
  cases t <;> simp [Tm.cls, Tm.kids, Tm.tks]
theorem ok_takes (T : Txt K mg) (n : Nat) : ∀ {C : Addr} (hC : TmC C), C8.Met P w K mg base (n + 1) C "takes" (spTks n C) [] := by
  induction n with
  | zero =>
    intro C hC
    refine met_by (k := 0) (T.df 18 _ rfl) (cls_tm T hC) (m_takes T hC) sc18 (fun _ _ _ _ us hl => match us, hl with | [_], _ => rfl) (fun vs H Q E h => ?_) (fun A outer s H vs Q E hr o h => ?_)
    · obtain ⟨a, t, rfl, _⟩ := h
      rfl
    · obtain ⟨a, t, rfl, _, _, h, _⟩ := h
      have := t.ht_pos
      omega
  | succ n ih =>
    intro C hC
    refine met_by (k := n + 1) (T.df 18 _ rfl) (cls_tm T hC) (m_takes T hC) sc18 (fun _ _ _ _ us hl => match us, hl with | [_], _ => rfl) (fun vs H Q E h => ?_) (fun A outer s H vs Q E hr o h => ?_)
    · obtain ⟨a, t, rfl, _⟩ := h
      rfl
    · obtain ⟨a, t, rfl, ht, hc, hn, hfew, q⟩ := h
      refine ⟨_, (pss_cons (ps_set (i := 1) (sc18).nd rfl (by first | exact Or.inl rfl | exact Or.inr rfl) (pe_exi (S := TmC) (fun C hC => C8.pe_mt0 (ok_own_take T hC) hr (by omega) (pv 0))))
      (pss_cons (ps_for PassesOwn.never rfl (pi_listZ o (pe_exi (S := TmC) (fun C hC => C8.pe_mt0 (ok_below T hC) hr (by omega) (pv 0)))) (pg_name (i := 2) (sc18).nd (by rfl) (by first | exact Or.inl rfl | exact Or.inr rfl)) (pss_one (ps_expr (pe_bmZ o PySem.F.plainAttrs_list PySem.F.slot_list_extend PySem.F.type_list_extend (mt_self o) (pe_mn (pv 1)) (pa_cons (pe_lc (own := [("take", 3)]) rfl (sc18).nd (pi_listZ o (pe_exi (S := TmC) (fun C hC => C8.pe_mt0 (ih hC) hr (by omega) (pv 2)))) (blkOk_by (own := [("take", 3)]) (by kernel_rfl)) (fun _ _ _ _ _ => pg_mn (pg_name (i := 3) (sc18).nd (by rfl) (by first | exact Or.inl rfl | exact Or.inr rfl))) (fun _ _ _ _ _ => pts_mn (pts_one (pt_cmpR (op_self o.blk) (pv 3) (pv 1) (by rfl)))) (fun _ _ _ _ _ => pe_mn (pv 3))) pa_nil)))))
      (pss_one (ps_ret (pe_callB (cr_self o) (by rfl) (z_sorted T) b_sorted (pa_cons (pv 1) pa_nil)))))), ?_⟩
      walk_at "go"
      refine tm0 has_own_take ht (fun R r => by walk_at "go"; exact r) ⟨a, t, rfl, ht, rfl, fun H0 f kf s0 nf hf zf => ?_⟩
      have ht0 := TmA.same s0 ht
      walk_at "go"
      refine tm0 has_below ht0 (fun R r => by walk_at "go"; exact r) ⟨a, t, rfl, ht0, rfl, fun H1 l ps s1 nl ⟨hl, hpl, hps⟩ => ?_⟩
      have tz := kids_tks t
      have tl : t.tks.length = kf.length + (t.kids.flatMap Tm.tks).length := by
        have : kf.length = kf.zs.length := by simp [SpL.zs]
        rw [this, zf]
        conv => lhs; rw [tz]
        rw [List.length_append]
      have lf : l ≠ f := fun z => by rw [z, hf.1] at nl; cases nl
      walk_at "go"
      refine forL (a := l) (xs := ps.map V.ref) (fun i σ H' => Same H H' ∧ Keep [f] H1 H' ∧ ∃ (ks : SpL) (b : Option V), σ = [some (.ref a), some (.ref f), b, none] ∧ LSp H' f ks ∧ (∀ z, z ∈ ks.zs ↔ z ∈ kf.zs ++ (t.kids.take i).flatMap Tm.tks) ∧ ks.length ≤ kf.length + ((t.kids.take i).flatMap Tm.tks).length) ⟨s0.trans s1, Keep.refl _, kf, _, rfl, hf.same s1, fun z => by simp, by simp⟩ (fun i σ H' hi ⟨_, e, _⟩ => e _ _ hl (nin1 lf)) (fun i x σ H2 hx ⟨eS, e, ks, b, es, hks, hz, hlk⟩ => ?_) (fun σ H2 ⟨eS, e, ks, b, es, hks, hz, hlk⟩ => ?_)
      · subst es
        obtain ⟨p, hp, rfl⟩ := map_at hx
        have hi := (List.getElem?_eq_some_iff.mp hp).1
        obtain ⟨kt, hkt⟩ : ∃ kt, t.kids[i]? = some kt := ⟨_, List.getElem?_eq_getElem (by omega)⟩
        have hkm := List.mem_of_getElem? hkt
        have hpt := TmA.nol (e.nolL (s1 _ _ hf.1)) (hps i p kt hp hkt)
        have hks1 := hks.1
        have fl := flat_take_len t.kids i kt hkt
        have hsub : ((t.kids.take (i + 1)).flatMap Tm.tks).length ≤ (t.kids.flatMap Tm.tks).length := by
          have := List.take_append_drop (i + 1) t.kids
          conv => rhs; rw [← this, List.flatMap_append, List.length_append]
          omega
        walk_at "go"
        refine tm0 has_takes hpt (fun R r => by walk_at "go"; exact r) ⟨p, kt, rfl, hpt, rfl, by have := Tm.kid_ht hkm; omega, by omega, fun H3 m km s3 nm hm zm lm => ?_⟩
        have hks3 := hks.same s3
        have hks31 := hks3.1
        have hm1 := hm.1
        walk_at "go"
        refine lcL (a := m) (xs := km.vs) [] (fun D j acc H' => ∃ k5 : SpL, acc = k5.vs ∧ (∀ p ∈ k5, SpA H' p.1 p.2) ∧ (∀ z, z ∈ k5.zs → z ∈ km.zs) ∧ (∀ z, z ∈ km.zs.take j → z ∈ k5.zs ∨ z ∈ ks.zs) ∧ k5.length ≤ j) (by simp only [SpL.vs, List.length_map]; omega) hm1 (by simp) (fun D H' nD sD hD => ⟨[], rfl, fun p hp => by simp at hp, fun z h => by simp [SpL.zs] at h, fun z h => by simp at h, Nat.le_refl _⟩) (fun D j x acc H5 nD hx hlj k5 hD ⟨ks5, ea, h51, h52, h53, h54⟩ => ?_) (fun D acc H5 nD hl5 k5 hD ⟨ks5, ea, h51, h52, h53, h54⟩ => ?_)
        · have s5 := keep0 k5
          obtain ⟨pp, hpp, rfl⟩ := map_at hx
          have hsp := (hm.2 pp (List.mem_of_getElem? hpp)).same s5
          have hks5 := hks3.same s5
          have hzj : km.zs[j]? = some pp.2 := by simp only [SpL.zs]; rw [List.getElem?_map, hpp]; rfl
          walk_at "go"
          refine v_ninS hsp hks5 ?_
          walk_at "go"
          by_cases hin : pp.2 ∈ ks.zs
          · rw [decide_eq_true hin]
            refine iteF ?_
            refine ⟨hD, k5, ks5, ea, h51, h52, fun z hz => ?_, by omega⟩
            rw [List.take_add_one, hzj] at hz
            rcases List.mem_append.mp hz with hz | hz
            · exact h53 z hz
            · have hz : z = pp.2 := by simpa using hz
              exact .inr (by rw [hz]; exact hin)
          · rw [decide_eq_false hin]
            refine iteT ?_
            walk_at "go"
            refine ⟨hD, k5, fun H6 k6 h6 => ⟨ks5 ++ [pp], by rw [ea, spL_app]; rfl, ?_, fun z hz => ?_, fun z hz => ?_, by rw [List.length_append]; show ks5.length + 1 ≤ j + 1; omega⟩⟩
            · exact LSp.app (l := m) h51 (k6.nolL hD) (hsp.nol (k6.nolL hD))
            · rw [spL_zapp] at hz
              rcases List.mem_append.mp hz with hz | hz
              · exact h52 z hz
              · have hz : z = pp.2 := by simpa [SpL.zs] using hz
                rw [hz]
                exact List.mem_of_getElem? hzj
            · rw [spL_zapp]
              rw [List.take_add_one, hzj] at hz
              rcases List.mem_append.mp hz with hz | hz
              · rcases h53 z hz with h | h
                · exact .inl (List.mem_append_left _ h)
                · exact .inr h
              · have hz : z = pp.2 := by simpa using hz
                exact .inl (List.mem_append_right _ (by rw [hz]; simp [SpL.zs]))
        · have s5 := keep0 k5
          have hf5 := s5 _ _ hks31
          have kl : (SpL.vs km).length = km.zs.length := by simp [SpL.vs, SpL.zs]
          rw [kl, List.take_of_length_le (Nat.le_refl _)] at h53
          have kl2 : (SpL.vs km).length = km.length := by simp [SpL.vs]
          walk_at "go"
          refine v_ext hf5 hD (bigL (by rw [ea]; simp only [SpL.vs, List.length_map]; omega)) fun H6 k6 h6 => ?_
          walk_at "go"
          have nl6 := k6.nolL hf5
          refine ⟨same_of_new ((eS.trans s3).trans s5) nf k6, fun b o h n => k6 _ _ (s5 _ _ (s3 _ _ (e b o h n))) n, ks ++ ks5, _, rfl, ⟨by rw [h6, ea, spL_app], fun p hp => ?_⟩, fun z => ?_, ?_⟩
          · rcases List.mem_append.mp hp with hp | hp
            · exact ((hks3.2 p hp).same s5).nol nl6
            · exact (h51 p hp).nol nl6
          · rw [spL_zapp, List.mem_append, List.take_add_one, hkt]
            simp only [Option.toList_some, List.flatMap_append, List.mem_append, List.flatMap_cons, List.flatMap_nil, List.append_nil]
            constructor
            · rintro (h | h)
              · rcases List.mem_append.mp ((hz z).mp h) with h | h
                · exact .inl h
                · exact .inr (.inl h)
              · exact .inr (.inr ((zm z).mp (h52 z h)))
            · rintro (h | h | h)
              · exact .inl ((hz z).mpr (List.mem_append_left _ h))
              · exact .inl ((hz z).mpr (List.mem_append_right _ h))
              · rcases h53 z ((zm z).mpr h) with h | h
                · exact .inr h
                · exact .inl h
          · rw [List.length_append]
            omega
      · subst es
        walk_at "go"
        have hkl : (ps.map V.ref).length = t.kids.length := by rw [List.length_map, hpl]
        rw [hkl, List.take_of_length_le (Nat.le_refl _)] at hz hlk
        refine v_sortS hks fun L l2 H3 pm nl2 s3 hl2 => ?_
        refine q H3 l2 L (eS.trans s3) (eS.free nl2) ⟨hl2, fun p hp => (hks.2 p (pm.mem_iff.mp hp)).same s3⟩ (fun z => ?_) ?_
        · have : z ∈ SpL.zs L ↔ z ∈ SpL.zs ks := by
            simp only [SpL.zs]
            exact (pm.map _).mem_iff
          rw [this, hz, zf]
          conv => rhs; rw [tz]
        · rw [pm.length_eq]
          omega
end
end
section
set_option maxHeartbeats 4000000
theorem foldl_max_le : ∀ (l : List Int) (a b : Int), a ≤ b → (∀ x ∈ l, x ≤ b) → l.foldl max a ≤ b
  | [], _, _, h, _ => h
  | x :: l, a, b, h, hx => foldl_max_le l (max a x) b (by have := hx x List.mem_cons_self; omega) fun y hy => hx y (List.mem_cons_of_mem _ hy)
theorem mxd_le {d b : Int} {l : List Int} (h : d ≤ b) (hl : ∀ x ∈ l, x ≤ b) : mxd d l ≤ b := by
  cases l with
  | nil => exact h
  | cons x l => exact foldl_max_le l x b (hl x List.mem_cons_self) fun y hy => hl y (List.mem_cons_of_mem _ hy)
theorem le_foldl_max : ∀ (l : List Int) (a : Int), a ≤ l.foldl max a ∧ ∀ x ∈ l, x ≤ l.foldl max a
  | [], a => ⟨Int.le_refl _, fun x h => by simp at h⟩
  | y :: l, a => by
    obtain ⟨h1, h2⟩ := le_foldl_max l (max a y)
    refine ⟨Int.le_trans (by omega) h1, fun x hx => ?_⟩
    rcases List.mem_cons.mp hx with h | h
    · exact Int.le_trans (by rw [h]; omega) h1
    · exact h2 x h
theorem le_mxd {d : Int} {l : List Int} {x : Int} (h : x ∈ l) : x ≤ mxd d l := by
  cases l with
  | nil => simp at h
  | cons y l =>
    rcases List.mem_cons.mp h with h | h
    · rw [h]; exact (le_foldl_max l y).1
    · exact (le_foldl_max l y).2 x h
theorem mxd_mem {d : Int} {l : List Int} (h : l ≠ []) : mxd d l ∈ l := by
  have key : ∀ (l : List Int) (a : Int), l.foldl max a = a ∨ l.foldl max a ∈ l := by
    intro l
    induction l with
    | nil => intro a; exact .inl rfl
    | cons y l ih =>
      intro a
      rcases ih (max a y) with e | e
      · rw [List.foldl_cons, e]
        by_cases hy : a ≤ y
        · exact .inr (by rw [Int.max_eq_right hy]; exact List.mem_cons_self)
        · exact .inl (Int.max_eq_left (by omega))
      · exact .inr (List.mem_cons_of_mem _ e)
  cases l with
  | nil => exact absurd rfl h
  | cons y l =>
    rcases key l y with e | e
    · show l.foldl max y ∈ _
      rw [e]; exact List.mem_cons_self
    · exact List.mem_cons_of_mem _ e
section
variable {P : Program} {w : World} {K : PySem.W.Frag} {mg : Str → Option Value} {base : Heap}
/-! depth -/
def spDep (n : Nat) (C : Addr) : Sp := fun vs H Q _ => ∃ (a : Addr) (t : Tm), vs = [.ref a] ∧ TmA H a t ∧ t.cls = C ∧ t.ht ≤ n ∧ ∀ H' (d : Int), Same H H' → 1 ≤ d → d ≤ t.ht → Q (.int d) H'
theorem sc19 : FnScope ["self", "one"] ["self"] (C8.fnScope st19) := C8.fnScope_by (by decide +kernel)
theorem m_depth (T : Txt K mg) {C : Addr} (hC : TmC C) : Meth K C "depth" d19.at_ := by
  rcases hC with h | h | h | h <;> subst h
  · exact m_Number_depth T
  · exact m_Take_depth T
  · exact m_Added_depth T
  · exact m_Multiplied_depth T
theorem ok_depth (T : Txt K mg) (n : Nat) : ∀ {C : Addr} (hC : TmC C), C8.Met P w K mg base (n + 1) C "depth" (spDep n C) [] := by
  induction n with
  | zero =>
    intro C hC
    refine met_by (k := 0) (T.df 19 _ rfl) (cls_tm T hC) (m_depth T hC) sc19 (fun _ _ _ _ us hl => match us, hl with | [_], _ => rfl) (fun vs H Q E h => ?_) (fun A outer s H vs Q E hr o h => ?_)
    · obtain ⟨a, t, rfl, _⟩ := h
      rfl
    · obtain ⟨a, t, rfl, _, _, h, _⟩ := h
      have := t.ht_pos
      omega
  | succ n ih =>
    intro C hC
    refine met_by (k := n + 1) (T.df 19 _ rfl) (cls_tm T hC) (m_depth T hC) sc19 (fun _ _ _ _ us hl => match us, hl with | [_], _ => rfl) (fun vs H Q E h => ?_) (fun A outer s H vs Q E hr o h => ?_)
    · obtain ⟨a, t, rfl, _⟩ := h
      rfl
    · obtain ⟨a, t, rfl, ht, hc, hn, q⟩ := h
      refine ⟨_, (pss_one (ps_ret (pe_op (op_self o) pe_int (pe_callBK (cr_maxDZ o) (by rfl) (z_max T) b_max (pa_cons (pe_lc (own := [("one", 1)]) rfl (sc19).nd (pi_listZ o (pe_exi (S := TmC) (fun C hC => C8.pe_mt0 (ok_below T hC) hr (by omega) (pv 0)))) (blkOk_by (own := [("one", 1)]) (by kernel_rfl)) (fun _ _ _ _ _ => pg_mn (pg_name (i := 1) (sc19).nd (by rfl) (by first | exact Or.inl rfl | exact Or.inr rfl))) (fun _ _ _ _ _ => pts_mn pts_nil) (fun _ _ _ _ _ => pe_mn (pe_exi (S := TmC) (fun C hC => C8.pe_mt0 (ih hC) hr (by omega) (pv 1))))) pa_nil) (pk_cons pe_int pk_nil))))), ?_⟩
      walk_at "go"
      refine tm0 has_below ht (fun R r => by walk_at "go"; exact r) ⟨a, t, rfl, ht, rfl, fun H1 l ps s1 nl ⟨hl, hpl, hps⟩ => ?_⟩
      have kl : t.kids.length ≤ 2 := by cases t <;> simp [Tm.kids]
      walk_at "go"
      refine lcL (a := l) (xs := ps.map V.ref) [] (fun D j acc H' => ∃ ns : List Int, acc = ns.map V.int ∧ ns.length = j ∧ ∀ d ∈ ns, 1 ≤ d ∧ d + 1 ≤ t.ht) (by rw [List.length_map]; omega) hl (by simp) (fun D H' nD sD hD => ⟨[], rfl, rfl, fun s h => by simp at h⟩) (fun D i x acc H5 nD hx hlj k5 hD ⟨ns, ea, nl, hns⟩ => ?_) (fun D acc H5 nD hl5 k5 hD ⟨ns, ea, nl, hns⟩ => ?_)
      · have e := keep0 k5
        obtain ⟨p, hp, rfl⟩ := map_at hx
        have hi := (List.getElem?_eq_some_iff.mp hp).1
        obtain ⟨kt, hkt⟩ : ∃ kt, t.kids[i]? = some kt := ⟨_, List.getElem?_eq_getElem (by omega)⟩
        have hkm := List.mem_of_getElem? hkt
        have hpt := TmA.same e (hps i p kt hp hkt)
        have hh := Tm.kid_ht hkm
        walk_at "go"
        refine tm0 has_depth hpt (fun R r => by walk_at "go"; exact r) ⟨p, kt, rfl, hpt, rfl, by omega, fun H3 d s3 d1 d2 => ?_⟩
        refine ⟨s3 _ _ hD, same_k0 (e.trans s3), fun H6 k6 h6 => ⟨ns ++ [d], by rw [ea]; simp, by simp [nl], fun x hx => ?_⟩⟩
        rcases List.mem_append.mp hx with hx | hx
        · exact hns x hx
        · rw [List.mem_singleton.mp hx]
          omega
      · rw [ea] at hD
        walk_at "go"
        refine v_maxD hD ?_
        walk_at "go"
        have hm : mxd 0 ns ≤ t.ht - 1 := mxd_le (by have := t.ht_pos; omega) fun x hx => by have := hns x hx; omega
        have hm0 : 0 ≤ mxd 0 ns := by
          cases ns with
          | nil => exact Int.le_refl _
          | cons y l =>
            have h1 := hns y List.mem_cons_self
            have h2 : y ≤ mxd 0 (y :: l) := le_mxd List.mem_cons_self
            omega
        exact q H5 _ (s1.trans (keep0 k5)) (by omega) (by omega)
/-! parts -/
def spPar (n : Nat) (C : Addr) : Sp := fun vs H Q _ => ∃ (a : Addr) (t : Tm), vs = [.ref a] ∧ TmA H a t ∧ t.cls = C ∧ t.ht ≤ n ∧ ∀ H', Same H H' → Q (.int t.parts) H'
theorem sc20 : FnScope ["self", "one"] ["self"] (C8.fnScope st20) := C8.fnScope_by (by decide +kernel)
theorem m_parts (T : Txt K mg) {C : Addr} (hC : TmC C) : Meth K C "parts" d20.at_ := by
  rcases hC with h | h | h | h <;> subst h
  · exact m_Number_parts T
  · exact m_Take_parts T
  · exact m_Added_parts T
  · exact m_Multiplied_parts T
theorem kids_parts (t : Tm) : t.parts = 1 + (t.kids.map Tm.parts).sum := by
  cases t <;> simp [Tm.kids, Tm.parts]
theorem ok_parts (T : Txt K mg) (n : Nat) : ∀ {C : Addr} (hC : TmC C), C8.Met P w K mg base (n + 1) C "parts" (spPar n C) [] := by
  induction n with
  | zero =>
    intro C hC
    refine met_by (k := 0) (T.df 20 _ rfl) (cls_tm T hC) (m_parts T hC) sc20 (fun _ _ _ _ us hl => match us, hl with | [_], _ => rfl) (fun vs H Q E h => ?_) (fun A outer s H vs Q E hr o h => ?_)
    · obtain ⟨a, t, rfl, _⟩ := h
      rfl
    · obtain ⟨a, t, rfl, _, _, h, _⟩ := h
      have := t.ht_pos
      omega
  | succ n ih =>
    intro C hC
    refine met_by (k := n + 1) (T.df 20 _ rfl) (cls_tm T hC) (m_parts T hC) sc20 (fun _ _ _ _ us hl => match us, hl with | [_], _ => rfl) (fun vs H Q E h => ?_) (fun A outer s H vs Q E hr o h => ?_)
    · obtain ⟨a, t, rfl, _⟩ := h
      rfl
    · obtain ⟨a, t, rfl, ht, hc, hn, q⟩ := h
      refine ⟨_, (pss_one (ps_ret (pe_op (op_self o) pe_int (pe_callB (cr_self o) (by rfl) (z_sum T) b_sum (pa_cons (pe_lc (own := [("one", 1)]) rfl (sc20).nd (pi_listZ o (pe_exi (S := TmC) (fun C hC => C8.pe_mt0 (ok_below T hC) hr (by omega) (pv 0)))) (blkOk_by (own := [("one", 1)]) (by kernel_rfl)) (fun _ _ _ _ _ => pg_mn (pg_name (i := 1) (sc20).nd (by rfl) (by first | exact Or.inl rfl | exact Or.inr rfl))) (fun _ _ _ _ _ => pts_mn pts_nil) (fun _ _ _ _ _ => pe_mn (pe_exi (S := TmC) (fun C hC => C8.pe_mt0 (ih hC) hr (by omega) (pv 1))))) pa_nil))))), ?_⟩
      walk_at "go"
      refine tm0 has_below ht (fun R r => by walk_at "go"; exact r) ⟨a, t, rfl, ht, rfl, fun H1 l ps s1 nl ⟨hl, hpl, hps⟩ => ?_⟩
      have kl : t.kids.length ≤ 2 := by cases t <;> simp [Tm.kids]
      walk_at "go"
      refine lcL (a := l) (xs := ps.map V.ref) [] (fun D j acc H' => acc = ((t.kids.take j).map Tm.parts).map V.int) (by rw [List.length_map]; omega) hl (by simp) (fun D H' nD sD hD => rfl) (fun D i x acc H5 nD hx hlj k5 hD ea => ?_) (fun D acc H5 nD hl5 k5 hD ea => ?_)
      · have e := keep0 k5
        obtain ⟨p, hp, rfl⟩ := map_at hx
        have hi := (List.getElem?_eq_some_iff.mp hp).1
        obtain ⟨kt, hkt⟩ : ∃ kt, t.kids[i]? = some kt := ⟨_, List.getElem?_eq_getElem (by omega)⟩
        have hkm := List.mem_of_getElem? hkt
        have hpt := TmA.same e (hps i p kt hp hkt)
        have hh := Tm.kid_ht hkm
        walk_at "go"
        refine tm0 has_parts hpt (fun R r => by walk_at "go"; exact r) ⟨p, kt, rfl, hpt, rfl, by omega, fun H3 s3 => ?_⟩
        refine ⟨s3 _ _ hD, same_k0 (e.trans s3), fun H6 k6 h6 => ?_⟩
        rw [ea, List.take_add_one, hkt]
        simp
      · have hkl : (ps.map V.ref).length = t.kids.length := by rw [List.length_map, hpl]
        rw [hkl, List.take_of_length_le (Nat.le_refl _)] at ea
        rw [ea] at hD
        refine v_sum hD ?_
        walk_at "go"
        rw [← kids_parts]
        exact q H5 (s1.trans (keep0 k5))
/-! lines_of, check_term -/
def spLinesOf : Sp := fun vs H Q _ => ∃ (a : Addr) (t : Tm) (sz : List Int), vs = [.ref a] ∧ TmA H a t ∧ t.ht ≤ 5 ∧ t.tks.length ≤ 1000 ∧ t.Ok sz ∧ ∀ H', Same H H' → (Q .non H' ∧ Q (.int sz.length) H')
theorem sc32 : FnScope ["term", "found", "back", "steps"] ["term"] (C8.fnScope st32) := C8.fnScope_by (by decide +kernel)
theorem ok_lines_of (T : Txt K mg) : C8.Cal P w K mg base 7 "lines_of" spLinesOf [] := by
  refine cal_by (k := 6) (T.df 32 _ rfl) (g_lines_of T) sc32 (fun _ _ _ _ us hl => match us, hl with | [_], _ => rfl) (fun vs H Q E h => ?_) (fun A outer s H vs Q E hr o h => ?_)
  · obtain ⟨a, t, sz, rfl, _⟩ := h
    rfl
  · obtain ⟨a, t, sz, rfl, ht, hn, hfew, hk, q⟩ := h
    refine ⟨_, (pss_cons (ps_set (i := 1) (sc32).nd rfl (by first | exact Or.inl rfl | exact Or.inr rfl) pe_non)
      (pss_cons (ps_for PassesOwn.never rfl (pi_listZ o (pe_exi (S := TmC) (fun C hC => C8.pe_mt0 (ok_takes T 5 hC) hr (by omega) (pv 0)))) (pg_tupZ (n := 2) o (pgs_cons (pg_name (i := 2) (sc32).nd (by rfl) (by first | exact Or.inl rfl | exact Or.inr rfl)) (pgs_cons (pg_name (i := 3) (sc32).nd (by rfl) (by first | exact Or.inl rfl | exact Or.inr rfl)) pgs_nil))) (pss_cons (ps_if (PW.pt (pw_and (pt_cmpR (op_self o) (pv 1) pe_non (nomark _)) (pw_and1 (pt_cmpR (op_self o) (pv 1) (pe_callB (cr_self o) (by rfl) (z_len T) b_len (pa_cons (pv 3) pa_nil)) (nomark _))))) (pss_one ps_never) pss_nil)
      (pss_one (ps_set (i := 1) (sc32).nd rfl (by first | exact Or.inl rfl | exact Or.inr rfl) (pe_callB (cr_self o) (by rfl) (z_len T) b_len (pa_cons (pv 3) pa_nil))))))
      (pss_one (ps_ret (pv 1))))), ?_⟩
    walk_at "go"
    refine tm0 has_takes ht (fun R r => by walk_at "go"; exact r) ⟨a, t, rfl, ht, rfl, hn, hfew, fun H1 l ks s1 nl hl hz hlen => ?_⟩
    have hl1 := hl.1
    walk_at "go"
    refine forL (a := l) (xs := ks.vs) (fun i σ H' => Same H1 H' ∧ ∃ (v : V) (b c : Option V), σ = [some (.ref a), some v, b, c] ∧ (v = .non ∨ v = .int sz.length)) ⟨Same.refl _, _, _, _, rfl, .inl rfl⟩ (fun i σ H' hi ⟨e, _⟩ => e _ _ hl1) (fun i x σ H2 hx ⟨e, v, b, c, es, hv⟩ => ?_) (fun σ H2 ⟨e, v, b, c, es, hv⟩ => ?_)
    · subst es
      obtain ⟨p, hp, rfl⟩ := map_at hx
      obtain ⟨bt, g1, g2⟩ := (hl.2 p (List.mem_of_getElem? hp)).same e
      have hpm : p.2 ∈ ks.zs := List.mem_map.mpr ⟨p, List.mem_of_getElem? hp, rfl⟩
      have tk := Tm.tks_ok hk p.2 ((hz _).mp hpm)
      have tkl : (p.2.2.map V.int).length = sz.length := by rw [List.length_map]; exact tk.2.2.1
      rcases hv with hv | hv <;> subst hv
      · walk_at "go"
        rw [tkl]
        exact ⟨e, _, _, _, rfl, .inr rfl⟩
      · walk_at "go"
        rw [tkl]
        exact ⟨e, _, _, _, rfl, .inr rfl⟩
    · subst es
      walk_at "go"
      have := q H2 (s1.trans e)
      rcases hv with hv | hv <;> subst hv
      · exact this.1
      · exact this.2
def spCheck : Sp := fun vs H Q _ => ∃ (a : Addr) (t : Tm) (sz : List Int), vs = [.ref a] ∧ TmA H a t ∧ t.ht ≤ 5 ∧ t.tks.length ≤ 6 ∧ t.parts ≤ 60 ∧ SzOk sz ∧ t.Ok sz ∧ ∀ H', Same H H' → Q .non H'
theorem sc33 : FnScope ["term", "word"] ["term"] (C8.fnScope st33) := C8.fnScope_by (by decide +kernel)
theorem ok_check_term (T : Txt K mg) : C8.Cal P w K mg base 9 "check_term" spCheck [] := by
  refine cal_by (k := 8) (T.df 33 _ rfl) (g_check_term T) sc33 (fun _ _ _ _ us hl => match us, hl with | [_], _ => rfl) (fun vs H Q E h => ?_) (fun A outer s H vs Q E hr o h => ?_)
  · obtain ⟨a, t, sz, rfl, _⟩ := h
    rfl
  · obtain ⟨a, t, sz, rfl, ht, hn, hfew, hp, hs, hk, q⟩ := h
    refine ⟨_, (pss_cons (ps_set (i := 1) (sc33).nd rfl (by first | exact Or.inl rfl | exact Or.inr rfl) (pe_exi (S := TmC) (fun C hC => C8.pe_mt0 (ok_first_wrong T 5 hC) hr (by omega) (pv 0))))
      (pss_cons (ps_if (pt_cmpR (op_self o) (pv 1) pe_non (nomark _)) (pss_one ps_never) pss_nil)
      (pss_cons (ps_expr (C8.pe_c (ok_lines_of (P := P) (w := w) T) hr (by decide) (by rfl) (pa_cons (pv 0) pa_nil)))
      (pss_cons (ps_if (pt_cmpR (op_self o) (pe_exi (S := TmC) (fun C hC => C8.pe_mt0 (ok_depth T 5 hC) hr (by omega) (pv 0))) (C8.pe_gc (by rfl) (i_MOST_DEPTH T)) (nomark _)) (pss_one ps_never) pss_nil)
      (pss_cons (ps_if (pt_cmpR (op_self o) (pe_exi (S := TmC) (fun C hC => C8.pe_mt0 (ok_parts T 5 hC) hr (by omega) (pv 0))) (C8.pe_gc (by rfl) (i_MOST_PARTS T)) (nomark _)) (pss_one ps_never) pss_nil)
      (pss_one (ps_if (pt_cmpR (op_self o) (pe_callB (cr_self o) (by rfl) (z_len T) b_len (pa_cons (pe_exi (S := TmC) (fun C hC => C8.pe_mt0 (ok_takes T 5 hC) hr (by omega) (pv 0))) pa_nil)) (C8.pe_gc (by rfl) (i_MOST_TAKES T)) (nomark _)) (pss_one ps_never) pss_nil))))))), ?_⟩
    walk_at "go"
    refine tm0 has_first_wrong ht (fun R r => by walk_at "go"; exact r) ⟨a, t, sz, rfl, ht, rfl, hn, hs, hk, fun H1 s1 => ?_⟩
    have ht1 := TmA.same s1 ht
    walk_at "go"
    refine ⟨a, t, sz, rfl, ht1, hn, by omega, hk, fun H2 s2 => ?_⟩
    have ht2 := TmA.same s2 ht1
    constructor
    all_goals
      walk_at "go"
      refine tm0 has_depth ht2 (fun R r => by walk_at "go"; exact r) ⟨a, t, rfl, ht2, rfl, hn, fun H3 d s3 d1 d2 => ?_⟩
      have ht3 := TmA.same s3 ht2
      walk_at "go"
      refine tm0 has_parts ht3 (fun R r => by walk_at "go"; exact r) ⟨a, t, rfl, ht3, rfl, hn, fun H4 s4 => ?_⟩
      have ht4 := TmA.same s4 ht3
      walk_at "go"
      refine tm0 has_takes ht4 (fun R r => by walk_at "go"; exact r) ⟨a, t, rfl, ht4, rfl, hn, by omega, fun H5 l ks s5 nl hl hz hlen => ?_⟩
      have hl1 := hl.1
      walk_at "go"
      exact q H5 (s1.trans (s2.trans (s3.trans (s4.trans s5))))
end
end
section
set_option maxHeartbeats 4000000
section
variable {P : Program} {w : World} {K : PySem.W.Frag} {mg : Str → Option Value} {base : Heap}
theorem v_ninT {H : Hp} {Q : VK} {x : V} {p : Addr} {xs : List V} {b : Bool} (h : H p = some (.tup xs)) (f1 : flatV x = true) (f2 : xs.all flatV = true) (e : (!inV x xs) = b) (q : Q (.bl b) H) : OpV P w K (compareOp .NotIn) x (.ref p) H Q := by
  intro X o
  obtain ⟨rfl, rfl, rfl, hc, hu⟩ := o
  exact ⟨_, op_notIn_seq, ⟨p, xs, rfl, .inr (SqT.of h), f1, f2, by rw [← e] at q; exact q⟩⟩
/-! ### the first turns' worths -/
def FirstA (H : Hp) (fl : Addr) (d : Int) (m : Nat) : Prop := ∃ rs : List Addr, H fl = some (.lst (rs.map V.ref)) ∧ (rs.length : Int) = d ∧ rs.length ≤ 100 ∧ ∀ r ∈ rs, ∃ ns : List Int, H r = some (.lst (ns.map V.int)) ∧ ns.length = m ∧ ∀ v ∈ ns, 0 ≤ v ∧ v ≤ 96
theorem FirstA.same {H H' : Hp} {fl : Addr} {d : Int} {m : Nat} (h : FirstA H fl d m) (s : Same H H') : FirstA H' fl d m := by
  obtain ⟨rs, h1, h2, h3, h4⟩ := h
  exact ⟨rs, s _ _ h1, h2, h3, fun r hr => by obtain ⟨ns, a, b⟩ := h4 r hr; exact ⟨ns, s _ _ a, b⟩⟩
def spFirst : Sp := fun vs H Q _ => ∃ (fl : Addr) (d : Int) (m : Nat), vs = [.ref fl, .int d, .int m, .int 97] ∧ FirstA H fl d m ∧ m ≤ 100 ∧ ∀ H', Same H H' → Q (.bl true) H'
theorem sc34 : FnScope ["first", "deep", "many", "modulus", "row", "worth"] ["first", "deep", "many", "modulus"] (C8.fnScope st34) := C8.fnScope_by (by decide +kernel)
theorem ok_is_first (T : Txt K mg) : C8.Cal P w K mg base 3 "is_first" spFirst [] := by
  refine cal_by (k := 2) (T.df 34 _ rfl) (g_is_first T) sc34 (fun _ _ _ _ us hl => match us, hl with | [_, _, _, _], _ => rfl) (fun vs H Q E h => ?_) (fun A outer s H vs Q E hr o h => ?_)
  · obtain ⟨fl, d, m, rfl, _⟩ := h
    rfl
  · obtain ⟨fl, d, m, rfl, ⟨rs, h1, h2, h3, h4⟩, hm, q⟩ := h
    refine ⟨_, (pss_cons (ps_if (PW.pt (pw_or (pt_not (pt_val (pe_callB (cr_self o) (by rfl) (z_isinstance T) b_isinstance (pa_cons (pv 0) (pa_cons (pe_bltn (v := .ty "list") (by rfl) (z_list T) b_list rfl) pa_nil))))) (pw_or1 (pt_cmpR (op_self o) (pe_callB (cr_self o) (by rfl) (z_len T) b_len (pa_cons (pv 0) pa_nil)) (pv 1) (nomark _))))) (pss_one (ps_ret pe_bl)) pss_nil)
      (pss_cons (ps_for PassesOwn.never rfl (pi_listZ o (pv 0)) (pg_name (i := 4) (sc34).nd (by rfl) (by first | exact Or.inl rfl | exact Or.inr rfl)) (pss_cons (ps_if (PW.pt (pw_or (pt_not (pt_val (pe_callB (cr_self o) (by rfl) (z_isinstance T) b_isinstance (pa_cons (pv 4) (pa_cons (pe_bltn (v := .ty "list") (by rfl) (z_list T) b_list rfl) pa_nil))))) (pw_or1 (pt_cmpR (op_self o) (pe_callB (cr_self o) (by rfl) (z_len T) b_len (pa_cons (pv 4) pa_nil)) (pv 2) (nomark _))))) (pss_one (ps_ret pe_bl)) pss_nil)
      (pss_one (ps_if (pt_not (pt_val (pe_callB (cr_self o) (by rfl) (z_all T) b_all (pa_cons (pe_lc (own := [("worth", 5)]) rfl (sc34).nd (pi_listZ o (pv 4)) (blkOk_by (own := [("worth", 5)]) (by kernel_rfl)) (fun _ _ _ _ _ => pg_mn (pg_name (i := 5) (sc34).nd (by rfl) (by first | exact Or.inl rfl | exact Or.inr rfl))) (fun _ _ _ _ _ => pts_mn pts_nil) (fun _ _ _ _ _ => pe_mn (C8.pe_c (ok_is_between (P := P) (w := w) T) hr (by decide) (by rfl) (pa_cons (pv 5) (pa_cons pe_int (pa_cons (pe_op (op_self o.blk) (pv 3) pe_int) pa_nil)))))) pa_nil)))) (pss_one (ps_ret pe_bl)) pss_nil))))
      (pss_one (ps_ret pe_bl)))), ?_⟩
    walk_at "go"
    refine forL (a := fl) (xs := rs.map V.ref) (fun i σ H' => Same H H' ∧ ∃ b : Option V, σ = [some (.ref fl), some (.int d), some (.int m), some (.int 97), b, none]) ⟨Same.refl _, _, rfl⟩ (fun i σ H' hi ⟨e, _⟩ => e _ _ h1) (fun i x σ H2 hx ⟨e, b, es⟩ => ?_) (fun σ H2 ⟨e, b, es⟩ => ?_)
    · subst es
      obtain ⟨r, hr', rfl⟩ := map_at hx
      obtain ⟨ns, g1, g2, g3⟩ := h4 r (List.mem_of_getElem? hr')
      have g1 := e _ _ g1
      walk_at "go"
      refine lcL (a := r) (xs := ns.map V.int) [] (fun D j acc H' => acc = (List.replicate j true).map V.bl) (by rw [List.length_map]; omega) g1 (by simp) (fun D H' nD sD hD => rfl) (fun D j x acc H5 nD hx hlj k5 hD ea => ?_) (fun D acc H5 nD hl5 k5 hD ea => ?_)
      · obtain ⟨v, hv, rfl⟩ := map_at hx
        have bb := g3 v (List.mem_of_getElem? hv)
        walk_at "go"
        refine ⟨v, _, _, rfl, by omega, by omega, hD, k5, fun H8 k8 h8 => ?_⟩
        rw [ea, List.replicate_succ']
        simp
      · rw [ea] at hD
        refine v_all hD ?_
        have e2 : ((List.replicate (ns.map V.int).length true).all id) = true := by simp
        rw [e2]
        walk_at "go"
        exact ⟨e.trans (keep0 k5), _, rfl⟩
    · subst es
      walk_at "go"
      exact q H2 e
/-! ### Job.deep -/
def deepF (zs : List Sp2) : Int := mxd 1 (zs.map (·.1))
def spDeep : Sp := fun vs H Q _ => ∃ (j dx tl : Addr) (fs : List (Str × V)) (ks : SpL), vs = [.ref j] ∧ H j = some (.ins 542 dx fs) ∧ fs.lookup ("taken" : Str) = some (.ref tl) ∧ LSp H tl ks ∧ ks.length ≤ 100 ∧ ∀ H', Same H H' → Q (.int (deepF ks.zs)) H'
theorem sc36 : FnScope ["self", "back", "steps"] ["self"] (C8.fnScope st36) := C8.fnScope_by (by decide +kernel)
theorem ok_Job_deep (T : Txt K mg) : C8.Met P w K mg base 1 542 "deep" spDeep [] := by
  refine met_by (k := 0) (T.df 36 _ rfl) (c_Job T) (m_Job_deep T) sc36 (fun _ _ _ _ us hl => match us, hl with | [_], _ => rfl) (fun vs H Q E h => ?_) (fun A outer s H vs Q E hr o h => ?_)
  · obtain ⟨j, dx, tl, fs, ks, rfl, _⟩ := h
    rfl
  · obtain ⟨j, dx, tl, fs, ks, rfl, hj, hf, hl, hk, q⟩ := h
    have hl1 := hl.1
    refine ⟨_, (pss_one (ps_ret (pe_callBK (cr_maxDZ o) (by rfl) (z_max T) b_max (pa_cons (pe_lc (own := [("back", 1), ("steps", 2)]) rfl (sc36).nd (pi_listZ o (pe_fldZ o (pv 0) rfl)) (blkOk_by (own := [("back", 1), ("steps", 2)]) (by kernel_rfl)) (fun _ _ _ _ _ => pg_mn (pg_tupZ (n := 2) o.blk (pgs_cons (pg_name (i := 1) (sc36).nd (by rfl) (by first | exact Or.inl rfl | exact Or.inr rfl)) (pgs_cons (pg_name (i := 2) (sc36).nd (by rfl) (by first | exact Or.inl rfl | exact Or.inr rfl)) pgs_nil)))) (fun _ _ _ _ _ => pts_mn pts_nil) (fun _ _ _ _ _ => pe_mn (pv 1))) pa_nil) (pk_cons pe_int pk_nil)))), ?_⟩
    walk_at "go"
    refine ⟨j, _, dx, fs, _, rfl, hj, c_Job T, n_Job_taken T, hf, ?_⟩
    walk_at "go"
    refine lcL (a := tl) (xs := ks.vs) [] (fun D i acc H' => acc = ((ks.zs.take i).map (·.1)).map V.int) (by simp only [SpL.vs, List.length_map]; omega) hl1 (by simp) (fun D H' nD sD hD => rfl) (fun D i x acc H5 nD hx hlj k5 hD ea => ?_) (fun D acc H5 nD hl5 k5 hD ea => ?_)
    · obtain ⟨p, hp, rfl⟩ := map_at hx
      obtain ⟨bt, g1, g2⟩ := (hl.2 p (List.mem_of_getElem? hp)).same (keep0 k5)
      walk_at "go"
      have hz : ks.zs[i]? = some p.2 := by simp only [SpL.zs]; rw [List.getElem?_map, hp]; rfl
      refine ⟨hD, k5, fun H8 k8 h8 => ?_⟩
      rw [ea, List.take_add_one, hz]
      simp
    · have e : (SpL.vs ks).length = ks.zs.length := by simp [SpL.vs, SpL.zs]
      rw [e, List.take_of_length_le (Nat.le_refl _)] at ea
      rw [ea] at hD
      walk_at "go"
      refine v_maxD hD ?_
      exact q H5 (keep0 k5)
/-! ### a job -/
structure JobA (H : Hp) (j : Addr) (sz : List Int) (R : Nat) : Prop where
  ok : SzOk sz
  hR : R ≤ 5
  ex : ∃ (dx g tm tl fl : Addr) (t : Tm) (ks : SpL), H j = some (o_Job dx (.ref g) (.ref tm) (.ref tl) (.int 97) (.int R) (.ref fl)) ∧ GridA H g sz ∧ TmA H tm t ∧ t.Ok sz ∧ t.ht ≤ 5 ∧ LSp H tl ks ∧ (∀ z, z ∈ ks.zs ↔ z ∈ t.tks) ∧ ks.length ≤ 3 ∧ FirstA H fl (deepF ks.zs) (placesF sz).length
theorem JobA.same {H H' : Hp} {j : Addr} {sz : List Int} {R : Nat} (h : JobA H j sz R) (s : Same H H') : JobA H' j sz R := by
  obtain ⟨a, b, dx, g, tm, tl, fl, t, ks, h1, h2, h3, h4, h5, h6, h7, h8, h9⟩ := h
  exact ⟨a, b, dx, g, tm, tl, fl, t, ks, s _ _ h1, h2.same s, TmA.same s h3, h4, h5, h6.same s, h7, h8, h9.same s⟩
theorem lk5_taken {v0 v1 v2 v3 v4 : V} : (fs5_Job v0 v1 v2 v3 v4).lookup ("taken" : Str) = some v2 := by kernel_rfl
theorem lk5_deep {v0 v1 v2 v3 v4 : V} : (fs5_Job v0 v1 v2 v3 v4).lookup ("deep" : Str) = none := by kernel_rfl
def spJobI : Sp := fun vs H Q _ => ∃ (F : Hp) (x dx g tm fl : Addr) (sz : List Int) (R : Nat) (t : Tm), vs = [.ref x, .ref g, .ref tm, .int 97, .int R, .ref fl] ∧ H x = some (.ins 542 dx []) ∧ Same F H ∧ F x = none ∧ R ≤ 5 ∧ GridA F g sz ∧ TmA F tm t ∧ t.Ok sz ∧ t.ht ≤ 5 ∧ t.tks.length ≤ 3 ∧ t.parts ≤ 60 ∧ FirstA F fl (deepF t.tks) (placesF sz).length ∧
  ∀ H', Keep [x] H H' → JobA H' x sz R → Q .non H'
theorem deepF_iff {a b : List Sp2} (h : ∀ z, z ∈ a ↔ z ∈ b) : deepF a = deepF b := by
  have key : ∀ {a b : List Sp2}, (∀ z, z ∈ a → z ∈ b) → 1 ≤ deepF b → deepF a ≤ deepF b := by
    intro a b h h1
    exact mxd_le h1 fun x hx => by
      obtain ⟨z, hz, rfl⟩ := List.mem_map.mp hx
      exact le_mxd (List.mem_map.mpr ⟨z, h z hz, rfl⟩)
  by_cases ha : a = []
  · subst ha
    have : b = [] := by
      cases b with
      | nil => rfl
      | cons y b => exact absurd ((h y).mpr List.mem_cons_self) (by simp)
    rw [this]
  · have hb : b ≠ [] := fun z => by
      subst z
      cases a with
      | nil => exact ha rfl
      | cons y a => exact absurd ((h y).mp List.mem_cons_self) (by simp)
    have m1 : deepF a ∈ a.map (·.1) := mxd_mem (by simpa using ha)
    have m2 : deepF b ∈ b.map (·.1) := mxd_mem (by simpa using hb)
    obtain ⟨z1, hz1, e1⟩ := List.mem_map.mp m1
    obtain ⟨z2, hz2, e2⟩ := List.mem_map.mp m2
    have l1 : deepF a ≤ deepF b := by rw [← e1]; exact le_mxd (List.mem_map.mpr ⟨z1, (h z1).mp hz1, rfl⟩)
    have l2 : deepF b ≤ deepF a := by rw [← e2]; exact le_mxd (List.mem_map.mpr ⟨z2, (h z2).mpr hz2, rfl⟩)
    omega
theorem sc35 : FnScope ["self", "grid", "term", "modulus", "rounds", "first", "row"] ["self", "grid", "term", "modulus", "rounds", "first"] (C8.fnScope st35) := C8.fnScope_by (by decide +kernel)
theorem ok_mk_Job (T : Txt K mg) : C8.Mak P w K mg base 10 "Job" 542 spJobI [] := by
  refine mak_by (k := 9) (T.df 35 _ rfl) (k_Job T) (g_Job T) sc35 (fun _ _ _ _ us hl => match us, hl with | [_, _, _, _, _, _], _ => rfl) (fun vs H Q E h => ?_) (fun A outer s H vs Q E hr o h => ?_)
  · obtain ⟨F, x, dx, g, tm, fl, sz, R, t, rfl, _⟩ := h
    rfl
  · obtain ⟨F, x, dx, g, tm, fl, sz, R, t, rfl, hx, sF, nx, hR, G', ht', hk, hn, hfew, hp, hF, k⟩ := h
    have G := G'.same sF
    have ht := TmA.same sF ht'
    obtain ⟨ok, _⟩ := id G
    have hpl := places_len ok
    refine ⟨_, (pss_cons (ps_expr (C8.pe_c (ok_check_term (P := P) (w := w) T) hr (by decide) (by rfl) (pa_cons (pv 2) pa_nil)))
      (pss_cons (ps_if (pt_cmpR (op_self o) (C8.pe_c (ok_lines_of (P := P) (w := w) T) hr (by decide) (by rfl) (pa_cons (pv 2) pa_nil)) (pe_tup (pa_mn (pa_cons pe_non (pa_cons (C8.pe_mt0 (ok_Grid_lines (P := P) (w := w) T) hr (by decide) (pv 1)) pa_nil)))) (by rfl)) (pss_one ps_never) pss_nil)
      (pss_cons (ps_if (pt_not (pt_val (C8.pe_c (ok_is_between (P := P) (w := w) T) hr (by decide) (by rfl) (pa_cons (pv 3) (pa_cons pe_int (pa_cons (C8.pe_gc (by rfl) (i_MOST_MODULUS T)) pa_nil)))))) (pss_one ps_never) pss_nil)
      (pss_cons (ps_if (PW.pt (pw_or (pt_not (pt_val (C8.pe_c (ok_is_between (P := P) (w := w) T) hr (by decide) (by rfl) (pa_cons (pv 4) (pa_cons pe_int (pa_cons (C8.pe_gc (by rfl) (i_MOST_ROUNDS T)) pa_nil)))))) (pw_or1 (pt_cmpR (op_self o) (pe_op (op_self o) (pv 4) (C8.pe_mt0 (ok_Grid_places_many (P := P) (w := w) T) hr (by decide) (pv 1))) (C8.pe_gc (by rfl) (i_MOST_SPOTS T)) (nomark _))))) (pss_one ps_never) pss_nil)
      (pss_cons (ps_fld (pv 0) (pv 1) rfl)
      (pss_cons (ps_fld (pv 0) (pv 2) rfl)
      (pss_cons (ps_fld (pv 0) (pe_exi (S := TmC) (fun C hC => C8.pe_mt0 (ok_takes T 5 hC) hr (by omega) (pv 2))) rfl)
      (pss_cons (ps_fld (pv 0) (pv 3) rfl)
      (pss_cons (ps_fld (pv 0) (pv 4) rfl)
      (pss_cons (ps_if (pt_not (pt_val (C8.pe_c (ok_is_first (P := P) (w := w) T) hr (by decide) (by rfl) (pa_cons (pv 5) (pa_cons (C8.pe_mt0 (ok_Job_deep (P := P) (w := w) T) hr (by decide) (pv 0)) (pa_cons (C8.pe_mt0 (ok_Grid_places_many (P := P) (w := w) T) hr (by decide) (pv 1)) (pa_cons (pv 3) pa_nil))))))) (pss_one ps_never) pss_nil)
      (pss_one (ps_fld (pv 0) (pe_lc (own := [("row", 6)]) rfl (sc35).nd (pi_listZ o (pv 5)) (blkOk_by (own := [("row", 6)]) (by kernel_rfl)) (fun _ _ _ _ _ => pg_mn (pg_name (i := 6) (sc35).nd (by rfl) (by first | exact Or.inl rfl | exact Or.inr rfl))) (fun _ _ _ _ _ => pts_mn pts_nil) (fun _ _ _ _ _ => pe_mn (pe_callTy (cr_self o.blk) (by rfl) (z_list T) b_list (pa_cons (pv 6) pa_nil)))) rfl)))))))))))), ?_⟩
    walk_at "go"
    refine ⟨tm, t, sz, rfl, ht, hn, by omega, hp, ok, hk, fun H1 s1 => ?_⟩
    have ht1 := TmA.same s1 ht
    walk_at "go"
    refine ⟨tm, t, sz, rfl, ht1, hn, by omega, hk, fun H2 s2 => ?_⟩
    have ht2 := TmA.same s2 ht1
    have s02 := s1.trans s2
    have G2 := G.same s02
    obtain ⟨_, gdx, gs, gr, ge, grk, hg, _⟩ := id G2
    have x2 := s02 _ _ hx
    constructor
    all_goals
      walk_at "go"
      refine ⟨g, sz, rfl, G2, ?_⟩
      walk_at "go"
      refine ⟨len2, fun tp H3 n3 s3 h3 => ?_⟩
      walk_at "go"
      refine v_ninT (b := false) h3 (by rfl) (by rfl) (by simp [inV, eqV]) ?_
      walk_at "go"
      refine ⟨97, 2, _, rfl, by decide, by decide, ?_⟩
      walk_at "go"
      refine ⟨(R : Int), 0, _, rfl, by omega, by omega, ?_⟩
      have G3 := G2.same s3
      have hg3 := s3 _ _ hg
      walk_at "go"
      refine ⟨g, sz, rfl, G3, fun H4 s4 => ?_⟩
      have hm : (R : Int) * ((placesF sz).length : Nat) ≤ 120 := by
        have : R * (placesF sz).length ≤ 5 * 6 := Nat.mul_le_mul hR hpl.1
        have e : (R : Int) * ((placesF sz).length : Nat) = ((R * (placesF sz).length : Nat) : Int) := by simp
        rw [e]
        omega
      refine v_mul (Or.inl (by omega)) ?_
      walk_at "go"
      have sF4 : Same F H4 := sF.trans (s02.trans (s3.trans s4))
      have x4 := s4 _ _ (s3 _ _ x2)
      refine st_Job_grid T x4 fun H5 k5 h5 => ?_
      have sF5 := same_of_new sF4 nx k5
      walk_at "go"
      refine st_Job_term T h5 fun H6 k6 h6 => ?_
      have sF6 := same_of_new sF5 nx k6
      have ht6 := TmA.same sF6 ht'
      walk_at "go"
      refine tm0 has_takes ht6 (fun R r => by walk_at "go"; exact r) ⟨tm, t, rfl, ht6, rfl, hn, by omega, fun H7 tl ks s7 ntl hl hz hlen => ?_⟩
      walk_at "go"
      refine st_Job_taken T (s7 _ _ h6) fun H8 k8 h8 => ?_
      have nxtl : tl ≠ x := fun z => by rw [z, h6] at ntl; cases ntl
      have hl8 : LSp H8 tl ks := by
        refine ⟨k8 _ _ hl.1 (nin1 nxtl), fun p hp => ?_⟩
        obtain ⟨b, g1, g2⟩ := hl.2 p hp
        have e7 := s7 _ _ h6
        exact ⟨b, k8 _ _ g1 (nin1 (ne_of g1 e7 (fun z => nomatch z))), k8 _ _ g2 (nin1 (ne_of g2 e7 (fun z => nomatch z)))⟩
      walk_at "go"
      refine st_Job_modulus T h8 fun H9 k9 h9 => ?_
      walk_at "go"
      refine st_Job_rounds T h9 fun H10 k10 h10 => ?_
      have sF10 : Same F H10 := same_of_new (same_of_new (same_of_new (sF6.trans s7) nx k8) nx k9) nx k10
      have mv : ∀ {H H' : Hp} {o : HO}, H x = some o → (∀ xs, o ≠ .tup xs) → (∀ xs, o ≠ .lst xs) → Keep [x] H H' → LSp H tl ks → LSp H' tl ks := fun {H H' o} ho n1 n2 kk hh => ⟨kk _ _ hh.1 (nin1 nxtl), fun p hp => by
        obtain ⟨b, g1, g2⟩ := hh.2 p hp
        exact ⟨b, kk _ _ g1 (nin1 (ne_of g1 ho (fun z => n1 _ z.symm))), kk _ _ g2 (nin1 (ne_of g2 ho (fun z => n1 _ z.symm)))⟩⟩
      have hl9 := mv h8 (fun _ z => nomatch z) (fun _ z => nomatch z) k9 hl8
      have hl10 := mv h9 (fun _ z => nomatch z) (fun _ z => nomatch z) k10 hl9
      have G10 := G'.same sF10
      obtain ⟨_, gdx0, gs0, gr0, ge0, grk0, hg10, _⟩ := id G10
      walk_at "go"
      refine ⟨x, dx, _, rfl, h10, lk5_deep, ?_⟩
      walk_at "go"
      refine ⟨x, dx, tl, _, ks, rfl, h10, lk5_taken, hl10, by omega, fun H11 s11 => ?_⟩
      have hg11 := s11 _ _ hg10
      walk_at "go"
      refine ⟨g, sz, rfl, G10.same s11, fun H12 s12 => ?_⟩
      have dz : deepF ks.zs = deepF t.tks := deepF_iff hz
      have sF12 := sF10.trans (s11.trans s12)
      have hF12 := hF.same sF12
      rw [← dz] at hF12
      walk_at "go"
      refine ⟨fl, deepF ks.zs, _, rfl, hF12, by omega, fun H13 s13 => ?_⟩
      have sF13 := sF12.trans s13
      have hF13 := hF12.same s13
      obtain ⟨rs, r1, r2, r3, r4⟩ := id hF13
      have h13 := s13 _ _ (s12 _ _ (s11 _ _ h10))
      have hl13 := hl10.same (s11.trans (s12.trans s13))
      walk_at "go"
      refine lcL (a := fl) (xs := rs.map V.ref) [] (fun D i acc H' => ∃ rs' : List Addr, acc = rs'.map V.ref ∧ rs'.length = i ∧ ∀ r ∈ rs', H13 r = none ∧ ∃ ns : List Int, H' r = some (.lst (ns.map V.int)) ∧ ns.length = (placesF sz).length ∧ ∀ v ∈ ns, 0 ≤ v ∧ v ≤ 96) (by rw [List.length_map]; omega) r1 (by simp) (fun D H' nD sD hD => ⟨[], rfl, rfl, fun r h => by simp at h⟩) (fun D i v acc H14 nD hx hlj k14 hD ⟨rs', ea, el, hr⟩ => ?_) (fun D acc H14 nD hl14 k14 hD ⟨rs', ea, el, hr⟩ => ?_)
      · obtain ⟨r, hr', rfl⟩ := map_at hx
        have s14 := keep0 k14
        obtain ⟨ns, g1, g2, g3⟩ := r4 r (List.mem_of_getElem? hr')
        have g14 := s14 _ _ g1
        walk_at "go"
        refine v_listL g14 fun l H15 nl s15 h15 => ?_
        refine ⟨s15 _ _ hD, same_k0 (s14.trans s15), fun H16 k16 h16 => ⟨rs' ++ [l], by rw [ea]; simp, by simp [el], fun r0 hr0 => ?_⟩⟩
        rcases List.mem_append.mp hr0 with hr0 | hr0
        · obtain ⟨q1, ns', q2, q3⟩ := hr r0 hr0
          have : r0 ≠ D := fun z => by rw [z, hD] at q2; have := Option.some.inj q2; rw [z] at hr0; exact (by
            rw [ea] at hD
            have w1 := (hr D hr0)
            obtain ⟨_, ns2, w2, _⟩ := w1
            rw [hD] at w2
            have w3 : rs'.map V.ref = ns2.map V.int := by injection w2 with w2; injection w2
            cases rs' with
            | nil => simp at hr0
            | cons a l => cases ns2 with
              | nil => simp at w3
              | cons b m => simp at w3)
          exact ⟨q1, ns', k16 _ _ (s15 _ _ q2) (nin1 this), q3⟩
        · rw [List.mem_singleton.mp hr0]
          have lD : l ≠ D := fun z => by rw [z, hD] at nl; cases nl
          exact ⟨s14.free nl, ns, k16 _ _ h15 (nin1 lD), g2, g3⟩
      · have s14 := keep0 k14
        walk_at "go"
        refine st_Job_first T (s14 _ _ h13) fun H15 k15 h15 => ?_
        walk_at "go"
        have sF15 := same_of_new (sF13.trans s14) nx k15
        have Dx : D ≠ x := fun z => by rw [z, h13] at nD; cases nD
        have hx15 := s14 _ _ h13
        have kk : Keep [x] H H15 := fun b o q n => by
          have nb : b ≠ x := fun z => n (by rw [z]; exact List.mem_singleton.mpr rfl)
          refine k15 _ _ (s14 _ _ (s13 _ _ (s12 _ _ (s11 _ _ (k10 _ _ (k9 _ _ (k8 _ _ (s7 _ _ (k6 _ _ (k5 _ _ (s4 _ _ (s3 _ _ (s02 _ _ q))) (nin1 nb)) (nin1 nb))) (nin1 nb)) (nin1 nb)) (nin1 nb)))))) (nin1 nb)
        refine k H15 kk ⟨ok, hR, dx, g, tm, tl, D, t, ks, h15, G'.same sF15, TmA.same sF15 ht', hk, hn, mv hx15 (fun _ z => nomatch z) (fun _ z => nomatch z) k15 (hl13.same s14), hz, by omega, rs', by rw [← ea]; exact k15 _ _ hD (nin1 Dx), ?_, ?_, fun r hr0 => ?_⟩
        · rw [el, List.length_map]
          exact r2
        · rw [el, List.length_map]
          exact r3
        · obtain ⟨q1, ns', q2, q3⟩ := hr r hr0
          have rx : r ≠ x := fun z => by rw [z, h13] at q1; cases q1
          exact ⟨ns', k15 _ _ q2 (nin1 rx), q3⟩
end
end
section
set_option maxHeartbeats 4000000
section
variable {P : Program} {w : World} {K : PySem.W.Frag} {mg : Str → Option Value} {base : Heap}
/-! the number of all spots -/
def spAllS : Sp := fun vs H Q _ => ∃ (j : Addr) (sz : List Int) (R : Nat), vs = [.ref j] ∧ JobA H j sz R ∧ ∀ H' l (xs : List V), Same H H' → H' l = some (.lst xs) → xs.length = (spotsF R sz).length → Q (.ref l) H'
theorem sc37 : FnScope ["self", "found", "turn", "place"] ["self"] (C8.fnScope st37) := C8.fnScope_by (by decide +kernel)
theorem ok_Job_all_spots (T : Txt K mg) : C8.Met P w K mg base 2 542 "all_spots" spAllS [] := by
  refine met_by (k := 1) (T.df 37 _ rfl) (c_Job T) (m_Job_all_spots T) sc37 (fun _ _ _ _ us hl => match us, hl with | [_], _ => rfl) (fun vs H Q E h => ?_) (fun A outer s H vs Q E hr o h => ?_)
  · obtain ⟨j, sz, R, rfl, _⟩ := h
    rfl
  · obtain ⟨j, sz, R, rfl, J, q⟩ := h
    obtain ⟨ok, hR, dx, g, tm, tl, fl, t, ks, hj, G, _⟩ := id J
    obtain ⟨_, gdx, gs, gr, ge, grk, hg, _⟩ := id G
    have hpl := places_len ok
    refine ⟨_, (pss_cons (ps_set (i := 1) (sc37).nd rfl (by first | exact Or.inl rfl | exact Or.inr rfl) (pe_lst (pa_mn pa_nil)))
      (pss_cons (ps_for PassesOwn.never rfl (pi_range2 (by rfl) (z_range T) (pa_cons pe_int (pa_cons (pe_op (op_self o) (pe_fldZ o (pv 0) rfl) pe_int) pa_nil))) (pg_name (i := 2) (sc37).nd (by rfl) (by first | exact Or.inl rfl | exact Or.inr rfl)) (pss_one (ps_expr (pe_bmZ o PySem.F.plainAttrs_list PySem.F.slot_list_extend PySem.F.type_list_extend (mt_self o) (pe_mn (pv 1)) (pa_cons (pe_lc (own := [("place", 3)]) rfl (sc37).nd (pi_listZ o (C8.pe_mt0 (ok_Grid_all_places (P := P) (w := w) T) hr (by decide) (pe_fldZ o (pv 0) rfl))) (blkOk_by (own := [("place", 3)]) (by kernel_rfl)) (fun _ _ _ _ _ => pg_mn (pg_name (i := 3) (sc37).nd (by rfl) (by first | exact Or.inl rfl | exact Or.inr rfl))) (fun _ _ _ _ _ => pts_mn pts_nil) (fun _ _ _ _ _ => pe_mn (pe_tup (pa_mn (pa_cons (pv 2) (pa_cons (pv 3) pa_nil)))))) pa_nil)))))
      (pss_one (ps_ret (pv 1))))), ?_⟩
    walk_at "go"
    refine ⟨len0, fun m H1 n1 s1 h1 => ?_⟩
    walk_at "go"
    refine forR2 (n := R) (a := 1) (by omega) (by omega) (by omega) (fun i σ H' => Same H H' ∧ ∃ (xs : List V) (a b : Option V), σ = [some (.ref j), some (.ref m), a, b] ∧ H' m = some (.lst xs) ∧ xs.length = i * (placesF sz).length) ⟨s1, [], _, _, rfl, h1, by simp⟩ (fun i σ H' hi ⟨e, xs, a, b, es, hm, hz⟩ => ?_) (fun σ H' ⟨e, xs, a, b, es, hm, hz⟩ => ?_)
    · subst es
      have hg' := e _ _ hg
      walk_at "go"
      refine ⟨g, sz, rfl, G.same e, fun H2 l pk s2 nl hl hpz => ?_⟩
      have hl1 := hl.1
      have hlen : (PlL.vs pk).length = (placesF sz).length := by rw [← hpz]; simp [PlL.vs, PlL.zs]
      walk_at "go"
      refine lcL (a := l) (xs := PlL.vs pk) [] (fun D j acc H' => acc.length = j) (by omega) hl1 (by simp) (fun D H' nD sD hD => rfl) (fun D j x acc H5 nD hx hlj k5 hD ea => ?_) (fun D acc H5 nD hl5 k5 hD ea => ?_)
      · walk_at "go"
        refine ⟨len2, fun t6 H6 n6 s6 h6 => ?_⟩
        exact ⟨s6 _ _ hD, same_k0 ((keep0 k5).trans s6), fun H8 k8 h8 => by simp [ea]⟩
      · have s5 := keep0 k5
        have hm5 := s5 _ _ (s2 _ _ hm)
        walk_at "go"
        have l1 : xs.length ≤ 30 := by
          rw [hz]
          calc i * (placesF sz).length ≤ 5 * 6 := Nat.mul_le_mul (by omega) hpl.1
            _ = 30 := rfl
        refine v_ext hm5 hD (bigL (by omega)) fun H6 k6 h6 => ?_
        walk_at "go"
        refine ⟨same_of_new ((e.trans s2).trans s5) n1 k6, xs ++ acc, _, _, rfl, h6, ?_⟩
        rw [List.length_append, hz, ea, hlen, Nat.succ_mul]
    · subst es
      walk_at "go"
      exact q H' m xs e hm (by rw [hz, spotsF_len])
def spIsSpot : Sp := fun vs H Q _ => ∃ (j p : Addr) (sz : List Int) (R : Nat) (z : Sp2), vs = [.ref j, .ref p] ∧ JobA H j sz R ∧ SpA H p z ∧ SpOk R sz z ∧ ∀ H', Same H H' → Q (.bl true) H'
theorem sc38 : FnScope ["self", "thing"] ["self", "thing"] (C8.fnScope st38) := C8.fnScope_by (by decide +kernel)
theorem ok_Job_is_spot (T : Txt K mg) : C8.Met P w K mg base 4 542 "is_spot" spIsSpot [] := by
  refine met_by (k := 3) (T.df 38 _ rfl) (c_Job T) (m_Job_is_spot T) sc38 (fun _ _ _ _ us hl => match us, hl with | [_, _], _ => rfl) (fun vs H Q E h => ?_) (fun A outer s H vs Q E hr o h => ?_)
  · obtain ⟨j, p, sz, R, z, rfl, _⟩ := h
    rfl
  · obtain ⟨j, p, sz, R, z, rfl, J, ⟨pb, hp1, hp2⟩, ⟨z1, z2, z3⟩, q⟩ := h
    obtain ⟨ok, hR, dx, g, tm, tl, fl, t, ks, hj, G, _⟩ := id J
    obtain ⟨_, gdx, gs, gr, ge, grk, hg, _⟩ := id G
    refine ⟨_, (pss_cons (ps_if (PW.pt (pw_or (pt_not (pt_val (pe_callB (cr_self o) (by rfl) (z_isinstance T) b_isinstance (pa_cons (pv 1) (pa_cons (pe_bltn (v := .ty "tuple") (by rfl) (z_tuple T) b_tuple rfl) pa_nil))))) (pw_or1 (pt_cmpR (op_self o) (pe_callB (cr_self o) (by rfl) (z_len T) b_len (pa_cons (pv 1) pa_nil)) pe_int (nomark _))))) (pss_one (ps_ret pe_bl)) pss_nil)
      (pss_one (ps_ret (pe_and (C8.pe_c (ok_is_between (P := P) (w := w) T) hr (by decide) (by rfl) (pa_cons (pe_ix (ix_self o) (pv 1) pe_int (fun _ _ => rfl)) (pa_cons pe_int (pa_cons (pe_fldZ o (pv 0) rfl) pa_nil)))) (pe_one (C8.pe_mt (ok_Grid_has_place (P := P) (w := w) T) hr (by decide) (pe_fldZ o (pv 0) rfl) (pa_cons (pe_ix (ix_self o) (pv 1) pe_int (fun _ _ => rfl)) pa_nil))))))), ?_⟩
    walk_at "go"
    refine ⟨z.1, 1, _, rfl, z1, z2, ?_⟩
    walk_at "go"
    exact ⟨g, pb, sz, z.2, rfl, G, hp2, z3, fun H' s' => q H' s'⟩
/-! ### where a take leads from a spot -/
def WhA (H : Hp) (sz : List Int) (p : Addr) (d : Int) : Prop := H p = some (.tup [.str "rim", .int 7]) ∨ (∃ q y, H p = some (.tup [.str "spot", .ref q]) ∧ SpA H q y ∧ y.1 = d ∧ 0 < d ∧ plOk sz y.2) ∨ ∃ q y, H p = some (.tup [.str "first", .ref q]) ∧ SpA H q y ∧ y.1 = d ∧ d ≤ 0 ∧ plOk sz y.2
theorem WhA.nol {H H' : Hp} {sz : List Int} {p : Addr} {d : Int} (h : WhA H sz p d) (n : Nol H H') : WhA H' sz p d := by
  rcases h with h | ⟨q, y, h, h1, h2⟩ | ⟨q, y, h, h1, h2⟩
  · exact .inl (n _ _ h rfl)
  · exact .inr (.inl ⟨q, y, n _ _ h rfl, h1.nol n, h2⟩)
  · exact .inr (.inr ⟨q, y, n _ _ h rfl, h1.nol n, h2⟩)
def spWhere : Sp := fun vs H Q _ => ∃ (j p t : Addr) (sz : List Int) (R : Nat) (z y : Sp2), vs = [.ref j, .ref p, .ref t] ∧ JobA H j sz R ∧ SpA H p z ∧ SpOk R sz z ∧ SpA H t y ∧ TkOk sz y ∧ ∀ H' wh, Same H H' → WhA H' sz wh (z.1 - y.1) → Q (.ref wh) H'
theorem sc39 : FnScope ["self", "spot", "take", "word", "there", "turn"] ["self", "spot", "take"] (C8.fnScope st39) := C8.fnScope_by (by decide +kernel)
theorem ok_Job_where_of (T : Txt K mg) : C8.Met P w K mg base 3 542 "where_of" spWhere [] := by
  refine met_by (k := 2) (T.df 39 _ rfl) (c_Job T) (m_Job_where_of T) sc39 (fun _ _ _ _ us hl => match us, hl with | [_, _, _], _ => rfl) (fun vs H Q E h => ?_) (fun A outer s H vs Q E hr o h => ?_)
  · obtain ⟨j, p, t, sz, R, z, y, rfl, _⟩ := h
    rfl
  · obtain ⟨j, p, t, sz, R, z, y, rfl, J, ⟨pb, hp1, hp2⟩, ⟨z1, z2, z3⟩, ⟨tb, ht1, ht2⟩, hy, q⟩ := h
    obtain ⟨ok, hR, dx, g, tm, tl, fl, t', ks, hj, G, _⟩ := id J
    obtain ⟨_, gdx, gs, gr, ge, grk, hg, _⟩ := id G
    refine ⟨_, (pss_cons (ps_asg (C8.pe_mt (ok_Grid_beside (P := P) (w := w) T) hr (by decide) (pe_fldZ o (pv 0) rfl) (pa_cons (pe_ix (ix_self o) (pv 1) pe_int (fun _ _ => rfl)) (pa_cons (pe_ix (ix_self o) (pv 2) pe_int (fun _ _ => rfl)) pa_nil))) (pg_tupZ (n := 2) o (pgs_cons (pg_name (i := 3) (sc39).nd (by rfl) (by first | exact Or.inl rfl | exact Or.inr rfl)) (pgs_cons (pg_name (i := 4) (sc39).nd (by rfl) (by first | exact Or.inl rfl | exact Or.inr rfl)) pgs_nil))))
      (pss_cons (ps_if (pt_cmpR (op_self o) (pv 3) pe_str (nomark _)) (pss_one (ps_ret (pe_tup (pa_mn (pa_cons (pv 3) (pa_cons (pv 4) pa_nil)))))) pss_nil)
      (pss_cons (ps_set (i := 5) (sc39).nd rfl (by first | exact Or.inl rfl | exact Or.inr rfl) (pe_op (op_self o) (pe_ix (ix_self o) (pv 1) pe_int (fun _ _ => rfl)) (pe_ix (ix_self o) (pv 2) pe_int (fun _ _ => rfl))))
      (pss_cons (ps_if (pt_cmpR (op_self o) (pv 5) pe_int (nomark _)) (pss_one (ps_ret (pe_tup (pa_mn (pa_cons pe_str (pa_cons (pe_tup (pa_mn (pa_cons (pv 5) (pa_cons (pv 4) pa_nil)))) pa_nil)))))) pss_nil)
      (pss_one (ps_ret (pe_tup (pa_mn (pa_cons pe_str (pa_cons (pe_tup (pa_mn (pa_cons (pv 5) (pa_cons (pv 4) pa_nil)))) pa_nil)))))))))), ?_⟩
    walk_at "go"
    refine ⟨g, pb, tb, sz, z.2, y.2, rfl, G, hp2, z3, ht2, hy.2.2.1, fun T1 H1 s1 h1 => ?_, fun T1 a pl H1 s1 h1 ha hpl => ?_⟩
    · walk_at "go"
      refine ⟨len2, fun t6 H6 n6 s6 h6 => ?_⟩
      exact q H6 t6 (s1.trans s6) (.inl h6)
    · walk_at "go"
      refine iteD (fun hb => ?_) (fun hb => ?_)
      · walk_at "go"
        refine ⟨len2, fun t6 H6 n6 s6 h6 => ?_⟩
        walk_at "go"
        refine ⟨len2, fun t7 H7 n7 s7 h7 => ?_⟩
        exact q H7 t7 (s1.trans (s6.trans s7)) (.inr (.inl ⟨t6, (z.1 - y.1, pl), h7, ⟨a, s7 _ _ h6, s7 _ _ (s6 _ _ ha)⟩, rfl, hb, hpl⟩))
      · walk_at "go"
        refine ⟨len2, fun t6 H6 n6 s6 h6 => ?_⟩
        walk_at "go"
        refine ⟨len2, fun t7 H7 n7 s7 h7 => ?_⟩
        exact q H7 t7 (s1.trans (s6.trans s7)) (.inr (.inr ⟨t6, (z.1 - y.1, pl), h7, ⟨a, s7 _ _ h6, s7 _ _ (s6 _ _ ha)⟩, rfl, by omega, hpl⟩))
/-- the reads of a spot: (take, where) in the order of the takes -/
def RdsA (H : Hp) (sz : List Int) (l : Addr) (z : Sp2) (ks : SpL) : Prop := ∃ rs : List (Addr × Addr), H l = some (.lst (rs.map fun r => V.ref r.1)) ∧ rs.length = ks.length ∧ ∀ (i : Nat) (r : Addr × Addr) (p : Addr × Sp2), rs[i]? = some r → ks[i]? = some p → H r.1 = some (.tup [.ref p.1, .ref r.2]) ∧ WhA H sz r.2 (z.1 - p.2.1)
/-- the job's takes -/
def JTk (H : Hp) (j : Addr) (ks : SpL) : Prop := ∃ dx v0 v1 tl v3 v4 v5, H j = some (o_Job dx v0 v1 (.ref tl) v3 v4 v5) ∧ LSp H tl ks
def spReads : Sp := fun vs H Q _ => ∃ (j p : Addr) (sz : List Int) (R : Nat) (z : Sp2), vs = [.ref j, .ref p] ∧ JobA H j sz R ∧ SpA H p z ∧ SpOk R sz z ∧ ∀ H' l (ks : SpL), Same H H' → H l = none → JTk H j ks → (∀ p ∈ ks, TkOk sz p.2) → ks.length ≤ 3 → RdsA H' sz l z ks → Q (.ref l) H'
theorem sc40 : FnScope ["self", "spot", "take"] ["self", "spot"] (C8.fnScope st40) := C8.fnScope_by (by decide +kernel)
theorem ok_Job_reads_of (T : Txt K mg) : C8.Met P w K mg base 4 542 "reads_of" spReads [] := by
  refine met_by (k := 3) (T.df 40 _ rfl) (c_Job T) (m_Job_reads_of T) sc40 (fun _ _ _ _ us hl => match us, hl with | [_, _], _ => rfl) (fun vs H Q E h => ?_) (fun A outer s H vs Q E hr o h => ?_)
  · obtain ⟨j, p, sz, R, z, rfl, _⟩ := h
    rfl
  · obtain ⟨j, p, sz, R, z, rfl, J, hp, hz, q⟩ := h
    obtain ⟨ok, hR, dx, g, tm, tl, fl, t', ks, hj, G, ht, hk, hn, hl, hzz, hfew, hF⟩ := id J
    have hl1 := hl.1
    have htk : ∀ p ∈ ks, TkOk sz p.2 := fun p hp => Tm.tks_ok hk p.2 ((hzz _).mp (List.mem_map.mpr ⟨p, hp, rfl⟩))
    refine ⟨_, (pss_one (ps_ret (pe_lc (own := [("take", 2)]) rfl (sc40).nd (pi_listZ o (pe_fldZ o (pv 0) rfl)) (blkOk_by (own := [("take", 2)]) (by kernel_rfl)) (fun _ _ _ _ _ => pg_mn (pg_name (i := 2) (sc40).nd (by rfl) (by first | exact Or.inl rfl | exact Or.inr rfl))) (fun _ _ _ _ _ => pts_mn pts_nil) (fun _ _ _ _ _ => pe_mn (pe_tup (pa_mn (pa_cons (pv 2) (pa_cons (C8.pe_mt (ok_Job_where_of (P := P) (w := w) T) hr (by decide) (pv 0) (pa_cons (pv 1) (pa_cons (pv 2) pa_nil))) pa_nil)))))))), ?_⟩
    walk_at "go"
    refine lcL (a := tl) (xs := ks.vs) [] (fun D i acc H' => ∃ rs : List (Addr × Addr), acc = rs.map (fun r => V.ref r.1) ∧ rs.length = i ∧ ∀ (i : Nat) (r : Addr × Addr) (p : Addr × Sp2), rs[i]? = some r → ks[i]? = some p → H' r.1 = some (.tup [.ref p.1, .ref r.2]) ∧ WhA H' sz r.2 (z.1 - p.2.1)) (by simp only [SpL.vs, List.length_map]; omega) hl1 (by simp) (fun D H' nD sD hD => ⟨[], rfl, rfl, fun i r p h => by simp at h⟩) (fun D i x acc H5 nD hx hlj k5 hD ⟨rs, ea, el, hrs⟩ => ?_) (fun D acc H5 nD hl5 k5 hD ⟨rs, ea, el, hrs⟩ => ?_)
    · have s5 := keep0 k5
      obtain ⟨tp, htp, rfl⟩ := map_at hx
      have htm := List.mem_of_getElem? htp
      walk_at "go"
      refine ⟨j, p, tp.1, sz, R, z, tp.2, rfl, J.same s5, hp.same s5, hz, (hl.2 tp htm).same s5, htk tp htm, fun H6 wh s6 hwh => ?_⟩
      walk_at "go"
      refine ⟨len2, fun t7 H7 n7 s7 h7 => ?_⟩
      refine ⟨s7 _ _ (s6 _ _ hD), same_k0 (s5.trans (s6.trans s7)), fun H8 k8 h8 => ⟨rs ++ [(t7, wh)], by rw [ea]; simp, by simp [el], fun i' r p' e1 e2 => ?_⟩⟩
      have nl8 := k8.nolL (s7 _ _ (s6 _ _ hD))
      rcases app_at e1 with q1 | ⟨q1, q2⟩
      · obtain ⟨g1, g2⟩ := hrs i' r p' q1 e2
        exact ⟨nl8 _ _ (s7 _ _ (s6 _ _ g1)) rfl, g2.nol ((same_nol (s6.trans s7)).trans nl8)⟩
      · subst q2
        rw [q1, el] at e2
        rw [htp] at e2
        cases e2
        exact ⟨nl8 _ _ h7 rfl, hwh.nol ((same_nol s7).trans nl8)⟩
    · refine q H5 D ks (keep0 k5) nD ⟨dx, _, _, tl, _, _, _, hj, hl⟩ htk hfew ⟨rs, by rw [← ea]; exact hD, ?_, hrs⟩
      rw [el]
      simp [SpL.vs]
/-! ### the worths of the first turns -/
theorem v_idxP {H : Hp} {Q : VK} {l p : Addr} {ks : PlL} {pl : List Int} (hl : LPl H l ks) (hp : H p = some (.tup (pl.map V.int))) (hm : pl ∈ ks.zs) (q : ∀ j : Nat, j < ks.length → Q (.int j) H) : MtV P w K "list.index" (.ref l) [.ref p] H Q := by
  intro X o
  obtain ⟨rfl, rfl, rfl, hc, hu⟩ := o
  have dpl : ∀ ks : PlL, (∀ p ∈ ks, H p.1 = some (.tup (p.2.map V.int))) → DpAll X.K H ks.vs (ks.zs.map fun pl => .tuple (pl.map .int)) := by
    intro ks
    induction ks with
    | nil => intro _; exact .nil
    | cons p ks ih => intro h; exact .cons (.tup (SqT.of (h p List.mem_cons_self)) (dp_ints _)) (ih fun q hq => h q (List.mem_cons_of_mem _ hq))
  have eqv : ∀ a b : List Int, PyData.eqv (.tuple (a.map .int)) (.tuple (b.map .int)) = decide (a = b) := fun a b => by rw [PyData.eqv]; exact eqv_ints a b
  have sh : ∀ pl : List Int, SeqAt.shaped (.tuple (pl.map .int)) = true := fun pl => by
    show (PyData.canLay0 (.tuple (pl.map .int)) && decide (PyData.depth (.tuple (pl.map .int)) ≤ 64)) = true
    simp [PyData.canLay0, ints_lay, PyData.depth, depthInts]
  have sh2 : ∀ pls : List (List Int), PyData.canLayAll0 (pls.map fun pl => PyData.tuple (pl.map .int)) = true ∧ PyData.depthAll (pls.map fun pl => PyData.tuple (pl.map .int)) ≤ 1 := by
    intro pls
    induction pls with
    | nil => simp [PyData.canLayAll0, PyData.depthAll]
    | cons a pls ih =>
      simp only [List.map_cons, PyData.canLayAll0, PyData.depthAll, PyData.canLay0, PyData.depth, ints_lay, depthInts, ih.1, Bool.and_self, true_and]
      have := ih.2
      omega
  have sh3 : SeqAt.shaped (.list (ks.zs.map fun pl => PyData.tuple (pl.map .int))) = true := by
    obtain ⟨h1, h2⟩ := sh2 ks.zs
    show (PyData.canLay0 _ && decide (PyData.depth _ ≤ 64)) = true
    rw [Bool.and_eq_true]
    exact ⟨by simp only [PyData.canLay0]; exact h1, decide_eq_true (by simp only [PyData.depth]; omega)⟩
  have first : ∀ zs : List (List Int), pl ∈ zs → ∃ j : Nat, zs[j]? = some pl ∧ ∀ m : Nat, m < j → ∀ z, zs[m]? = some z → z ≠ pl := by
    intro zs
    induction zs with
    | nil => intro h; simp at h
    | cons y zs ih =>
      intro h
      by_cases e : y = pl
      · exact ⟨0, by rw [e]; rfl, fun m hm => absurd hm (Nat.not_lt_zero _)⟩
      · obtain ⟨j, h1, h2⟩ := ih ((List.mem_cons.mp h).resolve_left fun z => e z.symm)
        refine ⟨j + 1, by simpa using h1, fun m hm z hz => ?_⟩
        cases m with
        | zero =>
          have hz : y = z := Option.some.inj hz
          rw [← hz]
          exact e
        | succ m => exact h2 m (Nat.lt_of_succ_lt_succ hm) z (by simpa using hz)
  obtain ⟨j, hj, hno⟩ := first ks.zs hm
  have hjl : j < ks.length := by
    have := (List.getElem?_eq_some_iff.mp hj).1
    simpa [PlL.zs] using this
  refine ⟨_, mt_indexD (by omega), ⟨l, .ref p, .tuple (pl.map .int), _, j, .tuple (pl.map .int), rfl, rfl, .lst (SqL.of hl.1) (dpl ks hl.2), .tup (SqT.of hp) (dp_ints _), sh3, sh pl, ?_, ?_, fun m z' hm hz' => ?_, q j hjl⟩⟩
  · rw [List.getElem?_map, hj]
    rfl
  · rw [eqv]
    simp
  · rw [List.getElem?_map] at hz'
    cases e : ks.zs[m]? with
    | none => rw [e] at hz'; cases hz'
    | some y =>
      rw [e] at hz'
      cases hz'
      rw [eqv]
      exact decide_eq_false (hno m hm y e)
def spFW1 : Sp := fun vs H Q _ => ∃ (j p : Addr) (sz : List Int) (R : Nat) (t : Int) (pl : List Int), vs = [.ref j, .int t, .ref p] ∧ JobA H j sz R ∧ H p = some (.tup (pl.map V.int)) ∧ plOk sz pl ∧ t ≤ 0 ∧ (∃ ks, JTk H j ks ∧ ∃ y ∈ ks, 1 - y.2.1 ≤ t) ∧ ∀ H' i, Same H H' → 0 ≤ i → i ≤ 96 → Q (.int i) H'
theorem sc41 : FnScope ["self", "turn", "place"] ["self", "turn", "place"] (C8.fnScope st41) := C8.fnScope_by (by decide +kernel)
theorem neg_at {α : Type} {xs : List α} {i : Int} (h0 : i < 0) (h1 : -(xs.length : Int) ≤ i) : ∃ v, v ∈ xs ∧ atI xs i = some v := by
  have hk : xs.length - (-i).toNat < xs.length := by omega
  refine ⟨xs[xs.length - (-i).toNat], List.getElem_mem hk, ?_⟩
  unfold atI ixN
  rw [if_neg (by omega), if_pos (by omega)]
  simp only [Option.bind_some]
  have e : ((xs.length : Int) + i).toNat = xs.length - (-i).toNat := by omega
  first
  | (rw [show (i + (xs.length : Int)).toNat = xs.length - (-i).toNat by omega]; exact List.getElem?_eq_getElem hk)
  | (rw [e]; exact List.getElem?_eq_getElem hk)
theorem ok_Job_first_worth (T : Txt K mg) : C8.Met P w K mg base 2 542 "first_worth" spFW1 [] := by
  refine met_by (k := 1) (T.df 41 _ rfl) (c_Job T) (m_Job_first_worth T) sc41 (fun _ _ _ _ us hl => match us, hl with | [_, _, _], _ => rfl) (fun vs H Q E h => ?_) (fun A outer s H vs Q E hr o h => ?_)
  · obtain ⟨j, p, sz, R, t, pl, rfl, _⟩ := h
    rfl
  · obtain ⟨j, p, sz, R, t, pl, rfl, J, hp, hpl, ht, ⟨ks0, ⟨dx0, v0, v1, tl0, v3, v4, v5, hj0, hl0⟩, y, hy, hty⟩, q⟩ := h
    obtain ⟨ok, hR, dx, g, tm, tl, fl, t', ks, hj, G, _, hk, hn, hl, hzz, hfew, rs, r1, r2, r3, r4⟩ := id J
    obtain ⟨_, gdx, gs, gr, ge, grk, hg, _⟩ := id G
    have etl : ks0.zs = ks.zs := by
      rw [hj] at hj0
      have e1 := Option.some.inj hj0
      have e2 : fs6_Job (.ref g) (.ref tm) (.ref tl) (.int 97) (.int R) (.ref fl) = fs6_Job v0 v1 (.ref tl0) v3 v4 v5 := by injection e1
      have e3 := congrArg (fun fs => List.lookup ("taken" : Str) fs) e2
      have e4 : (fs6_Job (.ref g) (.ref tm) (.ref tl) (.int 97) (.int R) (.ref fl)).lookup ("taken" : Str) = some (.ref tl) := by kernel_rfl
      have e5 : (fs6_Job v0 v1 (.ref tl0) v3 v4 v5).lookup ("taken" : Str) = some (.ref tl0) := by kernel_rfl
      simp only [e4, e5, Option.some.injEq, V.ref.injEq] at e3
      subst e3
      have e6 := hl.1.symm.trans hl0.1
      have e7 : SpL.vs ks = SpL.vs ks0 := by injection e6 with e6; injection e6
      have sp1 : ∀ {a : Addr} {z z' : Sp2}, SpA H a z → SpA H a z' → z = z' := fun {a z z'} ⟨b, x1, x2⟩ ⟨b', y1, y2⟩ => by
        rw [x1] at y1
        have e := Option.some.inj y1
        injection e with e
        simp only [List.cons.injEq, V.int.injEq, V.ref.injEq, and_true] at e
        obtain ⟨ea, eb⟩ := e
        subst eb
        rw [x2] at y2
        have e' := Option.some.inj y2
        injection e' with e'
        have inj : ∀ {a b : List Int}, a.map V.int = b.map V.int → a = b := by
          intro a
          induction a with
          | nil => intro b h; cases b with
            | nil => rfl
            | cons _ _ => simp at h
          | cons x a ih => intro b h; cases b with
            | nil => simp at h
            | cons y b => simp only [List.map_cons, List.cons.injEq, V.int.injEq] at h; rw [h.1, ih h.2]
        exact Prod.ext ea (inj e')
      have key : ∀ (a b : SpL), SpL.vs a = SpL.vs b → (∀ p ∈ a, SpA H p.1 p.2) → (∀ p ∈ b, SpA H p.1 p.2) → b.zs = a.zs := by
        intro a
        induction a with
        | nil => intro b h _ _; cases b with
          | nil => rfl
          | cons _ _ => simp [SpL.vs] at h
        | cons x a ih => intro b h h1 h2; cases b with
          | nil => simp [SpL.vs] at h
          | cons y b =>
            simp only [SpL.vs, List.map_cons, List.cons.injEq, V.ref.injEq] at h
            have := ih b h.2 (fun p hp => h1 p (List.mem_cons_of_mem _ hp)) (fun p hp => h2 p (List.mem_cons_of_mem _ hp))
            have e0 := sp1 (h1 x List.mem_cons_self) (by rw [h.1]; exact h2 y List.mem_cons_self)
            simp only [SpL.zs, List.map_cons] at this ⊢
            rw [this, e0]
      exact key ks ks0 e7 hl.2 hl0.2
    have hd : y.2.1 ≤ deepF ks.zs := by
      rw [← etl]
      exact le_mxd (List.mem_map.mpr ⟨y.2, List.mem_map.mpr ⟨y, hy, rfl⟩, rfl⟩)
    obtain ⟨v, hv, hat⟩ := neg_at (xs := rs.map V.ref) (i := t - 1) (by omega) (by rw [List.length_map]; omega)
    obtain ⟨r, hr0, rfl⟩ := List.mem_map.mp hv
    obtain ⟨ns, g1, g2, g3⟩ := r4 r hr0
    refine ⟨_, (pss_one (ps_ret (pe_ix (ix_self o) (pe_ix (ix_self o) (pe_fldZ o (pv 0) rfl) (pe_op (op_self o) (pv 1) pe_int) (fun _ _ => rfl)) (pe_bmZ o PySem.F.plainAttrs_list PySem.F.slot_list_index PySem.F.type_list_index (mt_self o) (pe_mn (C8.pe_mt0 (ok_Grid_all_places (P := P) (w := w) T) hr (by decide) (pe_fldZ o (pv 0) rfl))) (pa_cons (pv 2) pa_nil)) (fun _ _ => rfl)))), ?_⟩
    walk_at "go"
    refine ⟨g, sz, rfl, G, fun H1 l pk s1 nl hl' hz' => ?_⟩
    have hl1 := hl'.1
    have g1' := s1 _ _ g1
    walk_at "go"
    refine v_idxP hl' (s1 _ _ hp) (by rw [hz']; exact mem_placesF hpl) fun i hi => ?_
    have hin : i < ns.length := by
      rw [g2, ← hz']
      simpa [PlL.zs] using hi
    refine v_ixL g1' (v := .int ns[i]) (atI_nat (by rw [List.getElem?_map, List.getElem?_eq_getElem hin]; rfl)) ?_
    have b := g3 _ (List.getElem_mem hin)
    exact q H1 _ s1 b.1 b.2
end
end
section
set_option maxHeartbeats 4000000
/-! ### lists of things -/
def LO {α : Type} (R : Hp → Addr → α → Prop) (H : Hp) (l : Addr) (zs : List α) : Prop := ∃ as : List Addr, H l = some (.lst (as.map V.ref)) ∧ as.length = zs.length ∧ ∀ (i : Nat) (a : Addr) (z : α), as[i]? = some a → zs[i]? = some z → R H a z
theorem LO.same {α : Type} {R : Hp → Addr → α → Prop} (hR : ∀ {H H' : Hp} {a : Addr} {z : α}, R H a z → Same H H' → R H' a z) {H H' : Hp} {l : Addr} {zs : List α} (h : LO R H l zs) (s : Same H H') : LO R H' l zs := by
  obtain ⟨as, h1, h2, h3⟩ := h
  exact ⟨as, s _ _ h1, h2, fun i a z x y => hR (h3 i a z x y) s⟩
def LIn (H : Hp) (a : Addr) (ns : List Int) : Prop := H a = some (.lst (ns.map V.int))
def LSz (H : Hp) (a : Addr) (zs : List Sp2) : Prop := ∃ ks : SpL, LSp H a ks ∧ ks.zs = zs
def PrA (H : Hp) (a : Addr) (z : Int × Int) : Prop := H a = some (.tup [.int z.1, .int z.2])
theorem LIn.same {H H' : Hp} {a : Addr} {ns : List Int} (h : LIn H a ns) (s : Same H H') : LIn H' a ns := s _ _ h
theorem LSz.same {H H' : Hp} {a : Addr} {zs : List Sp2} (h : LSz H a zs) (s : Same H H') : LSz H' a zs := by
  obtain ⟨ks, h, e⟩ := h
  exact ⟨ks, h.same s, e⟩
theorem PrA.same {H H' : Hp} {a : Addr} {z : Int × Int} (h : PrA H a z) (s : Same H H') : PrA H' a z := s _ _ h
section
variable {P : Program} {w : World} {K : PySem.W.Frag} {mg : Str → Option Value} {base : Heap}
/-! ### leans_of -/
def spLeansOf : Sp := fun vs H Q _ => ∃ (j p : Addr) (sz : List Int) (R : Nat) (z : Sp2), vs = [.ref j, .ref p] ∧ JobA H j sz R ∧ SpA H p z ∧ SpOk R sz z ∧ ∀ H' l (ks : SpL), Same H H' → H l = none → LSp H' l ks → (∀ y ∈ ks.zs, SpOk R sz y ∧ y.1 < z.1) → ks.length ≤ 3 → Q (.ref l) H'
theorem sc59 : FnScope ["job", "spot", "take", "where"] ["job", "spot"] (C8.fnScope st59) := C8.fnScope_by (by decide +kernel)
theorem ok_leans_of (T : Txt K mg) : C8.Cal P w K mg base 5 "leans_of" spLeansOf [] := by
  refine cal_by (k := 4) (T.df 59 _ rfl) (g_leans_of T) sc59 (fun _ _ _ _ us hl => match us, hl with | [_, _], _ => rfl) (fun vs H Q E h => ?_) (fun A outer s H vs Q E hr o h => ?_)
  · obtain ⟨j, p, sz, R, z, rfl, _⟩ := h
    rfl
  · obtain ⟨j, p, sz, R, z, rfl, J, hp, hz, q⟩ := h
    obtain ⟨_, _, jdx, jg, jtm, jtl, jfl, jt, jks, hj, _⟩ := id J
    refine ⟨_, (pss_one (ps_ret (pe_callB (cr_self o) (by rfl) (z_sorted T) b_sorted (pa_cons (pe_callTy (cr_self o) (by rfl) (z_set T) b_set (pa_cons (pe_lc (own := [("take", 2), ("where", 3)]) rfl (sc59).nd (pi_listZ o (C8.pe_mt (ok_Job_reads_of (P := P) (w := w) T) hr (by decide) (pv 0) (pa_cons (pv 1) pa_nil))) (blkOk_by (own := [("take", 2), ("where", 3)]) (by kernel_rfl)) (fun _ _ _ _ _ => pg_mn (pg_tupZ (n := 2) o.blk (pgs_cons (pg_name (i := 2) (sc59).nd (by rfl) (by first | exact Or.inl rfl | exact Or.inr rfl)) (pgs_cons (pg_name (i := 3) (sc59).nd (by rfl) (by first | exact Or.inl rfl | exact Or.inr rfl)) pgs_nil)))) (fun _ _ _ _ _ => pts_mn (pts_one (pt_cmpR (op_self o.blk) (pe_ix (ix_self o.blk) (pv 3) pe_int (fun _ _ => rfl)) pe_str (nomark _)))) (fun _ _ _ _ _ => pe_mn (pe_ix (ix_self o.blk) (pv 3) pe_int (fun _ _ => rfl)))) pa_nil)) pa_nil)))), ?_⟩
    walk_at "go"
    refine ⟨j, p, sz, R, z, rfl, J, hp, hz, fun H1 l ks s1 nl hJ htk hfew ⟨rs, h1, h2, h3⟩ => ?_⟩
    walk_at "go"
    refine lcL (a := l) (xs := rs.map fun r => V.ref r.1) [] (fun D i acc H' => ∃ k5 : SpL, acc = k5.vs ∧ k5.length ≤ i ∧ (∀ p ∈ k5, SpA H' p.1 p.2) ∧ ∀ y ∈ k5.zs, SpOk R sz y ∧ y.1 < z.1) (by rw [List.length_map]; omega) h1 (by simp) (fun D H' nD sD hD => ⟨[], rfl, Nat.le_refl _, fun p h => by simp at h, fun y h => by simp [SpL.zs] at h⟩) (fun D i x acc H5 nD hx hlj k5 hD ⟨ks5, ea, el, hsp, hok⟩ => ?_) (fun D acc H5 nD hl5 k5 hD ⟨ks5, ea, el, hsp, hok⟩ => ?_)
    · have s5 := keep0 k5
      obtain ⟨r, hr', rfl⟩ := map_at hx
      have hi := (List.getElem?_eq_some_iff.mp hr').1
      obtain ⟨kp, hkp⟩ : ∃ kp, ks[i]? = some kp := ⟨_, List.getElem?_eq_getElem (by omega)⟩
      obtain ⟨g1, g2⟩ := h3 i r kp hr' hkp
      have tk := htk kp (List.mem_of_getElem? hkp)
      have g1 := s5 _ _ g1
      have g2 := g2.nol (same_nol s5)
      rcases g2 with g2 | ⟨qq, y, g2, g3, g4, g5, g6⟩ | ⟨qq, y, g2, g3, g4, g5, g6⟩
      · walk_at "go"
        exact ⟨hD, k5, ks5, ea, by omega, hsp, hok⟩
      · walk_at "go"
        refine ⟨hD, k5, fun H6 k6 h6 => ⟨ks5 ++ [(qq, y)], by rw [ea, spL_app]; rfl, by rw [List.length_append]; show ks5.length + 1 ≤ i + 1; omega, LSp.app (l := l) hsp (k6.nolL hD) (g3.nol (k6.nolL hD)), fun y' hy' => ?_⟩⟩
        rw [spL_zapp] at hy'
        rcases List.mem_append.mp hy' with hy' | hy'
        · exact hok y' hy'
        · have : y' = y := by simpa [SpL.zs] using hy'
          subst this
          have := tk.1
          exact ⟨⟨by omega, by have := hz.2.1; omega, g6⟩, by omega⟩
      · walk_at "go"
        exact ⟨hD, k5, ks5, ea, by omega, hsp, hok⟩
    · have s5 := keep0 k5
      rw [List.length_map, h2] at el
      have hD' : LSp H5 D ks5 := ⟨by rw [← ea]; exact hD, hsp⟩
      walk_at "go"
      refine v_setS hD' (by omega) fun a L H6 n6 s6 h6 sub all nd => ?_
      walk_at "go"
      refine v_sortO h6 (fun p hp => (hsp p (sub p hp)).same s6) fun L' l7 H7 sub' el' n7 s7 h7 => ?_
      have e07 := s1.trans (s5.trans (s6.trans s7))
      refine q H7 l7 L' e07 (s1.free (s5.free (s6.free n7))) ⟨h7, fun p hp => ((hsp p (sub p (sub' p hp))).same s6).same s7⟩ (fun y hy => ?_) ?_
      · obtain ⟨p', hp', rfl⟩ := List.mem_map.mp hy
        exact hok _ (List.mem_map.mpr ⟨p', sub _ (sub' _ hp'), rfl⟩)
      · have : L.length ≤ ks5.length := by
          have e1 : L.length = (L.map (·.2)).length := by simp
          rw [e1]
          have e2 : ks5.length = (ks5.map (·.2)).length := by simp
          rw [e2]
          exact nd.length_le_of_subset fun x hx => by
            obtain ⟨p', hp', rfl⟩ := List.mem_map.mp hx
            exact List.mem_map.mpr ⟨p', sub p' hp', rfl⟩
        omega
/-! ### are_spots, are_pieces -/
def spAreS : Sp := fun vs H Q _ => ∃ (j l : Addr) (sz : List Int) (R : Nat) (zs : List Sp2), vs = [.ref j, .ref l] ∧ JobA H j sz R ∧ LSz H l zs ∧ zs.length ≤ 1000 ∧ (∀ z ∈ zs, SpOk R sz z) ∧ ∀ H', Same H H' → Q (.bl true) H'
theorem sc45 : FnScope ["job", "things", "thing"] ["job", "things"] (C8.fnScope st45) := C8.fnScope_by (by decide +kernel)
theorem ok_are_spots (T : Txt K mg) : C8.Cal P w K mg base 5 "are_spots" spAreS [] := by
  refine cal_by (k := 4) (T.df 45 _ rfl) (g_are_spots T) sc45 (fun _ _ _ _ us hl => match us, hl with | [_, _], _ => rfl) (fun vs H Q E h => ?_) (fun A outer s H vs Q E hr o h => ?_)
  · obtain ⟨j, l, sz, R, zs, rfl, _⟩ := h
    rfl
  · obtain ⟨j, l, sz, R, zs, rfl, J, ⟨ks, hl, rfl⟩, hlen, hok, q⟩ := h
    have hl1 := hl.1
    obtain ⟨_, _, jdx, jg, jtm, jtl, jfl, jt, jks, hj, _⟩ := id J
    refine ⟨_, (pss_one (ps_ret (pe_and (pe_callB (cr_self o) (by rfl) (z_isinstance T) b_isinstance (pa_cons (pv 1) (pa_cons (pe_bltn (v := .ty "list") (by rfl) (z_list T) b_list rfl) pa_nil))) (pe_one (pe_callB (cr_self o) (by rfl) (z_all T) b_all (pa_cons (pe_lc (own := [("thing", 2)]) rfl (sc45).nd (pi_listZ o (pv 1)) (blkOk_by (own := [("thing", 2)]) (by kernel_rfl)) (fun _ _ _ _ _ => pg_mn (pg_name (i := 2) (sc45).nd (by rfl) (by first | exact Or.inl rfl | exact Or.inr rfl))) (fun _ _ _ _ _ => pts_mn pts_nil) (fun _ _ _ _ _ => pe_mn (C8.pe_mt (ok_Job_is_spot (P := P) (w := w) T) hr (by decide) (pv 0) (pa_cons (pv 2) pa_nil)))) pa_nil)))))), ?_⟩
    walk_at "go"
    refine lcL (a := l) (xs := ks.vs) [] (fun D i acc H' => acc = (List.replicate i true).map V.bl) (by simp only [SpL.zs, List.length_map] at hlen; simp only [SpL.vs, List.length_map]; omega) hl1 (by simp) (fun D H' nD sD hD => rfl) (fun D i x acc H5 nD hx hlj k5 hD ea => ?_) (fun D acc H5 nD hl5 k5 hD ea => ?_)
    · have s5 := keep0 k5
      obtain ⟨p, hp, rfl⟩ := map_at hx
      have hpm := List.mem_of_getElem? hp
      walk_at "go"
      refine ⟨j, p.1, sz, R, p.2, rfl, J.same s5, (hl.2 p hpm).same s5, hok _ (List.mem_map.mpr ⟨p, hpm, rfl⟩), fun H6 s6 => ⟨s6 _ _ hD, same_k0 (s5.trans s6), fun H8 k8 h8 => ?_⟩⟩
      rw [ea, List.replicate_succ']
      simp
    · rw [ea] at hD
      refine v_all hD ?_
      have e2 : ((List.replicate (SpL.vs ks).length true).all id) = true := by simp
      rw [e2]
      exact q H5 (keep0 k5)
def spAreP : Sp := fun vs H Q _ => ∃ (j l : Addr) (sz : List Int) (R : Nat) (pcs : List (List Sp2)), vs = [.ref j, .ref l] ∧ JobA H j sz R ∧ LO LSz H l pcs ∧ pcs.length ≤ 120 ∧ (∀ pc ∈ pcs, pc ≠ [] ∧ pc.length ≤ 1000 ∧ ∀ z ∈ pc, SpOk R sz z) ∧ ∀ H', Same H H' → Q (.bl true) H'
theorem sc46 : FnScope ["job", "pieces", "piece"] ["job", "pieces"] (C8.fnScope st46) := C8.fnScope_by (by decide +kernel)
theorem ok_are_pieces (T : Txt K mg) : C8.Cal P w K mg base 6 "are_pieces" spAreP [] := by
  refine cal_by (k := 5) (T.df 46 _ rfl) (g_are_pieces T) sc46 (fun _ _ _ _ us hl => match us, hl with | [_, _], _ => rfl) (fun vs H Q E h => ?_) (fun A outer s H vs Q E hr o h => ?_)
  · obtain ⟨j, l, sz, R, zs, rfl, _⟩ := h
    rfl
  · obtain ⟨j, l, sz, R, pcs, rfl, J, ⟨as, h1, h2, h3⟩, hlen, hok, q⟩ := h
    refine ⟨_, (pss_cons (ps_if (PW.pt (pw_or (pt_not (pt_val (pe_callB (cr_self o) (by rfl) (z_isinstance T) b_isinstance (pa_cons (pv 1) (pa_cons (pe_bltn (v := .ty "list") (by rfl) (z_list T) b_list rfl) pa_nil))))) (pw_or1 (pt_cmpR (op_self o) (pe_callB (cr_self o) (by rfl) (z_len T) b_len (pa_cons (pv 1) pa_nil)) (C8.pe_gc (by rfl) (i_MOST_PIECES T)) (nomark _))))) (pss_one (ps_ret pe_bl)) pss_nil)
      (pss_one (ps_ret (pe_callB (cr_self o) (by rfl) (z_all T) b_all (pa_cons (pe_lc (own := [("piece", 2)]) rfl (sc46).nd (pi_listZ o (pv 1)) (blkOk_by (own := [("piece", 2)]) (by kernel_rfl)) (fun _ _ _ _ _ => pg_mn (pg_name (i := 2) (sc46).nd (by rfl) (by first | exact Or.inl rfl | exact Or.inr rfl))) (fun _ _ _ _ _ => pts_mn pts_nil) (fun _ _ _ _ _ => pe_mn (pe_and (C8.pe_c (ok_are_spots (P := P) (w := w) T) hr (by decide) (by rfl) (pa_cons (pv 0) (pa_cons (pv 2) pa_nil))) (pe_one (pe_cmpR (op_self o.blk) (pv 2) (pe_lst (pa_mn pa_nil)) (nomark _)))))) pa_nil))))), ?_⟩
    walk_at "go"
    refine lcL (a := l) (xs := as.map V.ref) [] (fun D i acc H' => acc = (List.replicate i true).map V.bl) (by rw [List.length_map]; omega) h1 (by simp) (fun D H' nD sD hD => rfl) (fun D i x acc H5 nD hx hlj k5 hD ea => ?_) (fun D acc H5 nD hl5 k5 hD ea => ?_)
    · have s5 := keep0 k5
      obtain ⟨a, ha, rfl⟩ := map_at hx
      have hi := (List.getElem?_eq_some_iff.mp ha).1
      obtain ⟨pc, hpc⟩ : ∃ pc, pcs[i]? = some pc := ⟨_, List.getElem?_eq_getElem (by omega)⟩
      obtain ⟨ne, hl', hsp⟩ := hok pc (List.mem_of_getElem? hpc)
      have hL := (h3 i a pc ha hpc).same s5
      walk_at "go"
      refine ⟨j, a, sz, R, pc, rfl, J.same s5, hL, hl', hsp, fun H6 s6 => ?_⟩
      obtain ⟨ks, hks, hz⟩ := hL.same s6
      walk_at "go"
      refine ⟨len0, fun e0 H7 n7 s7 h7 => ?_⟩
      walk_at "go"
      refine v_neE (hks.same s7) h7 ?_
      have e1 : ks.isEmpty = false := by
        cases ks with
        | nil => exact absurd hz.symm (by simpa [SpL.zs] using ne)
        | cons _ _ => rfl
      rw [e1]
      refine ⟨s7 _ _ (s6 _ _ hD), same_k0 (s5.trans (s6.trans s7)), fun H8 k8 h8 => ?_⟩
      rw [ea, List.replicate_succ']
      simp
    · rw [ea] at hD
      refine v_all hD ?_
      have e2 : ((List.replicate (as.map V.ref).length true).all id) = true := by simp
      rw [e2]
      exact q H5 (keep0 k5)
end
end
section
set_option maxHeartbeats 4000000
theorem rgV_eq (m : Nat) : rgV 0 (m : Int) = ((List.range m).map fun (i : Nat) => (i : Int)).map V.int := by
  unfold rgV
  simp
/-- a sorted list of the first numbers -/
theorem sorted_range {m : Nat} : ((List.range m).map fun (i : Nat) => (i : Int)).Pairwise (· ≤ ·) := by
  rw [List.pairwise_map]
  exact List.Pairwise.imp (fun {a b} h => by omega) List.pairwise_lt_range
theorem perm_sorted_eq : ∀ {a b : List Int}, a.Perm b → a.Pairwise (· ≤ ·) → b.Pairwise (· ≤ ·) → a = b := fun p h1 h2 => p.eq_of_pairwise (fun _ _ _ _ h h' => by omega) h1 h2
section
variable {P : Program} {w : World} {K : PySem.W.Frag} {mg : Str → Option Value} {base : Heap}
/-! ### are_hands -/
def spAreH : Sp := fun vs H Q _ => ∃ (l : Addr) (hs : List (List Int)) (m : Nat), vs = [.ref l, .int m] ∧ LO LIn H l hs ∧ 1 ≤ hs.length ∧ hs.length ≤ 4 ∧ m ≤ 60 ∧ (hs.flatten).Perm ((List.range m).map fun (i : Nat) => (i : Int)) ∧ ∀ H', Same H H' → Q (.bl true) H'
theorem sc47 : FnScope ["hands", "many", "met", "row", "piece"] ["hands", "many"] (C8.fnScope st47) := C8.fnScope_by (by decide +kernel)
theorem c_lstRg {σ : L2.St} {H : Hp} {Q : VK} {i : Nat} {m : Nat} (h : σ[i]? = some (some (.int m))) (hm : m ≤ 1000) (q : ∀ p H2, H p = none → Same H H2 → H2 p = some (.lst (((List.range m).map fun (i : Nat) => (i : Int)).map V.int)) → Q (.ref p) H2) : tLstRg (tRg1 (tVar i)) σ H Q := by
  refine ⟨_, h, m, rfl, ?_, fun p n => q p _ n (same_new n) (by rw [upd_same, rgV_eq])⟩
  unfold RgOk
  have := sizeLine_eq
  omega
theorem ok_are_hands (T : Txt K mg) : C8.Cal P w K mg base 2 "are_hands" spAreH [] := by
  refine cal_by (k := 1) (T.df 47 _ rfl) (g_are_hands T) sc47 (fun _ _ _ _ us hl => match us, hl with | [_, _], _ => rfl) (fun vs H Q E h => ?_) (fun A outer s H vs Q E hr o h => ?_)
  · obtain ⟨l, hs, m, rfl, _⟩ := h
    rfl
  · obtain ⟨l, hs, m, rfl, ⟨as, h1, h2, h3⟩, hl1, hl4, hm, hp, q⟩ := h
    have htot : hs.flatten.length = m := by rw [hp.length_eq]; simp
    refine ⟨_, (pss_cons (ps_if (PW.pt (pw_or (pt_not (pt_val (pe_callB (cr_self o) (by rfl) (z_isinstance T) b_isinstance (pa_cons (pv 0) (pa_cons (pe_bltn (v := .ty "list") (by rfl) (z_list T) b_list rfl) pa_nil))))) (pw_or1 (pt_not (pt_chain (op_self o) (op_self o) pe_int (pe_callB (cr_self o) (by rfl) (z_len T) b_len (pa_cons (pv 0) pa_nil)) (C8.pe_gc (by rfl) (i_MOST_HANDS T))))))) (pss_one (ps_ret pe_bl)) pss_nil)
      (pss_cons (ps_set (i := 2) (sc47).nd rfl (by first | exact Or.inl rfl | exact Or.inr rfl) (pe_lst (pa_mn pa_nil)))
      (pss_cons (ps_for PassesOwn.never rfl (pi_listZ o (pv 0)) (pg_name (i := 3) (sc47).nd (by rfl) (by first | exact Or.inl rfl | exact Or.inr rfl)) (pss_cons (ps_if (PW.pt (pw_or (pt_not (pt_val (pe_callB (cr_self o) (by rfl) (z_isinstance T) b_isinstance (pa_cons (pv 3) (pa_cons (pe_bltn (v := .ty "list") (by rfl) (z_list T) b_list rfl) pa_nil))))) (pw_or1 (pt_not (pt_val (pe_callB (cr_self o) (by rfl) (z_all T) b_all (pa_cons (pe_lc (own := [("piece", 4)]) rfl (sc47).nd (pi_listZ o (pv 3)) (blkOk_by (own := [("piece", 4)]) (by kernel_rfl)) (fun _ _ _ _ _ => pg_mn (pg_name (i := 4) (sc47).nd (by rfl) (by first | exact Or.inl rfl | exact Or.inr rfl))) (fun _ _ _ _ _ => pts_mn pts_nil) (fun _ _ _ _ _ => pe_mn (C8.pe_c (ok_is_below (P := P) (w := w) T) hr (by decide) (by rfl) (pa_cons (pv 4) (pa_cons (pv 1) pa_nil))))) pa_nil))))))) (pss_one (ps_ret pe_bl)) pss_nil)
      (pss_one (ps_set (i := 2) (sc47).nd rfl (by first | exact Or.inl rfl | exact Or.inr rfl) (pe_op (op_self o) (pv 2) (pv 3))))))
      (pss_one (ps_ret (pe_cmpR (op_self o) (pe_callB (cr_self o) (by rfl) (z_sorted T) b_sorted (pa_cons (pv 2) pa_nil)) (pe_listRg rfl (by rfl) (z_list T) (prg_1 (by rfl) (z_range T) (pv 1))) (nomark _))))))), ?_⟩
    walk_at "go"
    refine ⟨len0, fun e0 H1 n1 s1 g1 => ?_⟩
    walk_at "go"
    refine forL (a := l) (xs := as.map V.ref) (fun i σ H' => Same H H' ∧ ∃ (mt : Addr) (b : Option V), σ = [some (.ref l), some (.int m), some (.ref mt), b, none] ∧ H' mt = some (.lst ((hs.take i).flatten.map V.int))) ⟨s1, e0, _, rfl, g1⟩ (fun i σ H' hi ⟨e, _⟩ => e _ _ h1) (fun i x σ H2 hx ⟨e, mt, b, es, hmt⟩ => ?_) (fun σ H2 ⟨e, mt, b, es, hmt⟩ => ?_)
    · subst es
      obtain ⟨a, ha, rfl⟩ := map_at hx
      have hi := (List.getElem?_eq_some_iff.mp ha).1
      obtain ⟨ns, hns⟩ : ∃ ns, hs[i]? = some ns := ⟨_, List.getElem?_eq_getElem (by omega)⟩
      have g3 : H2 a = some (.lst (ns.map V.int)) := e _ _ (h3 i a ns ha hns)
      have mem : ∀ v ∈ ns, 0 ≤ v ∧ v < m := fun v hv => by
        have : v ∈ hs.flatten := List.mem_flatten.mpr ⟨ns, List.mem_of_getElem? hns, hv⟩
        obtain ⟨k, hk, rfl⟩ := List.mem_map.mp (hp.mem_iff.mp this)
        have := List.mem_range.mp hk
        omega
      have e1 : (hs.take (i + 1)).flatten = (hs.take i).flatten ++ ns := by rw [List.take_add_one, hns]; simp
      have e2 : ((hs.take (i + 1)).flatten).length ≤ hs.flatten.length := by
        conv => rhs; rw [← List.take_append_drop (i + 1) hs, List.flatten_append, List.length_append]
        omega
      have e3 := e2
      rw [e1, List.length_append] at e3
      walk_at "go"
      refine lcL (a := a) (xs := ns.map V.int) [] (fun D j acc H' => acc = (List.replicate j true).map V.bl) (by rw [List.length_map]; omega) g3 (by simp) (fun D H' nD sD hD => rfl) (fun D j x acc H5 nD hx hlj k5 hD ea => ?_) (fun D acc H5 nD hl5 k5 hD ea => ?_)
      · obtain ⟨v, hv, rfl⟩ := map_at hx
        have bb := mem v (List.mem_of_getElem? hv)
        walk_at "go"
        refine ⟨v, _, rfl, bb.1, bb.2, hD, k5, fun H8 k8 h8 => ?_⟩
        rw [ea, List.replicate_succ']
        simp
      · have s5 := keep0 k5
        rw [ea] at hD
        refine v_all hD ?_
        have e4 : ((List.replicate (ns.map V.int).length true).all id) = true := by simp
        rw [e4]
        walk_at "go"
        refine v_cat (s5 _ _ hmt) (s5 _ _ g3) (bigL (by simp only [List.length_map]; omega)) fun p6 H6 n6 s6 h6 => ?_
        walk_at "go"
        refine ⟨e.trans (s5.trans s6), p6, _, rfl, ?_⟩
        rw [h6, e1, List.map_append]
    · subst es
      have hk : (as.map V.ref).length = hs.length := by rw [List.length_map, h2]
      rw [hk, List.take_of_length_le (Nat.le_refl _)] at hmt
      walk_at "go"
      refine v_sortI hmt (by omega) fun ns' l6 H6 pm pw n6 s6 h6 => ?_
      refine c_lstRg (m := m) rfl (by omega) fun l7 H7 n7 s7 h7 => ?_
      refine v_eqI (s7 _ _ h6) h7 ?_
      rw [decide_eq_true (perm_sorted_eq (pm.trans hp) pw sorted_range)]
      exact q H7 (e.trans (s6.trans s7))
def spAreW : Sp := fun vs H Q _ => ∃ (l : Addr) (ws : List (Int × Int)) (m : Nat), vs = [.ref l, .int m] ∧ LO PrA H l ws ∧ ws.length ≤ 400 ∧ (∀ z ∈ ws, 0 ≤ z.1 ∧ z.1 < m ∧ 0 ≤ z.2 ∧ z.2 < m) ∧ ∀ H', Same H H' → Q (.bl true) H'
theorem sc49 : FnScope ["waits", "many", "pair"] ["waits", "many"] (C8.fnScope st49) := C8.fnScope_by (by decide +kernel)
theorem ok_are_waits (T : Txt K mg) : C8.Cal P w K mg base 3 "are_waits" spAreW [] := by
  refine cal_by (k := 2) (T.df 49 _ rfl) (g_are_waits T) sc49 (fun _ _ _ _ us hl => match us, hl with | [_, _], _ => rfl) (fun vs H Q E h => ?_) (fun A outer s H vs Q E hr o h => ?_)
  · obtain ⟨l, hs, m, rfl, _⟩ := h
    rfl
  · obtain ⟨l, ws, m, rfl, ⟨as, h1, h2, h3⟩, hl, hok, q⟩ := h
    refine ⟨_, (pss_cons (ps_if (PW.pt (pw_or (pt_not (pt_val (pe_callB (cr_self o) (by rfl) (z_isinstance T) b_isinstance (pa_cons (pv 0) (pa_cons (pe_bltn (v := .ty "list") (by rfl) (z_list T) b_list rfl) pa_nil))))) (pw_or1 (pt_cmpR (op_self o) (pe_callB (cr_self o) (by rfl) (z_len T) b_len (pa_cons (pv 0) pa_nil)) (C8.pe_gc (by rfl) (i_MOST_WAITS T)) (nomark _))))) (pss_one (ps_ret pe_bl)) pss_nil)
      (pss_one (ps_ret (pe_callB (cr_self o) (by rfl) (z_all T) b_all (pa_cons (pe_lc (own := [("pair", 2)]) rfl (sc49).nd (pi_listZ o (pv 0)) (blkOk_by (own := [("pair", 2)]) (by kernel_rfl)) (fun _ _ _ _ _ => pg_mn (pg_name (i := 2) (sc49).nd (by rfl) (by first | exact Or.inl rfl | exact Or.inr rfl))) (fun _ _ _ _ _ => pts_mn pts_nil) (fun _ _ _ _ _ => pe_mn (C8.pe_c (ok_is_wait (P := P) (w := w) T) hr (by decide) (by rfl) (pa_cons (pv 2) (pa_cons (pv 1) pa_nil))))) pa_nil))))), ?_⟩
    walk_at "go"
    refine lcL (a := l) (xs := as.map V.ref) [] (fun D i acc H' => acc = (List.replicate i true).map V.bl) (by rw [List.length_map]; omega) h1 (by simp) (fun D H' nD sD hD => rfl) (fun D i x acc H5 nD hx hlj k5 hD ea => ?_) (fun D acc H5 nD hl5 k5 hD ea => ?_)
    · have s5 := keep0 k5
      obtain ⟨a, ha, rfl⟩ := map_at hx
      have hi := (List.getElem?_eq_some_iff.mp ha).1
      obtain ⟨z, hz⟩ : ∃ z, ws[i]? = some z := ⟨_, List.getElem?_eq_getElem (by omega)⟩
      obtain ⟨b1, b2, b3, b4⟩ := hok z (List.mem_of_getElem? hz)
      walk_at "go"
      refine ⟨a, z.1, z.2, m, rfl, s5 _ _ (h3 i a z ha hz), b1, b2, b3, b4, hD, k5, fun H8 k8 h8 => ?_⟩
      rw [ea, List.replicate_succ']
      simp
    · rw [ea] at hD
      refine v_all hD ?_
      have e2 : ((List.replicate (as.map V.ref).length true).all id) = true := by simp
      rw [e2]
      exact q H5 (keep0 k5)
/-! ### slots -/
structure SlotsA (P : Program) (w : World) (H : Hp) (d : Addr) (zs : List Sp2) (n : Nat) : Prop where
  ex : ∃ (o : Obj) (es : List DE), H d = some (DicO P w d o es) ∧ es.map (·.1) = zs ∧ (∀ e ∈ es, SpA H e.2.1 e.1) ∧ ∀ e ∈ es, ∃ i : Int, e.2.2 = .int i ∧ 0 ≤ i ∧ i < n
theorem SlotsA.same {H H' : Hp} {d : Addr} {zs : List Sp2} {n : Nat} (h : SlotsA P w H d zs n) (s : Same H H') : SlotsA P w H' d zs n := by
  obtain ⟨o, es, h1, h2, h3, h4⟩ := h
  exact ⟨o, es, s _ _ h1, h2, fun e he => (h3 e he).same s, h4⟩
def spAreSl (P : Program) (w : World) : Sp := fun vs H Q _ => ∃ (j d : Addr) (sz : List Int) (R : Nat) (zs : List Sp2) (n : Nat), vs = [.ref j, .ref d] ∧ JobA H j sz R ∧ SlotsA P w H d zs n ∧ n ≤ 120 ∧ zs.Perm (spotsF R sz) ∧ ∀ H', Same H H' → Q (.bl true) H'
theorem sc50 : FnScope ["job", "slots", "slot"] ["job", "slots"] (C8.fnScope st50) := C8.fnScope_by (by decide +kernel)
theorem ok_are_slots (T : Txt K mg) : C8.Cal P w K mg base 6 "are_slots" (spAreSl P w) [] := by
  refine cal_by (k := 5) (T.df 50 _ rfl) (g_are_slots T) sc50 (fun _ _ _ _ us hl => match us, hl with | [_, _], _ => rfl) (fun vs H Q E h => ?_) (fun A outer s H vs Q E hr o h => ?_)
  · obtain ⟨j, d, sz, R, zs, n, rfl, _⟩ := h
    rfl
  · obtain ⟨j, d, sz, R, zs, n, rfl, J, ⟨ob, es, hd, hz, hsp, hv⟩, hn, hp, q⟩ := h
    obtain ⟨ok, hR, jdx, jg, jtm, jtl, jfl, jt, jks, hj, _⟩ := id J
    have hpl := places_len ok
    have hlen : es.length = (spotsF R sz).length := by
      have : es.length = (es.map (·.1)).length := by simp
      rw [this, hz, hp.length_eq]
    have h30 : (spotsF R sz).length ≤ 30 := by
      rw [spotsF_len]
      calc R * (placesF sz).length ≤ 5 * 6 := Nat.mul_le_mul hR hpl.1
        _ = 30 := rfl
    refine ⟨_, (pss_cons (ps_if (PW.pt (pw_or (pt_not (pt_val (pe_callB (cr_self o) (by rfl) (z_isinstance T) b_isinstance (pa_cons (pv 1) (pa_cons (pe_bltn (v := .ty "dict") (by rfl) (z_dict T) b_dict rfl) pa_nil))))) (pw_or1 (pt_cmpR (op_self o) (pe_callB (cr_self o) (by rfl) (z_len T) b_len (pa_cons (pv 1) pa_nil)) (pe_callB (cr_self o) (by rfl) (z_len T) b_len (pa_cons (C8.pe_mt0 (ok_Job_all_spots (P := P) (w := w) T) hr (by decide) (pv 0)) pa_nil)) (nomark _))))) (pss_one (ps_ret pe_bl)) pss_nil)
      (pss_cons (ps_if (pt_not (pt_val (C8.pe_c (ok_are_spots (P := P) (w := w) T) hr (by decide) (by rfl) (pa_cons (pv 0) (pa_cons (pe_callTy (cr_self o) (by rfl) (z_list T) b_list (pa_cons (pv 1) pa_nil)) pa_nil))))) (pss_one (ps_ret pe_bl)) pss_nil)
      (pss_one (ps_ret (pe_callB (cr_self o) (by rfl) (z_all T) b_all (pa_cons (pe_lc (own := [("slot", 2)]) rfl (sc50).nd (pi_valsDZ o (pv 1)) (blkOk_by (own := [("slot", 2)]) (by kernel_rfl)) (fun _ _ _ _ _ => pg_mn (pg_name (i := 2) (sc50).nd (by rfl) (by first | exact Or.inl rfl | exact Or.inr rfl))) (fun _ _ _ _ _ => pts_mn pts_nil) (fun _ _ _ _ _ => pe_mn (C8.pe_c (ok_is_below (P := P) (w := w) T) hr (by decide) (by rfl) (pa_cons (pv 2) (pa_cons (C8.pe_gc (by rfl) (i_MOST_SLOTS T)) pa_nil))))) pa_nil)))))), ?_⟩
    walk_at "go"
    refine ⟨j, sz, R, rfl, J, fun H1 l xs s1 h1 hxl => ?_⟩
    walk_at "go"
    have hd1 := s1 _ _ hd
    refine v_listD hd1 fun l2 H2 n2 s2 h2 => ?_
    walk_at "go"
    refine ⟨j, l2, sz, R, es.map (·.1), rfl, (J.same s1).same s2, ⟨es.map (fun e => (e.2.1, e.1)), ⟨by rw [h2]; simp [SpL.vs], fun p hp => ?_⟩, by simp [SpL.zs]⟩, by rw [List.length_map]; omega, fun z hz' => ?_, fun H3 s3 => ?_⟩
    · obtain ⟨e, he, rfl⟩ := List.mem_map.mp hp
      exact ((hsp e he).same s1).same s2
    · rw [hz] at hz'
      exact mem_spotsF.mp (hp.mem_iff.mp hz')
    · have hd3 := s3 _ _ (s2 _ _ hd1)
      walk_at "go"
      refine itVD hd3 ?_
      refine lcZ walk_valsD [] (fun D i acc H' => acc = (List.replicate i true).map V.bl) (bigL' (by omega)) (fun H' k' => keep0 k' _ _ hd3) (fun D H' nD sD hD => rfl) (fun D i v acc H5 H6 nD hi hl k5 hD ea y => ?_) (fun D acc H5 nD hl5 k5 hD ea => ?_)
      · obtain ⟨rfl, p, hp', rfl⟩ := y
        obtain ⟨iv, hiv, b1, b2⟩ := hv p (List.mem_of_getElem? hp')
        rw [hiv]
        walk_at "go"
        refine ⟨iv, 120, rfl, b1, by omega, hD, k5, fun H8 k8 h8 => ?_⟩
        rw [ea, List.replicate_succ']
        simp
      · rw [ea] at hD
        refine v_all hD ?_
        have e2 : ((List.replicate es.length true).all id) = true := by simp
        rw [e2]
        exact q H5 (s1.trans (s2.trans (s3.trans (keep0 k5))))
def spAreWa : Sp := fun vs H Q _ => ∃ (j l : Addr) (sz : List Int) (R : Nat) (zs : List Sp2), vs = [.ref j, .ref l] ∧ JobA H j sz R ∧ LSz H l zs ∧ zs.length < 60 ∧ zs.Nodup ∧ (∀ z ∈ zs, SpOk R sz z) ∧ ∀ H', Same H H' → Q (.bl true) H'
theorem sc51 : FnScope ["job", "wanted"] ["job", "wanted"] (C8.fnScope st51) := C8.fnScope_by (by decide +kernel)
theorem ok_are_wanted (T : Txt K mg) : C8.Cal P w K mg base 6 "are_wanted" spAreWa [] := by
  refine cal_by (k := 5) (T.df 51 _ rfl) (g_are_wanted T) sc51 (fun _ _ _ _ us hl => match us, hl with | [_, _], _ => rfl) (fun vs H Q E h => ?_) (fun A outer s H vs Q E hr o h => ?_)
  · obtain ⟨j, l, sz, R, zs, rfl, _⟩ := h
    rfl
  · obtain ⟨j, l, sz, R, zs, rfl, J, hl, hlen, hnd, hok, q⟩ := h
    refine ⟨_, (pss_one (ps_ret (pe_and (C8.pe_c (ok_are_spots (P := P) (w := w) T) hr (by decide) (by rfl) (pa_cons (pv 0) (pa_cons (pv 1) pa_nil))) (pe_one (pe_cmpR (op_self o) (pe_callB (cr_self o) (by rfl) (z_len T) b_len (pa_cons (pe_callTy (cr_self o) (by rfl) (z_set T) b_set (pa_cons (pv 1) pa_nil)) pa_nil)) (pe_callB (cr_self o) (by rfl) (z_len T) b_len (pa_cons (pv 1) pa_nil)) (nomark _)))))), ?_⟩
    walk_at "go"
    refine ⟨j, l, sz, R, zs, rfl, J, hl, by omega, hok, fun H1 s1 => ?_⟩
    obtain ⟨ks, hks, rfl⟩ := hl.same s1
    have hks1 := hks.1
    have kl : ks.length = ks.zs.length := by simp [SpL.zs]
    walk_at "go"
    refine v_setS hks (by omega) fun a L H2 n2 s2 h2 sub all nd => ?_
    refine v_lenO h2 ?_
    walk_at "go"
    have e : L.length = ks.length := by
      have e1 : L.length = (L.map (·.2)).length := by simp
      have e2 : ks.length = (ks.map (·.2)).length := by simp
      rw [e1, e2]
      refine Nat.le_antisymm (nd.length_le_of_subset fun x hx => ?_) (List.Nodup.length_le_of_subset hnd fun x hx => ?_)
      · obtain ⟨p', hp', rfl⟩ := List.mem_map.mp hx
        exact List.mem_map.mpr ⟨p', sub p' hp', rfl⟩
      · obtain ⟨p', hp', rfl⟩ := List.mem_map.mp hx
        exact all p' hp'
    have e3 : ((L.length : Int) = ((SpL.vs ks).length : Int)) := by simp only [SpL.vs, List.length_map, e]
    rw [decide_eq_true e3]
    exact q H2 (s1.trans s2)
end
end
section
set_option maxHeartbeats 4000000
def hz0 (z : Sp2) : Int := reduceHash (Builtin.Tuple.tupleHashOf [hashInt z.1, reduceHash (Builtin.Tuple.tupleHashOf (z.2.map hashInt))])
theorem hashes_num (w : World) : ∀ l : List Int, NestedKey.hashes w (l.map NestedKey.num) = l.map hashInt
  | [] => by simp [NestedKey.hashes]
  | x :: l => by simp only [List.map_cons, NestedKey.hashes, NestedKey.hash, hashes_num w l]
theorem hz_eq (w : World) (z : Sp2) : hz w z = hz0 z := by
  unfold hz hz0 kS
  simp only [NestedKey.hash, NestedKey.hashes, hashes_num]
theorem hash5 : grids.all (fun sz => decide ((spotsF 5 sz).map hz0).Nodup) = true := by decide +kernel
theorem spots_pre {R S : Nat} (h : R ≤ S) (sz : List Int) : (spotsF R sz).Sublist (spotsF S sz) := by
  induction S with
  | zero =>
    have : R = 0 := by omega
    subst this
    exact List.Sublist.refl _
  | succ S ih =>
    by_cases e : R = S + 1
    · subst e
      exact List.Sublist.refl _
    · rw [spotsF_snoc]
      exact (ih (by omega)).trans (List.sublist_append_left _ _)
theorem hash_nd (w : World) {sz : List Int} (m : SzOk sz) {R : Nat} (hR : R ≤ 5) : ((spotsF R sz).map (hz w)).Nodup := by
  have e : hz w = hz0 := funext (hz_eq w)
  rw [e]
  have h5 : ((spotsF 5 sz).map hz0).Nodup := of_decide_eq_true (sz_all hash5 m)
  exact h5.sublist ((spots_pre hR sz).map hz0)
end
section
set_option maxHeartbeats 4000000
theorem los_same {H H' : Hp} {l : Addr} {zs : List (List Sp2)} (h : LO LSz H l zs) (s : Same H H') : LO LSz H' l zs := LO.same (R := LSz) LSz.same h s
theorem loi_same {H H' : Hp} {l : Addr} {zs : List (List Int)} (h : LO LIn H l zs) (s : Same H H') : LO LIn H' l zs := LO.same (R := LIn) LIn.same h s
theorem lop_same {H H' : Hp} {l : Addr} {zs : List (Int × Int)} (h : LO PrA H l zs) (s : Same H H') : LO PrA H' l zs := LO.same (R := PrA) PrA.same h s
theorem dropk {x : Addr} {H H' : Hp} (k : Keep [x] H H') : Same (dropA x H) (dropA x H') := fun b o e => by
  by_cases hb : b = x
  · rw [hb, dropA_same] at e; cases e
  · rw [dropA_ne hb] at e ⊢
    exact k b o e (nin1 hb)
theorem drops {x : Addr} {H H' : Hp} (k : Same H H') : Same (dropA x H) (dropA x H') := dropk (Keep.of k)
theorem drop_le {x : Addr} {H : Hp} : Same (dropA x H) H := fun b o e => by
  by_cases hb : b = x
  · rw [hb, dropA_same] at e; cases e
  · rw [dropA_ne hb] at e
    exact e
theorem same_drop {F H : Hp} {x : Addr} (s : Same F H) (n : F x = none) : Same F (dropA x H) := fun b o e => by
  rw [dropA_ne (fun z => by rw [z, n] at e; cases e)]
  exact s b o e
theorem nd_keys {f : Sp2 → Int} {es : List DE} {keys all : List Sp2} (e : es.map (·.1) = keys) (p : keys.Perm all) (nd : (all.map f).Nodup) : (es.map fun e => f e.1).Nodup := by
  subst e
  have h := (p.map f).nodup_iff.mpr nd
  rw [List.map_map] at h
  exact h
/-- a paper's data -/
structure Pp where
  sz : List Int
  R : Nat
  pcs : List (List Sp2)
  hs : List (List Int)
  ws : List (Int × Int)
  keys : List Sp2
  n : Nat
structure Pp.Ok (p : Pp) : Prop where
  ok : SzOk p.sz
  hR : p.R ≤ 5
  pl : p.pcs.length ≤ 60
  pc : ∀ pc ∈ p.pcs, pc ≠ [] ∧ pc.length ≤ 1000 ∧ ∀ z ∈ pc, SpOk p.R p.sz z
  hl : 1 ≤ p.hs.length ∧ p.hs.length ≤ 4
  hp : (p.hs.flatten).Perm ((List.range p.pcs.length).map fun (i : Nat) => (i : Int))
  wl : p.ws.length ≤ 400
  wk : ∀ z ∈ p.ws, 0 ≤ z.1 ∧ z.1 < p.pcs.length ∧ 0 ≤ z.2 ∧ z.2 < p.pcs.length
  kp : p.keys.Perm (spotsF p.R p.sz)
  n120 : p.n ≤ 120
structure PaperA (P : Program) (w : World) (H : Hp) (a : Addr) (p : Pp) : Prop where
  d : p.Ok
  ex : ∃ dx j lp lh lw d lx, H a = some (o_Paper dx (.ref j) (.ref lp) (.ref lh) (.ref lw) (.ref d) lx) ∧ JobA H j p.sz p.R ∧ LO LSz H lp p.pcs ∧ LO LIn H lh p.hs ∧ LO PrA H lw p.ws ∧ SlotsA P w H d p.keys p.n
theorem PaperA.same {P : Program} {w : World} {H H' : Hp} {a : Addr} {p : Pp} (h : PaperA P w H a p) (s : Same H H') : PaperA P w H' a p := by
  obtain ⟨hd, dx, j, lp, lh, lw, d, lx, h1, h2, h3, h4, h5, h6⟩ := h
  exact ⟨hd, dx, j, lp, lh, lw, d, lx, s _ _ h1, h2.same s, los_same h3 s, loi_same h4 s, lop_same h5 s, h6.same s⟩
section
variable {P : Program} {w : World} {K : PySem.W.Frag} {mg : Str → Option Value} {base : Heap}
def spPaperI (P : Program) (w : World) : Sp := fun vs H Q _ => ∃ (F : Hp) (x dx j lp lh lw d lx : Addr) (p : Pp) (wn : List Sp2), vs = [.ref x, .ref j, .ref lp, .ref lh, .ref lw, .ref d, .ref lx] ∧ H x = some (.ins 607 dx []) ∧ Same F H ∧ F x = none ∧ p.Ok ∧
  JobA F j p.sz p.R ∧ LO LSz F lp p.pcs ∧ LO LIn F lh p.hs ∧ LO PrA F lw p.ws ∧ SlotsA P w F d p.keys p.n ∧ LSz F lx wn ∧ wn.length < 60 ∧ wn.Nodup ∧ (∀ z ∈ wn, SpOk p.R p.sz z) ∧
  ∀ H', Keep [x] H H' → PaperA P w H' x p → Q .non H'
theorem sc52 : FnScope ["self", "job", "pieces", "hands", "waits", "slots", "wanted", "piece", "row"] ["self", "job", "pieces", "hands", "waits", "slots", "wanted"] (C8.fnScope st52) := C8.fnScope_by (by decide +kernel)
theorem ok_mk_Paper (T : Txt K mg) : C8.Mak P w K mg base 7 "Paper" 607 (spPaperI P w) [] := by
  refine mak_by (k := 6) (T.df 52 _ rfl) (k_Paper T) (g_Paper T) sc52 (fun _ _ _ _ us hl => match us, hl with | [_, _, _, _, _, _, _], _ => rfl) (fun vs H Q E h => ?_) (fun A outer s H vs Q E hr o h => ?_)
  · obtain ⟨F, x, dx, j, lp, lh, lw, d, lx, p, wn, rfl, _⟩ := h
    rfl
  · obtain ⟨F, x, dx, j, lp, lh, lw, d, lx, p, wn, rfl, hx, sF, nx, ok, J, hlp, hlh, hlw, hd, hlx, hwl, hwn, hwk, k⟩ := h
    obtain ⟨as, a1, a2, a3⟩ := id hlp
    refine ⟨_, (pss_cons (ps_if (pt_not (pt_val (C8.pe_c (ok_are_pieces (P := P) (w := w) T) hr (by decide) (by rfl) (pa_cons (pv 1) (pa_cons (pv 2) pa_nil))))) (pss_one ps_never) pss_nil)
      (pss_cons (ps_if (pt_not (pt_val (C8.pe_c (ok_are_hands (P := P) (w := w) T) hr (by decide) (by rfl) (pa_cons (pv 3) (pa_cons (pe_callB (cr_self o) (by rfl) (z_len T) b_len (pa_cons (pv 2) pa_nil)) pa_nil))))) (pss_one ps_never) pss_nil)
      (pss_cons (ps_if (pt_not (pt_val (C8.pe_c (ok_are_waits (P := P) (w := w) T) hr (by decide) (by rfl) (pa_cons (pv 4) (pa_cons (pe_callB (cr_self o) (by rfl) (z_len T) b_len (pa_cons (pv 2) pa_nil)) pa_nil))))) (pss_one ps_never) pss_nil)
      (pss_cons (ps_if (pt_not (pt_val (C8.pe_c (ok_are_slots (P := P) (w := w) T) hr (by decide) (by rfl) (pa_cons (pv 1) (pa_cons (pv 5) pa_nil))))) (pss_one ps_never) pss_nil)
      (pss_cons (ps_if (pt_not (pt_val (C8.pe_c (ok_are_wanted (P := P) (w := w) T) hr (by decide) (by rfl) (pa_cons (pv 1) (pa_cons (pv 6) pa_nil))))) (pss_one ps_never) pss_nil)
      (pss_cons (ps_fld (pv 0) (pv 1) rfl)
      (pss_cons (ps_fld (pv 0) (pe_lc (own := [("piece", 7)]) rfl (sc52).nd (pi_listZ o (pv 2)) (blkOk_by (own := [("piece", 7)]) (by kernel_rfl)) (fun _ _ _ _ _ => pg_mn (pg_name (i := 7) (sc52).nd (by rfl) (by first | exact Or.inl rfl | exact Or.inr rfl))) (fun _ _ _ _ _ => pts_mn pts_nil) (fun _ _ _ _ _ => pe_mn (pe_callTy (cr_self o.blk) (by rfl) (z_list T) b_list (pa_cons (pv 7) pa_nil)))) rfl)
      (pss_cons (ps_fld (pv 0) (pe_lc (own := [("row", 8)]) rfl (sc52).nd (pi_listZ o (pv 3)) (blkOk_by (own := [("row", 8)]) (by kernel_rfl)) (fun _ _ _ _ _ => pg_mn (pg_name (i := 8) (sc52).nd (by rfl) (by first | exact Or.inl rfl | exact Or.inr rfl))) (fun _ _ _ _ _ => pts_mn pts_nil) (fun _ _ _ _ _ => pe_mn (pe_callTy (cr_self o.blk) (by rfl) (z_list T) b_list (pa_cons (pv 8) pa_nil)))) rfl)
      (pss_cons (ps_fld (pv 0) (pe_callTy (cr_self o) (by rfl) (z_list T) b_list (pa_cons (pv 4) pa_nil)) rfl)
      (pss_cons (ps_fld (pv 0) (pe_callTy (cr_self o) (by rfl) (z_dict T) b_dict (pa_cons (pv 5) pa_nil)) rfl)
      (pss_one (ps_fld (pv 0) (pe_callTy (cr_self o) (by rfl) (z_list T) b_list (pa_cons (pv 6) pa_nil)) rfl)))))))))))), ?_⟩
    walk_at "go"
    refine ⟨j, lp, p.sz, p.R, p.pcs, rfl, J.same sF, los_same hlp sF, by have := ok.pl; omega, ok.pc, fun H1 s1 => ?_⟩
    have sF1 := sF.trans s1
    have a1' := sF1 _ _ a1
    walk_at "go"
    refine ⟨lh, p.hs, p.pcs.length, by rw [List.length_map, a2], loi_same hlh sF1, ok.hl.1, ok.hl.2, ok.pl, ok.hp, fun H2 s2 => ?_⟩
    have sF2 := sF1.trans s2
    have a2' := sF2 _ _ a1
    walk_at "go"
    refine ⟨lw, p.ws, p.pcs.length, by rw [List.length_map, a2], lop_same hlw sF2, ok.wl, ok.wk, fun H3 s3 => ?_⟩
    have sF3 := sF2.trans s3
    walk_at "go"
    refine ⟨j, d, p.sz, p.R, p.keys, p.n, rfl, J.same sF3, hd.same sF3, ok.n120, ok.kp, fun H4 s4 => ?_⟩
    have sF4 := sF3.trans s4
    walk_at "go"
    refine ⟨j, lx, p.sz, p.R, wn, rfl, J.same sF4, hlx.same sF4, hwl, hwn, hwk, fun H5 s5 => ?_⟩
    have sF5 := sF4.trans s5
    have x5 := s5 _ _ (s4 _ _ (s3 _ _ (s2 _ _ (s1 _ _ hx))))
    walk_at "go"
    refine st_Paper_job T x5 fun H6 k6 h6 => ?_
    have sF6 := same_of_new sF5 nx k6
    have a6 := sF6 _ _ a1
    walk_at "go"
    refine lcL (a := lp) (xs := as.map V.ref) [] (fun D i acc H' => ∃ rs : List Addr, acc = rs.map V.ref ∧ rs.length = i ∧ ∀ (i : Nat) (r : Addr) (z : List Sp2), rs[i]? = some r → p.pcs[i]? = some z → r ≠ D ∧ LSz (dropA x H') r z) (by rw [List.length_map]; have := ok.pl; omega) a6 (by simp) (fun D H' nD sD hD => ⟨[], rfl, rfl, fun i r p h => by simp at h⟩) (fun D i v acc H7 nD hx' hlj k7 hD ⟨rs, ea, el, hrs⟩ => ?_) (fun D acc H7 nD hl7 k7 hD ⟨rs, ea, el, hrs⟩ => ?_)
    · have s7 := keep0 k7
      obtain ⟨a, ha, rfl⟩ := map_at hx'
      have hi := (List.getElem?_eq_some_iff.mp ha).1
      obtain ⟨pc, hpc⟩ : ∃ pc, p.pcs[i]? = some pc := ⟨_, List.getElem?_eq_getElem (by omega)⟩
      have sF7 := sF6.trans s7
      obtain ⟨ks, hks, hz⟩ := (a3 i a pc ha hpc).same (same_drop sF7 nx)
      have hk7 := drop_le _ _ hks.1
      have hx7 := s7 _ _ h6
      walk_at "go"
      refine v_listL hk7 fun r H8 n8 s8 h8 => ?_
      refine ⟨s8 _ _ hD, same_k0 (s7.trans s8), fun H9 k9 h9 => ⟨rs ++ [r], by rw [ea]; simp, by simp [el], fun i' r' z e1 e2 => ?_⟩⟩
      have Dx : D ≠ x := fun z => by rw [z, h6] at nD; cases nD
      have hDd : dropA x H8 D = some (.lst acc) := by rw [dropA_ne Dx]; exact s8 _ _ hD
      have nl : Nol (dropA x H8) (dropA x H9) := fun b o e m => by
        by_cases hb : b = x
        · rw [hb, dropA_same] at e; cases e
        · rw [dropA_ne hb] at e ⊢
          exact k9.nolL (s8 _ _ hD) b o e m
      have k9' : ∀ b o, dropA x H8 b = some o → b ≠ D → dropA x H9 b = some o := fun b o e n => by
        by_cases hb : b = x
        · rw [hb, dropA_same] at e; cases e
        · rw [dropA_ne hb] at e ⊢
          exact k9 _ _ e (nin1 n)
      rcases app_at e1 with q1 | ⟨q1, q2⟩
      · obtain ⟨g1, ks', g3, g4⟩ := hrs i' r' z q1 e2
        exact ⟨g1, ks', ⟨k9' _ _ (drops s8 _ _ g3.1) g1, fun q hq => ((g3.2 q hq).same (drops s8)).nol nl⟩, g4⟩
      · subst q2
        rw [q1, el, hpc] at e2
        cases e2
        have rD : r' ≠ D := fun z => by rw [z, hD] at n8; cases n8
        have rx : r' ≠ x := fun z => by rw [z, hx7] at n8; cases n8
        exact ⟨rD, ks, ⟨k9' _ _ (by rw [dropA_ne rx]; exact h8) rD, fun q hq => ((hks.2 q hq).same (drops s8)).nol nl⟩, hz⟩
    · have s7 := keep0 k7
      have Dx : D ≠ x := fun z => by rw [z, h6] at nD; cases nD
      have hP7 : LO LSz (dropA x H7) D p.pcs := ⟨rs, by rw [dropA_ne Dx, ← ea]; exact hD, by rw [el, List.length_map, a2], fun i r z e1 e2 => (hrs i r z e1 e2).2⟩
      walk_at "go"
      refine st_Paper_pieces T (s7 _ _ h6) fun H8 k8 h8 => ?_
      have sF8 := same_of_new (sF6.trans s7) nx k8
      have d8 := dropk k8
      obtain ⟨bs, b1, b2, b3⟩ := id hlh
      have b8 := sF8 _ _ b1
      walk_at "go"
      refine lcL (a := lh) (xs := bs.map V.ref) [] (fun D' i acc H' => ∃ rs : List Addr, acc = rs.map V.ref ∧ rs.length = i ∧ ∀ (i : Nat) (r : Addr) (z : List Int), rs[i]? = some r → p.hs[i]? = some z → r ≠ D' ∧ LIn (dropA x H') r z) (by rw [List.length_map]; have := ok.hl.2; omega) b8 (by simp) (fun D' H' nD sD hD => ⟨[], rfl, rfl, fun i r p h => by simp at h⟩) (fun D' i v acc H9 nD' hx' hlj k9 hD' ⟨rs', ea', el', hrs'⟩ => ?_) (fun D' acc H9 nD' hl9 k9 hD' ⟨rs', ea', el', hrs'⟩ => ?_)
      · have s9 := keep0 k9
        obtain ⟨a, ha, rfl⟩ := map_at hx'
        have hi := (List.getElem?_eq_some_iff.mp ha).1
        obtain ⟨pc, hpc⟩ : ∃ pc, p.hs[i]? = some pc := ⟨_, List.getElem?_eq_getElem (by omega)⟩
        have sF9 := sF8.trans s9
        have hks : H9 a = some (.lst (pc.map V.int)) := (b3 i a pc ha hpc).same sF9
        have hx9 := s9 _ _ h8
        walk_at "go"
        refine v_listL hks fun r H10 n10 s10 h10 => ?_
        refine ⟨s10 _ _ hD', same_k0 (s9.trans s10), fun H11 k11 h11 => ⟨rs' ++ [r], by rw [ea']; simp, by simp [el'], fun i' r' z e1 e2 => ?_⟩⟩
        have k9' : ∀ b o, dropA x H10 b = some o → b ≠ D' → dropA x H11 b = some o := fun b o e n => by
          by_cases hb : b = x
          · rw [hb, dropA_same] at e; cases e
          · rw [dropA_ne hb] at e ⊢
            exact k11 _ _ e (nin1 n)
        rcases app_at e1 with q1 | ⟨q1, q2⟩
        · obtain ⟨g1, g2⟩ := hrs' i' r' z q1 e2
          exact ⟨g1, k9' _ _ (drops s10 _ _ g2) g1⟩
        · subst q2
          rw [q1, el', hpc] at e2
          cases e2
          have rD : r' ≠ D' := fun z => by rw [z, hD'] at n10; cases n10
          have rx : r' ≠ x := fun z => by rw [z, hx9] at n10; cases n10
          exact ⟨rD, k9' _ _ (by rw [dropA_ne rx]; exact h10) rD⟩
      · have s9 := keep0 k9
        have Dx' : D' ≠ x := fun z => by rw [z, h8] at nD'; cases nD'
        have hH9 : LO LIn (dropA x H9) D' p.hs := ⟨rs', by rw [dropA_ne Dx', ← ea']; exact hD', by rw [el', List.length_map, b2], fun i r z e1 e2 => (hrs' i r z e1 e2).2⟩
        walk_at "go"
        refine st_Paper_hands T (s9 _ _ h8) fun H10 k10 h10 => ?_
        have sF10 := same_of_new (sF8.trans s9) nx k10
        have d10 := dropk k10
        obtain ⟨cs, c1, c2, c3⟩ := id hlw
        have c10 := sF10 _ _ c1
        walk_at "go"
        refine v_listL c10 fun lw' H11 n11 s11 h11 => ?_
        have lwx : lw' ≠ x := fun z => by rw [z, h10] at n11; cases n11
        have hW11 : LO PrA (dropA x H11) lw' p.ws := ⟨cs, by rw [dropA_ne lwx]; exact h11, c2, fun i r z e1 e2 => (c3 i r z e1 e2).same (same_drop (sF10.trans s11) nx)⟩
        walk_at "go"
        refine st_Paper_waits T (s11 _ _ h10) fun H12 k12 h12 => ?_
        have sF12 := same_of_new (sF10.trans s11) nx k12
        have d12 := dropk k12
        obtain ⟨od, es, e1, e2, e3, e4⟩ := id hd
        walk_at "go"
        refine v_dictD (sF12 _ _ e1) (fun e he => (e3 e he).same sF12) ?_ fun d' od' H13 n13 s13 h13 => ?_
        · exact nd_keys (f := hz w) e2 ok.kp (hash_nd w ok.ok ok.hR)
        have dx' : d' ≠ x := fun z => by rw [z, h12] at n13; cases n13
        have hS13 : SlotsA P w (dropA x H13) d' p.keys p.n := ⟨od', es, by rw [dropA_ne dx']; exact h13, e2, fun e he => (e3 e he).same (same_drop (sF12.trans s13) nx), e4⟩
        walk_at "go"
        refine st_Paper_slots T (s13 _ _ h12) fun H14 k14 h14 => ?_
        have sF14 := same_of_new (sF12.trans s13) nx k14
        have d14 := dropk k14
        obtain ⟨kw, hkw, _⟩ := hlx.same sF14
        have hkw1 := hkw.1
        walk_at "go"
        refine v_listL hkw1 fun lx' H15 n15 s15 h15 => ?_
        walk_at "go"
        refine st_Paper_wanted T (s15 _ _ h14) fun H16 k16 h16 => ?_
        have sF16 := same_of_new (sF14.trans s15) nx k16
        have d16 := dropk k16
        walk_at "go"
        have kk : Keep [x] H H16 := fun b o q n => by
          have nb : b ≠ x := fun z => n (by rw [z]; exact List.mem_singleton.mpr rfl)
          exact k16 _ _ (s15 _ _ (k14 _ _ (s13 _ _ (k12 _ _ (s11 _ _ (k10 _ _ (s9 _ _ (k8 _ _ (s7 _ _ (k6 _ _ (s5 _ _ (s4 _ _ (s3 _ _ (s2 _ _ (s1 _ _ q))))) (nin1 nb))) (nin1 nb))) (nin1 nb))) (nin1 nb))) (nin1 nb))) (nin1 nb)
        have z8 : Same (dropA x H8) H16 := (drops s9).trans (d10.trans ((drops s11).trans (d12.trans ((drops s13).trans (d14.trans ((drops s15).trans (d16.trans drop_le)))))))
        have z10 : Same (dropA x H10) H16 := (drops s11).trans (d12.trans ((drops s13).trans (d14.trans ((drops s15).trans (d16.trans drop_le)))))
        have z12 : Same (dropA x H12) H16 := (drops s13).trans (d14.trans ((drops s15).trans (d16.trans drop_le)))
        have z14 : Same (dropA x H14) H16 := (drops s15).trans (d16.trans drop_le)
        exact k H16 kk ⟨ok, dx, j, D, D', lw', d', .ref lx', h16, J.same sF16, los_same hP7 (d8.trans z8), loi_same hH9 (d10.trans z10), lop_same hW11 (d12.trans z12), hS13.same (d14.trans z14)⟩
end
end
section
set_option maxHeartbeats 4000000
/-! ### a run, its plain state -/
def optV : Option Int → V
  | some i => .int i
  | none => .non
/-- the piece that the hand h holds -/
def pieceAt (hs : List (List Int)) (ats : List (Int × Int)) (h : Nat) : Option Int := match hs[h]?, ats[h]? with
  | some row, some z => row[z.1.toNat]?
  | _, _ => none
def mayBegin (ws : List (Int × Int)) (left : List Int) (pc : Int) : Bool := (ws.filter fun z => decide (z.1 = pc)).all fun z => decide (left[z.2.toNat]? = some 0)
def canStep (p : Pp) (ats : List (Int × Int)) (left : List Int) (h : Nat) : Bool := match pieceAt p.hs ats h with
  | some pc => decide (0 < ((ats[h]?).getD (0, 0)).2) || mayBegin p.ws left pc
  | none => false
structure AtOk (p : Pp) (ats : List (Int × Int)) (left : List Int) : Prop where
  al : ats.length = p.hs.length
  ok : ∀ (h : Nat) (row : List Int) (z : Int × Int), p.hs[h]? = some row → ats[h]? = some z → 0 ≤ z.1 ∧ z.1 ≤ row.length ∧ 0 ≤ z.2
  ll : left.length = p.pcs.length
structure RunA (P : Program) (w : World) (H : Hp) (r pa la ll lm lo lx : Addr) (p : Pp) : Prop where
  hpap : PaperA P w H pa p
  ex : ∃ dx, H r = some (o_Run dx (.ref pa) (.ref la) (.ref ll) (.ref lm) (.ref lo) (.ref lx))
theorem RunA.same {P : Program} {w : World} {H H' : Hp} {r pa la ll lm lo lx : Addr} {p : Pp} (h : RunA P w H r pa la ll lm lo lx p) (s : Same H H') : RunA P w H' r pa la ll lm lo lx p := ⟨h.hpap.same s, h.ex.choose, s _ _ h.ex.choose_spec⟩
/-- what the run's questions read: the paper, at, left -/
structure RSt (P : Program) (w : World) (H : Hp) (r : Addr) (p : Pp) (ats : List (Int × Int)) (left : List Int) : Prop where
  ok : AtOk p ats left
  ex : ∃ pa la ll lm lo lx, RunA P w H r pa la ll lm lo lx p ∧ LO PrA H la ats ∧ LIn H ll left
theorem RSt.same {P : Program} {w : World} {H H' : Hp} {r : Addr} {p : Pp} {ats : List (Int × Int)} {left : List Int} (h : RSt P w H r p ats left) (s : Same H H') : RSt P w H' r p ats left := by
  obtain ⟨a, pa, la, ll, lm, lo, lx, b, c, d⟩ := h
  exact ⟨a, pa, la, ll, lm, lo, lx, b.same s, lop_same c s, d.same s⟩
section
variable {P : Program} {w : World} {K : PySem.W.Frag} {mg : Str → Option Value} {base : Heap}
def spPieceAt (P : Program) (w : World) : Sp := fun vs H Q _ => ∃ (r : Addr) (h : Nat) (p : Pp) (ats : List (Int × Int)) (left : List Int), vs = [.ref r, .int h] ∧ RSt P w H r p ats left ∧ h < p.hs.length ∧ Q (optV (pieceAt p.hs ats h)) H
theorem sc61 : FnScope ["self", "hand", "row"] ["self", "hand"] (C8.fnScope st61) := C8.fnScope_by (by decide +kernel)
theorem ok_Run_piece_at (T : Txt K mg) : C8.Met P w K mg base 1 780 "piece_at" (spPieceAt P w) [] := by
  refine met_by (k := 0) (T.df 61 _ rfl) (c_Run T) (m_Run_piece_at T) sc61 (fun _ _ _ _ us hl => match us, hl with | [_, _], _ => rfl) (fun vs H Q E h => ?_) (fun A outer s H vs Q E hr o h => ?_)
  · obtain ⟨r, h, p, ats, left, rfl, _⟩ := h
    rfl
  · obtain ⟨r, h, p, ats, left, rfl, ⟨aok, pa, la, ll, lm, lo, lx, ⟨⟨pok, pdx, pj, lp, lh, lw, pd, plx, hpa, J, hlp, ⟨bs, b1, b2, b3⟩, hlw, hsl⟩, dx, hrr⟩, ⟨as, a1, a2, a3⟩, hll⟩, hh, q⟩ := h
    obtain ⟨row, hrow⟩ : ∃ row, p.hs[h]? = some row := ⟨_, List.getElem?_eq_getElem hh⟩
    obtain ⟨z, hz⟩ : ∃ z, ats[h]? = some z := ⟨_, List.getElem?_eq_getElem (by rw [aok.al]; exact hh)⟩
    obtain ⟨ra, hra⟩ : ∃ ra, bs[h]? = some ra := ⟨_, List.getElem?_eq_getElem (by omega)⟩
    obtain ⟨ta, hta⟩ : ∃ ta, as[h]? = some ta := ⟨_, List.getElem?_eq_getElem (by rw [a2, aok.al]; exact hh)⟩
    have hrow' : H ra = some (.lst (row.map V.int)) := b3 h ra row hra hrow
    have hta' : H ta = some (.tup [.int z.1, .int z.2]) := a3 h ta z hta hz
    have hrv : (bs.map V.ref)[h]? = some (V.ref ra) := by rw [List.getElem?_map, hra]; rfl
    have htv : (as.map V.ref)[h]? = some (V.ref ta) := by rw [List.getElem?_map, hta]; rfl
    obtain ⟨z1, z2, z3⟩ := aok.ok h row z hrow hz
    have pe : pieceAt p.hs ats h = row[z.1.toNat]? := by unfold pieceAt; rw [hrow, hz]
    rw [pe] at q
    refine ⟨_, (pss_cons (ps_set (i := 2) (sc61).nd rfl (by first | exact Or.inl rfl | exact Or.inr rfl) (pe_ix (ix_self o) (pe_fldZ o (pe_fldZ o (pv 0) rfl) rfl) (pv 1) (fun _ _ => rfl)))
      (pss_cons (ps_if (pt_cmpR (op_self o) (pe_ix (ix_self o) (pe_ix (ix_self o) (pe_fldZ o (pv 0) rfl) (pv 1) (fun _ _ => rfl)) pe_int (fun _ _ => rfl)) (pe_callB (cr_self o) (by rfl) (z_len T) b_len (pa_cons (pv 2) pa_nil)) (nomark _)) (pss_one (ps_ret pe_non)) pss_nil)
      (pss_one (ps_ret (pe_ix (ix_self o) (pv 2) (pe_ix (ix_self o) (pe_ix (ix_self o) (pe_fldZ o (pv 0) rfl) (pv 1) (fun _ _ => rfl)) pe_int (fun _ _ => rfl)) (fun _ _ => rfl)))))), ?_⟩
    walk_at "go"
    refine iteD (fun hb => ?_) (fun hb => ?_)
    · rw [List.length_map] at hb
      walk_at "go"
      rw [List.getElem?_eq_none (by omega)] at q
      exact q
    · rw [List.length_map] at hb
      walk_at "go"
      obtain ⟨v, hv⟩ : ∃ v, row[z.1.toNat]? = some v := ⟨_, List.getElem?_eq_getElem (by omega)⟩
      rw [hv] at q
      refine v_ixL hrow' (v := .int v) ?_ q
      have e : z.1 = ((z.1.toNat : Nat) : Int) := by omega
      rw [e]
      refine atI_nat ?_
      rw [List.getElem?_map, hv]
      rfl
def spNext (P : Program) (w : World) : Sp := fun vs H Q _ => ∃ (r : Addr) (h : Nat) (p : Pp) (ats : List (Int × Int)) (left : List Int) (pc : Int) (z : Int × Int) (zs : List Sp2) (y : Sp2), vs = [.ref r, .int h] ∧ RSt P w H r p ats left ∧ h < p.hs.length ∧ pieceAt p.hs ats h = some pc ∧ ats[h]? = some z ∧
  0 ≤ pc ∧ p.pcs[pc.toNat]? = some zs ∧ zs[z.2.toNat]? = some y ∧ ∀ a, SpA H a y → Q (.ref a) H
theorem sc62 : FnScope ["self", "hand", "piece"] ["self", "hand"] (C8.fnScope st62) := C8.fnScope_by (by decide +kernel)
theorem ok_Run_next_spot (T : Txt K mg) : C8.Met P w K mg base 2 780 "next_spot" (spNext P w) [] := by
  refine met_by (k := 1) (T.df 62 _ rfl) (c_Run T) (m_Run_next_spot T) sc62 (fun _ _ _ _ us hl => match us, hl with | [_, _], _ => rfl) (fun vs H Q E h => ?_) (fun A outer s H vs Q E hr o h => ?_)
  · obtain ⟨r, h, p, ats, left, pc, z, zs, y, rfl, _⟩ := h
    rfl
  · obtain ⟨r, h, p, ats, left, pc, z, zs, y, rfl, S, hh, hpc, hz, pc0, hzs, hy, q⟩ := h
    obtain ⟨aok, pa, la, ll, lm, lo, lx, ⟨⟨pok, pdx, pj, lp, lh, lw, pd, plx, hpa, J, ⟨cs, c1, c2, c3⟩, ⟨bs, b1, b2, b3⟩, hlw, hsl⟩, dx, hrr⟩, ⟨as, a1, a2, a3⟩, hll⟩ := id S
    obtain ⟨row, hrow⟩ : ∃ row, p.hs[h]? = some row := ⟨_, List.getElem?_eq_getElem hh⟩
    obtain ⟨ta, hta⟩ : ∃ ta, as[h]? = some ta := ⟨_, List.getElem?_eq_getElem (by rw [a2, aok.al]; exact hh)⟩
    have hta' : H ta = some (.tup [.int z.1, .int z.2]) := a3 h ta z hta hz
    have htv : (as.map V.ref)[h]? = some (V.ref ta) := by rw [List.getElem?_map, hta]; rfl
    obtain ⟨z1, z2, z3⟩ := aok.ok h row z hrow hz
    have hcl : pc.toNat < cs.length := by
      have := (List.getElem?_eq_some_iff.mp hzs).1
      omega
    obtain ⟨ca, hca⟩ : ∃ ca, cs[pc.toNat]? = some ca := ⟨_, List.getElem?_eq_getElem hcl⟩
    obtain ⟨ks, hks, hkz⟩ := c3 pc.toNat ca zs hca hzs
    have hks1 := hks.1
    rw [← hkz] at hy
    obtain ⟨kp, hkp⟩ : ∃ kp, ks[z.2.toNat]? = some kp := by
      refine ⟨_, List.getElem?_eq_getElem ?_⟩
      have := (List.getElem?_eq_some_iff.mp hy).1
      simpa [SpL.zs] using this
    have hky : kp.2 = y := by
      simp only [SpL.zs, List.getElem?_map, hkp] at hy
      exact Option.some.inj hy
    have epc : pc = ((pc.toNat : Nat) : Int) := by omega
    have ez : z.2 = ((z.2.toNat : Nat) : Int) := by omega
    have at1 : atI (cs.map V.ref) pc = some (V.ref ca) := by rw [epc]; exact atI_nat (by rw [List.getElem?_map, hca]; rfl)
    have at2 : atI ks.vs z.2 = some (V.ref kp.1) := by rw [ez]; exact atI_nat (by simp only [SpL.vs]; rw [List.getElem?_map, hkp]; rfl)
    refine ⟨_, (pss_cons (ps_set (i := 2) (sc62).nd rfl (by first | exact Or.inl rfl | exact Or.inr rfl) (C8.pe_mt (ok_Run_piece_at (P := P) (w := w) T) hr (by decide) (pv 0) (pa_cons (pv 1) pa_nil)))
      (pss_cons (ps_if (pt_cmpR (op_self o) (pv 2) pe_non (nomark _)) (pss_one (ps_ret pe_non)) pss_nil)
      (pss_one (ps_ret (pe_ix (ix_self o) (pe_ix (ix_self o) (pe_fldZ o (pe_fldZ o (pv 0) rfl) rfl) (pv 2) (fun _ _ => rfl)) (pe_ix (ix_self o) (pe_ix (ix_self o) (pe_fldZ o (pv 0) rfl) (pv 1) (fun _ _ => rfl)) pe_int (fun _ _ => rfl)) (fun _ _ => rfl)))))), ?_⟩
    walk_at "go"
    refine ⟨r, h, p, ats, left, rfl, S, hh, ?_⟩
    rw [hpc]
    have e : optV (some pc) = .int pc := rfl
    rw [e]
    walk_at "go"
    exact q _ (by rw [← hky]; exact hks.2 kp (List.mem_of_getElem? hkp))
def spMay (P : Program) (w : World) : Sp := fun vs H Q _ => ∃ (r : Addr) (pc : Int) (p : Pp) (ats : List (Int × Int)) (left : List Int), vs = [.ref r, .int pc] ∧ RSt P w H r p ats left ∧ ∀ H', Same H H' → Q (.bl (mayBegin p.ws left pc)) H'
theorem sc63 : FnScope ["self", "piece", "late", "soon"] ["self", "piece"] (C8.fnScope st63) := C8.fnScope_by (by decide +kernel)
theorem ok_Run_may_begin (T : Txt K mg) : C8.Met P w K mg base 1 780 "may_begin" (spMay P w) [] := by
  refine met_by (k := 0) (T.df 63 _ rfl) (c_Run T) (m_Run_may_begin T) sc63 (fun _ _ _ _ us hl => match us, hl with | [_, _], _ => rfl) (fun vs H Q E h => ?_) (fun A outer s H vs Q E hr o h => ?_)
  · obtain ⟨r, pc, p, ats, left, rfl, _⟩ := h
    rfl
  · obtain ⟨r, pc, p, ats, left, rfl, ⟨aok, pa, la, ll, lm, lo, lx, ⟨⟨pok, pdx, pj, lp, lh, lw, pd, plx, hpa, J, hlp, hlh, ⟨ds, d1, d2, d3⟩, hsl⟩, dx, hrr⟩, ⟨as, a1, a2, a3⟩, hll⟩, q⟩ := h
    have hll' : H ll = some (.lst (left.map V.int)) := hll
    refine ⟨_, (pss_one (ps_ret (pe_callB (cr_self o) (by rfl) (z_all T) b_all (pa_cons (pe_lc (own := [("late", 2), ("soon", 3)]) rfl (sc63).nd (pi_listZ o (pe_fldZ o (pe_fldZ o (pv 0) rfl) rfl)) (blkOk_by (own := [("late", 2), ("soon", 3)]) (by kernel_rfl)) (fun _ _ _ _ _ => pg_mn (pg_tupZ (n := 2) o.blk (pgs_cons (pg_name (i := 2) (sc63).nd (by rfl) (by first | exact Or.inl rfl | exact Or.inr rfl)) (pgs_cons (pg_name (i := 3) (sc63).nd (by rfl) (by first | exact Or.inl rfl | exact Or.inr rfl)) pgs_nil)))) (fun _ _ _ _ _ => pts_mn (pts_one (pt_cmpR (op_self o.blk) (pv 2) (pv 1) (nomark _)))) (fun _ _ _ _ _ => pe_mn (pe_cmpR (op_self o.blk) (pe_ix (ix_self o.blk) (pe_fldZ o.blk (pv 0) rfl) (pv 3) (fun _ _ => rfl)) pe_int (nomark _)))) pa_nil)))), ?_⟩
    walk_at "go"
    refine lcL (a := lw) (xs := ds.map V.ref) [] (fun D i acc H' => acc = (((p.ws.take i).filter fun z => decide (z.1 = pc)).map fun z => decide (left[z.2.toNat]? = some 0)).map V.bl) (by rw [List.length_map]; have := pok.wl; omega) d1 (by simp) (fun D H' nD sD hD => rfl) (fun D i x acc H5 nD hx hlj k5 hD ea => ?_) (fun D acc H5 nD hl5 k5 hD ea => ?_)
    · have s5 := keep0 k5
      obtain ⟨a, ha, rfl⟩ := map_at hx
      have hi := (List.getElem?_eq_some_iff.mp ha).1
      obtain ⟨z, hz⟩ : ∃ z, p.ws[i]? = some z := ⟨_, List.getElem?_eq_getElem (by omega)⟩
      have hz' : H5 a = some (.tup [.int z.1, .int z.2]) := s5 _ _ (d3 i a z ha hz)
      obtain ⟨b1, b2, b3, b4⟩ := pok.wk z (List.mem_of_getElem? hz)
      have hll5 := s5 _ _ hll'
      obtain ⟨lv, hlv⟩ : ∃ lv, left[z.2.toNat]? = some lv := ⟨_, List.getElem?_eq_getElem (by rw [aok.ll]; omega)⟩
      have e2 : z.2 = ((z.2.toNat : Nat) : Int) := by omega
      have at2 : atI (left.map V.int) z.2 = some (V.int lv) := by rw [e2]; exact atI_nat (by rw [List.getElem?_map, hlv]; rfl)
      walk_at "go"
      by_cases hb : z.1 = pc
      · rw [decide_eq_true hb, if_pos rfl]
        walk_at "go"
        refine ⟨hD, k5, fun H6 k6 h6 => ?_⟩
        rw [ea, List.take_add_one, hz]
        simp [hb, hlv]
      · rw [decide_eq_false hb, if_neg Bool.false_ne_true]
        refine ⟨hD, k5, ?_⟩
        rw [ea, List.take_add_one, hz]
        simp [hb]
    · have hl : (ds.map V.ref).length = p.ws.length := by rw [List.length_map, d2]
      rw [hl, List.take_of_length_le (Nat.le_refl _)] at ea
      rw [ea] at hD
      refine v_all hD ?_
      have e : (((p.ws.filter fun z => decide (z.1 = pc)).map fun z => decide (left[z.2.toNat]? = some 0)).all id) = mayBegin p.ws left pc := by
        unfold mayBegin
        rw [List.all_map]
        rfl
      rw [e]
      exact q H5 (keep0 k5)
def spCan (P : Program) (w : World) : Sp := fun vs H Q _ => ∃ (r : Addr) (h : Nat) (p : Pp) (ats : List (Int × Int)) (left : List Int), vs = [.ref r, .int h] ∧ RSt P w H r p ats left ∧ h < p.hs.length ∧ ∀ H', Same H H' → Q (.bl (canStep p ats left h)) H'
theorem sc64 : FnScope ["self", "hand", "piece"] ["self", "hand"] (C8.fnScope st64) := C8.fnScope_by (by decide +kernel)
theorem ok_Run_can_step (T : Txt K mg) : C8.Met P w K mg base 2 780 "can_step" (spCan P w) [] := by
  refine met_by (k := 1) (T.df 64 _ rfl) (c_Run T) (m_Run_can_step T) sc64 (fun _ _ _ _ us hl => match us, hl with | [_, _], _ => rfl) (fun vs H Q E h => ?_) (fun A outer s H vs Q E hr o h => ?_)
  · obtain ⟨r, h, p, ats, left, rfl, _⟩ := h
    rfl
  · obtain ⟨r, h, p, ats, left, rfl, S, hh, q⟩ := h
    obtain ⟨aok, pa, la, ll, lm, lo, lx, ⟨⟨pok, pdx, pj, lp, lh, lw, pd, plx, hpa, J, hlp, hlh, hlw, hsl⟩, dx, hrr⟩, ⟨as, a1, a2, a3⟩, hll⟩ := id S
    obtain ⟨z, hz⟩ : ∃ z, ats[h]? = some z := ⟨_, List.getElem?_eq_getElem (by rw [aok.al]; exact hh)⟩
    obtain ⟨ta, hta⟩ : ∃ ta, as[h]? = some ta := ⟨_, List.getElem?_eq_getElem (by rw [a2, aok.al]; exact hh)⟩
    have hta' : H ta = some (.tup [.int z.1, .int z.2]) := a3 h ta z hta hz
    have htv : (as.map V.ref)[h]? = some (V.ref ta) := by rw [List.getElem?_map, hta]; rfl
    refine ⟨_, (pss_cons (ps_set (i := 2) (sc64).nd rfl (by first | exact Or.inl rfl | exact Or.inr rfl) (C8.pe_mt (ok_Run_piece_at (P := P) (w := w) T) hr (by decide) (pv 0) (pa_cons (pv 1) pa_nil)))
      (pss_one (ps_ret (pe_and (pe_cmpR (op_self o) (pv 2) pe_non (nomark _)) (pe_one (pe_or (pe_cmpR (op_self o) (pe_ix (ix_self o) (pe_ix (ix_self o) (pe_fldZ o (pv 0) rfl) (pv 1) (fun _ _ => rfl)) pe_int (fun _ _ => rfl)) pe_int (nomark _)) (pe_one (C8.pe_mt (ok_Run_may_begin (P := P) (w := w) T) hr (by decide) (pv 0) (pa_cons (pv 2) pa_nil))))))))), ?_⟩
    walk_at "go"
    refine ⟨r, h, p, ats, left, rfl, S, hh, ?_⟩
    cases hp : pieceAt p.hs ats h with
    | none =>
      have e : optV none = .non := rfl
      rw [e]
      walk_at "go"
      have e2 : canStep p ats left h = false := by unfold canStep; rw [hp]
      rw [e2] at q
      exact q H (Same.refl H)
    | some pc =>
      have e : optV (some pc) = .int pc := rfl
      rw [e]
      walk_at "go"
      have e2 : canStep p ats left h = (decide (0 < z.2) || mayBegin p.ws left pc) := by unfold canStep; rw [hp, hz]; rfl
      rw [e2] at q
      refine iteD (fun hb => ?_) (fun hb => ?_)
      · rw [decide_eq_true hb] at q
        exact q H (Same.refl H)
      · rw [decide_eq_false hb] at q
        walk_at "go"
        exact ⟨r, pc, p, ats, left, rfl, S, fun H' s' => q H' s'⟩
def readyF (p : Pp) (ats : List (Int × Int)) (left : List Int) : List Int := ((List.range p.hs.length).filter fun h => canStep p ats left h).map fun (h : Nat) => (h : Int)
def spReady (P : Program) (w : World) : Sp := fun vs H Q _ => ∃ (r : Addr) (p : Pp) (ats : List (Int × Int)) (left : List Int), vs = [.ref r] ∧ RSt P w H r p ats left ∧ ∀ H' l, Same H H' → H l = none → H' l = some (.lst ((readyF p ats left).map V.int)) → Q (.ref l) H'
theorem sc65 : FnScope ["self", "hand"] ["self"] (C8.fnScope st65) := C8.fnScope_by (by decide +kernel)
theorem ok_Run_ready (T : Txt K mg) : C8.Met P w K mg base 3 780 "ready" (spReady P w) [] := by
  refine met_by (k := 2) (T.df 65 _ rfl) (c_Run T) (m_Run_ready T) sc65 (fun _ _ _ _ us hl => match us, hl with | [_], _ => rfl) (fun vs H Q E h => ?_) (fun A outer s H vs Q E hr o h => ?_)
  · obtain ⟨r, p, ats, left, rfl, _⟩ := h
    rfl
  · obtain ⟨r, p, ats, left, rfl, S, q⟩ := h
    obtain ⟨aok, pa, la, ll, lm, lo, lx, ⟨⟨pok, pdx, pj, lp, lh, lw, pd, plx, hpa, J, hlp, hlh, hlw, hsl⟩, dx, hrr⟩, ⟨as, a1, a2, a3⟩, hll⟩ := id S
    refine ⟨_, (pss_one (ps_ret (pe_lc (own := [("hand", 1)]) rfl (sc65).nd (pi_range1 (by rfl) (z_range T) (pa_cons (pe_callB (cr_self o) (by rfl) (z_len T) b_len (pa_cons (pe_fldZ o (pv 0) rfl) pa_nil)) pa_nil)) (blkOk_by (own := [("hand", 1)]) (by kernel_rfl)) (fun _ _ _ _ _ => pg_mn (pg_name (i := 1) (sc65).nd (by rfl) (by first | exact Or.inl rfl | exact Or.inr rfl))) (fun _ _ _ _ _ => pts_mn (pts_one (pt_val (C8.pe_mt (ok_Run_can_step (P := P) (w := w) T) hr (by decide) (pv 0) (pa_cons (pv 1) pa_nil))))) (fun _ _ _ _ _ => pe_mn (pv 1))))), ?_⟩
    walk_at "go"
    refine lcR (n := p.hs.length) (by rw [List.length_map, a2, aok.al]) [] (fun D i acc H' => acc = (((List.range i).filter fun h => canStep p ats left h).map fun (h : Nat) => (h : Int)).map V.int) (by have := pok.hl.2; omega) (fun D H' nD sD hD => rfl) (fun D i acc H5 nD hi hlj k5 hD ea => ?_) (fun D acc H5 nD hl5 k5 hD ea => ?_)
    · have s5 := keep0 k5
      walk_at "go"
      refine ⟨r, i, p, ats, left, rfl, S.same s5, hi, fun H6 s6 => ?_⟩
      walk_at "go"
      cases hb : canStep p ats left i with
      | true =>
        rw [if_pos rfl]
        walk_at "go"
        refine ⟨s6 _ _ hD, same_k0 (s5.trans s6), fun H7 k7 h7 => ?_⟩
        rw [ea, List.range_succ]
        simp [hb]
      | false =>
        rw [if_neg Bool.false_ne_true]
        refine ⟨s6 _ _ hD, same_k0 (s5.trans s6), ?_⟩
        rw [ea, List.range_succ]
        simp [hb]
    · rw [ea] at hD
      exact q H5 D (keep0 k5) nD hD
def spOver (P : Program) (w : World) : Sp := fun vs H Q _ => ∃ (r : Addr) (p : Pp) (ats : List (Int × Int)) (left : List Int), vs = [.ref r] ∧ RSt P w H r p ats left ∧ ∀ H', Same H H' → Q (.bl (left.all fun v => decide (v = 0))) H'
theorem sc70 : FnScope ["self", "many"] ["self"] (C8.fnScope st70) := C8.fnScope_by (by decide +kernel)
theorem ok_Run_is_over (T : Txt K mg) : C8.Met P w K mg base 1 780 "is_over" (spOver P w) [] := by
  refine met_by (k := 0) (T.df 70 _ rfl) (c_Run T) (m_Run_is_over T) sc70 (fun _ _ _ _ us hl => match us, hl with | [_], _ => rfl) (fun vs H Q E h => ?_) (fun A outer s H vs Q E hr o h => ?_)
  · obtain ⟨r, p, ats, left, rfl, _⟩ := h
    rfl
  · obtain ⟨r, p, ats, left, rfl, S, q⟩ := h
    obtain ⟨aok, pa, la, ll, lm, lo, lx, ⟨⟨pok, pdx, pj, lp, lh, lw, pd, plx, hpa, J, hlp, hlh, hlw, hsl⟩, dx, hrr⟩, ⟨as, a1, a2, a3⟩, hll⟩ := id S
    have hll' : H ll = some (.lst (left.map V.int)) := hll
    refine ⟨_, (pss_one (ps_ret (pe_callB (cr_self o) (by rfl) (z_all T) b_all (pa_cons (pe_lc (own := [("many", 1)]) rfl (sc70).nd (pi_listZ o (pe_fldZ o (pv 0) rfl)) (blkOk_by (own := [("many", 1)]) (by kernel_rfl)) (fun _ _ _ _ _ => pg_mn (pg_name (i := 1) (sc70).nd (by rfl) (by first | exact Or.inl rfl | exact Or.inr rfl))) (fun _ _ _ _ _ => pts_mn pts_nil) (fun _ _ _ _ _ => pe_mn (pe_cmpR (op_self o.blk) (pv 1) pe_int (nomark _)))) pa_nil)))), ?_⟩
    walk_at "go"
    refine lcL (a := ll) (xs := left.map V.int) [] (fun D i acc H' => acc = ((left.take i).map fun v => decide (v = 0)).map V.bl) (by rw [List.length_map, aok.ll]; have := pok.pl; omega) hll' (by simp) (fun D H' nD sD hD => rfl) (fun D i x acc H5 nD hx hlj k5 hD ea => ?_) (fun D acc H5 nD hl5 k5 hD ea => ?_)
    · obtain ⟨v, hv, rfl⟩ := map_at hx
      walk_at "go"
      refine ⟨hD, k5, fun H6 k6 h6 => ?_⟩
      rw [ea, List.take_add_one, hv]
      simp
    · rw [List.length_map, List.take_of_length_le (Nat.le_refl _)] at ea
      rw [ea] at hD
      refine v_all hD ?_
      rw [List.all_map]
      exact q H5 (keep0 k5)
end
end
section
set_option maxHeartbeats 4000000
theorem Keep.tups {S : List Addr} {H H' : Hp} (k : Keep S H H') (h : ∀ b ∈ S, ∀ xs, H b ≠ some (.tup xs)) : Tups H H' := fun b xs e => k b _ e fun z => h b z xs e
theorem valD_of {es : List DE} {z : Sp2} (h : z ∈ es.map (·.1)) : ∃ e ∈ es, valD es z = some e.2.2 ∧ e.1 = z := by
  unfold valD
  cases hf : es.find? (fun p => decide (p.1 = z)) with
  | none =>
    obtain ⟨e, he, ee⟩ := List.mem_map.mp h
    have := List.find?_eq_none.mp hf e he
    simp [ee] at this
  | some e =>
    have h1 := List.mem_of_find?_eq_some hf
    have h2 := List.find?_some hf
    exact ⟨e, h1, rfl, by simpa using h2⟩
theorem valV_mem {kvs : List (Key × V)} {k : Key} {v : V} (h : valV kvs k = some v) : (k, v) ∈ kvs := by
  unfold valV at h
  cases hf : kvs.find? (fun kv => decide (kv.1 = k)) with
  | none => rw [hf] at h; cases h
  | some e =>
    rw [hf] at h
    cases h
    have h1 := List.mem_of_find?_eq_some hf
    have h2 : e.1 = k := by simpa using List.find?_some hf
    rw [← h2]
    exact h1
/-! ### the room -/
def RoomV (H : Hp) (v : V) : Prop := ∃ (t q : Addr) (y : Sp2) (n : Int), v = .ref t ∧ H t = some (.tup [.ref q, .int n]) ∧ SpA H q y ∧ 0 ≤ n ∧ n ≤ 96
def RoomA (H : Hp) (lm : Addr) (m : Nat) : Prop := ∃ kvs : List (Key × V), H lm = some (.dK kvs) ∧ kvs.length ≤ m ∧ ∀ e ∈ kvs, RoomV H e.2
theorem RoomV.mono {H H' : Hp} {v : V} (h : RoomV H v) (s : Tups H H') : RoomV H' v := by
  obtain ⟨t, q, y, n, h1, h2, h3, h4⟩ := h
  exact ⟨t, q, y, n, h1, s _ _ h2, h3.mono s, h4⟩
theorem RoomA.same {H H' : Hp} {lm : Addr} {m : Nat} (h : RoomA H lm m) (s : Same H H') : RoomA H' lm m := by
  obtain ⟨kvs, h1, h2, h3⟩ := h
  exact ⟨kvs, s _ _ h1, h2, fun e he => (h3 e he).mono (same_nol s).tups⟩
theorem RoomA.keep {H H' : Hp} {lm : Addr} {m : Nat} (h : RoomA H lm m) (s : Tups H H') (k : ∀ kvs, H lm = some (.dK kvs) → H' lm = some (.dK kvs)) : RoomA H' lm m := by
  obtain ⟨kvs, h1, h2, h3⟩ := h
  exact ⟨kvs, k _ h1, h2, fun e he => (h3 e he).mono s⟩
section
variable {P : Program} {w : World} {K : PySem.W.Frag} {mg : Str → Option Value} {base : Heap}
theorem c_getD {td ty : TE} {σ : L2.St} {H : Hp} {Q : VK} (q : td σ H fun x H1 => ty σ H1 fun y H2 => ∃ (d : Addr) (o : Obj) (xs : List DE) (a : Addr) (z : Sp2) (v : V), x = .ref d ∧ y = .ref a ∧
  H2 d = some (DicO P w d o xs) ∧ (∀ p ∈ xs, SpA H2 p.2.1 p.1) ∧ SpA H2 a z ∧ valD xs z = some v ∧ Q v H2) : tGetD P w td ty σ H Q := q
local macro_rules
  | `(tactic| walk_at "1") => `(tactic| (with_reducible refine c_getD ?_))

def spHeld : Sp := fun vs H Q _ => ∃ (r dx pa la ll lm lo lx : Addr) (k : Int) (kvs : List (Key × V)), vs = [.ref r, .int k] ∧ H r = some (o_Run dx (.ref pa) (.ref la) (.ref ll) (.ref lm) (.ref lo) (.ref lx)) ∧ H lm = some (.dK kvs) ∧ Q ((valV kvs (Sum.inl k : Key)).getD .non) H
theorem sc66 : FnScope ["self", "slot"] ["self", "slot"] (C8.fnScope st66) := C8.fnScope_by (by decide +kernel)
theorem ok_Run_held (T : Txt K mg) : C8.Met P w K mg base 1 780 "held" spHeld [] := by
  refine met_by (k := 0) (T.df 66 _ rfl) (c_Run T) (m_Run_held T) sc66 (fun _ _ _ _ us hl => match us, hl with | [_, _], _ => rfl) (fun vs H Q E h => ?_) (fun A outer s H vs Q E hr o h => ?_)
  · obtain ⟨r, dx, pa, la, ll, lm, lo, lx, k, kvs, rfl, _⟩ := h
    rfl
  · obtain ⟨r, dx, pa, la, ll, lm, lo, lx, k, kvs, rfl, hr', hm, q⟩ := h
    refine ⟨_, (pss_one (ps_ret (pe_dget1 o.hu1 (pe_mn (pe_fldZ o (pv 0) rfl)) (pe_mn (pv 1)) ⟨rfl, rfl, rfl, rfl⟩))), ?_⟩
    walk_at "go"
    refine ⟨lm, kvs, rfl, hm, ?_⟩
    walk_at "go"
    exact dg2V hm q
/-- the run's addresses and its room -/
structure RunR (P : Program) (w : World) (H : Hp) (r pa la ll lm lo lx : Addr) (p : Pp) (m : Nat) : Prop where
  ra : RunA P w H r pa la ll lm lo lx p
  rm : RoomA H lm m
def spLook (P : Program) (w : World) : Sp := fun vs H Q _ => ∃ (r pa la ll lm lo lx a : Addr) (p : Pp) (m : Nat) (y : Sp2), vs = [.ref r, .ref a] ∧ RunR P w H r pa la ll lm lo lx p m ∧ SpA H a y ∧ SpOk p.R p.sz y ∧ ∀ n : Int, 0 ≤ n → n ≤ 96 → Q (.int n) H
theorem sc67 : FnScope ["self", "spot", "there"] ["self", "spot"] (C8.fnScope st67) := C8.fnScope_by (by decide +kernel)
theorem ok_Run_look (T : Txt K mg) : C8.Met P w K mg base 2 780 "look" (spLook P w) [] := by
  refine met_by (k := 1) (T.df 67 _ rfl) (c_Run T) (m_Run_look T) sc67 (fun _ _ _ _ us hl => match us, hl with | [_, _], _ => rfl) (fun vs H Q E h => ?_) (fun A outer s H vs Q E hr o h => ?_)
  · obtain ⟨r, pa, la, ll, lm, lo, lx, a, p, m, y, rfl, _⟩ := h
    rfl
  · obtain ⟨r, pa, la, ll, lm, lo, lx, a, p, m, y, rfl, ⟨⟨⟨pok, pdx, pj, lp, lh, lw, pd, plx, hpa, J, hlp, hlh, hlw, ⟨od, es, hd, hz, hsp, hv⟩⟩, dx, hrr⟩, kvs, hm, hml, hrm⟩, ha, hy, q⟩ := h
    obtain ⟨e, he, hval, hez⟩ := valD_of (es := es) (z := y) (by rw [hz]; exact pok.kp.mem_iff.mpr (mem_spotsF.mpr hy))
    obtain ⟨i, hi, i0, i1⟩ := hv e he
    rw [hi] at hval
    refine ⟨_, (pss_cons (ps_set (i := 2) (sc67).nd rfl (by first | exact Or.inl rfl | exact Or.inr rfl) (C8.pe_mt (ok_Run_held (P := P) (w := w) T) hr (by decide) (pv 0) (pa_cons (pe_getDZ o (pe_fldZ o (pe_fldZ o (pv 0) rfl) rfl) (pv 1) (fun _ _ => rfl)) pa_nil)))
      (pss_cons (ps_if (pt_cmpR (op_self o) (pv 2) pe_non (nomark _)) (pss_one (ps_ret pe_int)) pss_nil)
      (pss_one (ps_ret (pe_ix (ix_self o) (pv 2) pe_int (fun _ _ => rfl)))))), ?_⟩
    walk_at "go"
    refine ⟨pd, od, es, a, y, .int i, rfl, rfl, hd, hsp, ha, hval, ?_⟩
    walk_at "go"
    refine ⟨r, dx, pa, la, ll, lm, lo, lx, i, kvs, rfl, hrr, hm, ?_⟩
    cases hvv : valV kvs (Sum.inl i : Key) with
    | none =>
      have e : (none : Option V).getD V.non = .non := rfl
      rw [e]
      walk_at "go"
      exact q 0 (by omega) (by omega)
    | some v =>
      obtain ⟨t, qa, y', n, rfl, ht, hq, n0, n1⟩ := hrm _ (valV_mem hvv)
      have e : (some (V.ref t)).getD V.non = .ref t := rfl
      rw [e]
      walk_at "go"
      exact q n n0 n1
/-! ### note_reads -/
def spNote (P : Program) (w : World) : Sp := fun vs H Q _ => ∃ (r pa la ll lm lo lx a : Addr) (p : Pp) (m : Nat) (y : Sp2) (am : List V), vs = [.ref r, .ref a] ∧ RunR P w H r pa la ll lm lo lx p m ∧ SpA H a y ∧ SpOk p.R p.sz y ∧ H lx = some (.lst am) ∧ am.length + 3 < 1000 ∧
  ∀ H' am', Keep [lx] H H' → H' lx = some (.lst am') → am'.length ≤ am.length + 3 → Q .non H'
theorem sc68 : FnScope ["self", "reader", "made", "there"] ["self", "reader"] (C8.fnScope st68) := C8.fnScope_by (by decide +kernel)
theorem ok_Run_note_reads (T : Txt K mg) : C8.Met P w K mg base 6 780 "note_reads" (spNote P w) [] := by
  refine met_by (k := 5) (T.df 68 _ rfl) (c_Run T) (m_Run_note_reads T) sc68 (fun _ _ _ _ us hl => match us, hl with | [_, _], _ => rfl) (fun vs H Q E h => ?_) (fun A outer s H vs Q E hr o h => ?_)
  · obtain ⟨r, pa, la, ll, lm, lo, lx, a, p, m, y, am, rfl, _⟩ := h
    rfl
  · obtain ⟨r, pa, la, ll, lm, lo, lx, a, p, m, y, am, rfl, RR, ha, hy, hlx, ham, q⟩ := h
    obtain ⟨⟨⟨pok, pdx, pj, lp, lh, lw, pd, plx, hpa, J, hlp, hlh, hlw, ⟨od, es, hd, hz, hsp, hv⟩⟩, dx, hrr⟩, kvs, hm, hml, hrm⟩ := id RR
    refine ⟨_, (pss_one (ps_for PassesOwn.never rfl (pi_listZ o (C8.pe_c (ok_leans_of (P := P) (w := w) T) hr (by decide) (by rfl) (pa_cons (pe_fldZ o (pe_fldZ o (pv 0) rfl) rfl) (pa_cons (pv 1) pa_nil)))) (pg_name (i := 2) (sc68).nd (by rfl) (by first | exact Or.inl rfl | exact Or.inr rfl)) (pss_cons (ps_set (i := 3) (sc68).nd rfl (by first | exact Or.inl rfl | exact Or.inr rfl) (C8.pe_mt (ok_Run_held (P := P) (w := w) T) hr (by decide) (pv 0) (pa_cons (pe_getDZ o (pe_fldZ o (pe_fldZ o (pv 0) rfl) rfl) (pv 2) (fun _ _ => rfl)) pa_nil)))
      (pss_one (ps_if (pt_cmpR (op_self o) (pv 3) pe_non (nomark _)) (pss_one (ps_expr (pe_bmZ o PySem.F.plainAttrs_list PySem.F.slot_list_append PySem.F.type_list_append (mt_self o) (pe_mn (pe_fldZ o (pv 0) rfl)) (pa_cons (pe_tup (pa_mn (pa_cons (pv 1) (pa_cons (pv 2) (pa_cons pe_non pa_nil))))) pa_nil)))) (pss_one (ps_if (pt_cmpR (op_self o) (pe_ix (ix_self o) (pv 3) pe_int (fun _ _ => rfl)) (pv 2) (nomark _)) (pss_one (ps_expr (pe_bmZ o PySem.F.plainAttrs_list PySem.F.slot_list_append PySem.F.type_list_append (mt_self o) (pe_mn (pe_fldZ o (pv 0) rfl)) (pa_cons (pe_tup (pa_mn (pa_cons (pv 1) (pa_cons (pv 2) (pa_cons (pe_ix (ix_self o) (pv 3) pe_int (fun _ _ => rfl)) pa_nil))))) pa_nil)))) pss_nil))))))), ?_⟩
    walk_at "go"
    refine ⟨pj, a, p.sz, p.R, y, rfl, J, ha, hy, fun H1 l ks s1 nl hl hok hfew => ?_⟩
    have hl1 := hl.1
    have lxl : l ≠ lx := fun z => by rw [z, hlx] at nl; cases nl
    walk_at "go"
    refine forL (a := l) (xs := ks.vs) (fun i σ H' => Keep [lx] H1 H' ∧ (∃ am', H' lx = some (.lst am') ∧ am'.length ≤ am.length + i) ∧ ∃ b c, σ = [some (.ref r), some (.ref a), b, c]) ⟨Keep.refl _, ⟨am, s1 _ _ hlx, Nat.le_refl _⟩, _, _, rfl⟩ (fun i σ H' hi ⟨e, _⟩ => e _ _ hl1 (nin1 lxl)) (fun i x σ H2 hx ⟨e, ⟨am', hl2, hle⟩, b, c, es'⟩ => ?_) (fun σ H2 ⟨e, ⟨am', hl2, hle⟩, b, c, es'⟩ => ?_)
    · subst es'
      obtain ⟨kp, hkp, rfl⟩ := map_at hx
      have hi := (List.getElem?_eq_some_iff.mp hkp).1
      have kok := hok kp.2 (List.mem_map.mpr ⟨kp, List.mem_of_getElem? hkp, rfl⟩)
      obtain ⟨e0, he0, hval, hez⟩ := valD_of (es := es) (z := kp.2) (by rw [hz]; exact pok.kp.mem_iff.mpr (mem_spotsF.mpr kok.1))
      obtain ⟨i0, hi0, _, _⟩ := hv e0 he0
      rw [hi0] at hval
      have nn : Tups H H2 := (same_nol s1).tups.trans ((e.nolL (s1 _ _ hlx)).tups)
      have hrr1 := s1 _ _ hrr
      have hpa1 := s1 _ _ hpa
      have hd1 := s1 _ _ hd
      have hm1 := s1 _ _ hm
      have hlx1 := s1 _ _ hlx
      have hkp2 := (hl.2 kp (List.mem_of_getElem? hkp)).nol (e.nolL hlx1)
      have hrr2 : H2 r = some (o_Run dx (.ref pa) (.ref la) (.ref ll) (.ref lm) (.ref lo) (.ref lx)) := e _ _ hrr1 (nin1 (ne_of hrr1 hlx1 (fun z => nomatch z)))
      have hpa2 : H2 pa = some (o_Paper pdx (.ref pj) (.ref lp) (.ref lh) (.ref lw) (.ref pd) plx) := e _ _ hpa1 (nin1 (ne_of hpa1 hlx1 (fun z => nomatch z)))
      have hd2 := e _ _ hd1 (nin1 (ne_of hd1 hlx1 (fun z => nomatch z)))
      have hm2 := e _ _ hm1 (nin1 (ne_of hm1 hlx1 (fun z => nomatch z)))
      walk_at "go"
      refine ⟨pd, od, es, kp.1, kp.2, .int i0, rfl, rfl, hd2, fun p' hp' => (hsp p' hp').mono nn, hkp2, hval, ?_⟩
      walk_at "go"
      refine ⟨r, dx, pa, la, ll, lm, lo, lx, i0, kvs, rfl, hrr2, hm2, ?_⟩
      cases hvv : valV kvs (Sum.inl i0 : Key) with
      | none =>
        have e1 : (none : Option V).getD V.non = .non := rfl
        rw [e1]
        walk_at "go"
        refine ⟨len3, fun t H3 n3 s3 h3 => ?_⟩
        have hl3 := s3 _ _ hl2
        walk_at "go"
        refine v_app hl3 (bigL (by omega)) fun H4 k4 h4 => ?_
        walk_at "go"
        exact ⟨e.trans ((Keep.of s3).trans k4), ⟨_, h4, by simp; omega⟩, _, _, rfl⟩
      | some v =>
        obtain ⟨t, qa, y', n, rfl, ht, hq, n0, n1⟩ := hrm _ (valV_mem hvv)
        have e1 : (some (V.ref t)).getD V.non = .ref t := rfl
        have ht2 := nn _ _ ht
        have hq2 := hq.mono nn
        rw [e1]
        walk_at "go"
        refine v_neS hq2 hkp2 ?_
        by_cases hb : y' = kp.2
        · rw [decide_eq_true hb]
          walk_at "go"
          exact ⟨e, ⟨am', hl2, by omega⟩, _, _, rfl⟩
        · rw [decide_eq_false hb]
          walk_at "go"
          refine ⟨len3, fun t H3 n3 s3 h3 => ?_⟩
          have hl3 := s3 _ _ hl2
          walk_at "go"
          refine v_app hl3 (bigL (by omega)) fun H4 k4 h4 => ?_
          walk_at "go"
          exact ⟨e.trans ((Keep.of s3).trans k4), ⟨_, h4, by simp; omega⟩, _, _, rfl⟩
    · subst es'
      have kl : ks.vs.length = ks.length := by simp [SpL.vs]
      walk_at "go"
      exact q H2 am' ((Keep.of s1).trans e) hl2 (by omega)
end
end
local macro_rules
  | `(tactic| walk_at "1") => `(tactic| (with_reducible refine c_getD ?_))

section
set_option maxHeartbeats 4000000
/-! ### all but the code tables stays -/
def isT : HO → Bool
  | .tbl _ => true
  | _ => false
def NT (H H' : Hp) : Prop := ∀ b o, H b = some o → isT o = false → H' b = some o
def dropT (H : Hp) : Hp := fun b => match H b with
  | some (.tbl _) => none
  | o => o
theorem dropT_le {H : Hp} : Same (dropT H) H := fun b o e => by
  unfold dropT at e
  split at e
  · cases e
  · exact e
theorem dropT_nt {H : Hp} : NT H (dropT H) := fun b o e n => by
  unfold dropT
  rw [e]
  cases o <;> first | rfl | cases n
theorem dropT_tb {H : Hp} {b : Addr} {ps : Array Value} (h : H b = some (.tbl ps)) : dropT H b = none := by
  unfold dropT
  rw [h]
theorem dropT_none {H : Hp} {b : Addr} (h : H b = none) : dropT H b = none := by
  unfold dropT
  rw [h]
theorem NT.tups {H H' : Hp} (s : NT H H') : Tups H H' := fun b xs h => s b _ h rfl
theorem EdgeA.nt {H H' : Hp} {a : Addr} {s : Int} {k : Rk} (h : EdgeA H a s k) (e : NT H H') : EdgeA H' a s k := by
  cases k <;> exact ⟨h.choose, e _ _ h.choose_spec rfl⟩
theorem GridA.nt {H H' : Hp} {g : Addr} {sz : List Int} (h : GridA H g sz) (t : NT H H') : GridA H' g sz := by
  obtain ⟨ok, dx, s, r, e, rk, h1, h2, h3, es, h4, h5, h6⟩ := h
  exact ⟨ok, dx, s, r, e, rk, t _ _ h1 rfl, t _ _ h2 rfl, h3, es, t _ _ h4 rfl, h5, fun i a z k x y w => (h6 i a z k x y w).nt t⟩
theorem TmA.nt {H H' : Hp} (n : NT H H') : ∀ {t : Tm} {a : Addr}, TmA H a t → TmA H' a t
  | .num v, a, ⟨dx, h⟩ => ⟨dx, n _ _ h rfl⟩
  | .take b ss, a, ⟨dx, p, h, h'⟩ => ⟨dx, p, n _ _ h rfl, n _ _ h' rfl⟩
  | .add x y, a, ⟨dx, p, q, h, h1, h2⟩ => ⟨dx, p, q, n _ _ h rfl, TmA.nt n h1, TmA.nt n h2⟩
  | .mul x y, a, ⟨dx, p, q, h, h1, h2⟩ => ⟨dx, p, q, n _ _ h rfl, TmA.nt n h1, TmA.nt n h2⟩
theorem LSp.nt {H H' : Hp} {l : Addr} {ks : SpL} (h : LSp H l ks) (s : NT H H') : LSp H' l ks := ⟨s _ _ h.1 rfl, fun p hp => (h.2 p hp).mono s.tups⟩
theorem FirstA.nt {H H' : Hp} {fl : Addr} {d : Int} {m : Nat} (h : FirstA H fl d m) (s : NT H H') : FirstA H' fl d m := by
  obtain ⟨rs, h1, h2, h3, h4⟩ := h
  exact ⟨rs, s _ _ h1 rfl, h2, h3, fun r hr => by obtain ⟨ns, a, b⟩ := h4 r hr; exact ⟨ns, s _ _ a rfl, b⟩⟩
theorem JobA.nt {H H' : Hp} {j : Addr} {sz : List Int} {R : Nat} (h : JobA H j sz R) (s : NT H H') : JobA H' j sz R := by
  obtain ⟨a, b, dx, g, tm, tl, fl, t, ks, h1, h2, h3, h4, h5, h6, h7, h8, h9⟩ := h
  exact ⟨a, b, dx, g, tm, tl, fl, t, ks, s _ _ h1 rfl, h2.nt s, TmA.nt s h3, h4, h5, h6.nt s, h7, h8, h9.nt s⟩
theorem LO.nt {α : Type} {R : Hp → Addr → α → Prop} (hR : ∀ {H H' : Hp} {a : Addr} {z : α}, R H a z → NT H H' → R H' a z) {H H' : Hp} {l : Addr} {zs : List α} (h : LO R H l zs) (s : NT H H') : LO R H' l zs := by
  obtain ⟨as, h1, h2, h3⟩ := h
  exact ⟨as, s _ _ h1 rfl, h2, fun i a z x y => hR (h3 i a z x y) s⟩
theorem PaperA.nt {P : Program} {w : World} {H H' : Hp} {a : Addr} {p : Pp} (h : PaperA P w H a p) (s : NT H H') : PaperA P w H' a p := by
  obtain ⟨hd, dx, j, lp, lh, lw, d, lx, h1, h2, h3, h4, h5, od, es, e1, e2, e3, e4⟩ := h
  exact ⟨hd, dx, j, lp, lh, lw, d, lx, s _ _ h1 rfl, h2.nt s, LO.nt (R := LSz) (fun ⟨ks, a, b⟩ n => ⟨ks, a.nt n, b⟩) h3 s, LO.nt (R := LIn) (fun a n => n _ _ a rfl) h4 s, LO.nt (R := PrA) (fun a n => n _ _ a rfl) h5 s, od, es, s _ _ e1 rfl, e2, fun e he => (e3 e he).mono s.tups, e4⟩
section
variable {P : Program} {w : World} {K : PySem.W.Frag} {mg : Str → Option Value} {base : Heap}
/-! ### Run.__init__ -/
def spRunI (P : Program) (w : World) : Sp := fun vs H Q _ => ∃ (F : Hp) (x dx pa : Addr) (p : Pp), vs = [.ref x, .ref pa] ∧ H x = some (.ins 780 dx []) ∧ Same F H ∧ F x = none ∧ PaperA P w F pa p ∧
  ∀ H' la ll lm lo lx, Keep [x] H H' → H' x = some (o_Run dx (.ref pa) (.ref la) (.ref ll) (.ref lm) (.ref lo) (.ref lx)) →
    LO PrA H' la (List.replicate p.hs.length (0, 0)) → (∀ (i : Nat) (a : Addr), True) → LIn H' ll (p.pcs.map fun pc => (pc.length : Int)) → H' lm = some (.dK []) → H' lo = some (.lst []) → H' lx = some (.lst []) →
    H la = none → H ll = none → H lm = none → H lo = none → H lx = none → la ≠ ll → la ≠ lo → la ≠ lx → ll ≠ lo → ll ≠ lx → lo ≠ lx → Q .non H'
theorem sc60 : FnScope ["self", "paper", "row", "piece"] ["self", "paper"] (C8.fnScope st60) := C8.fnScope_by (by decide +kernel)
theorem ok_mk_Run (T : Txt K mg) : C8.Mak P w K mg base 2 "Run" 780 (spRunI P w) [] := by
  refine mak_by (k := 1) (T.df 60 _ rfl) (k_Run T) (g_Run T) sc60 (fun _ _ _ _ us hl => match us, hl with | [_, _], _ => rfl) (fun vs H Q E h => ?_) (fun A outer s H vs Q E hr o h => ?_)
  · obtain ⟨F, x, dx, pa, p, rfl, _⟩ := h
    rfl
  · obtain ⟨F, x, dx, pa, p, rfl, hx, sF, nx, PA, q⟩ := h
    obtain ⟨pok, pdx, pj, lp, lh, lw, pd, plx, hpa, J, ⟨cs, c1, c2, c3⟩, ⟨bs, b1, b2, b3⟩, hlw, hsl⟩ := id PA
    refine ⟨_, (pss_cons (ps_fld (pv 0) (pv 1) rfl)
      (pss_cons (ps_fld (pv 0) (pe_lc (own := [("row", 2)]) rfl (sc60).nd (pi_listZ o (pe_fldZ o (pv 1) rfl)) (blkOk_by (own := [("row", 2)]) (by kernel_rfl)) (fun _ _ _ _ _ => pg_mn (pg_name (i := 2) (sc60).nd (by rfl) (by first | exact Or.inl rfl | exact Or.inr rfl))) (fun _ _ _ _ _ => pts_mn pts_nil) (fun _ _ _ _ _ => pe_mn (pe_tup (pa_mn (pa_cons pe_int (pa_cons pe_int pa_nil)))))) rfl)
      (pss_cons (ps_fld (pv 0) (pe_lc (own := [("piece", 3)]) rfl (sc60).nd (pi_listZ o (pe_fldZ o (pv 1) rfl)) (blkOk_by (own := [("piece", 3)]) (by kernel_rfl)) (fun _ _ _ _ _ => pg_mn (pg_name (i := 3) (sc60).nd (by rfl) (by first | exact Or.inl rfl | exact Or.inr rfl))) (fun _ _ _ _ _ => pts_mn pts_nil) (fun _ _ _ _ _ => pe_mn (pe_callB (cr_self o.blk) (by rfl) (z_len T) b_len (pa_cons (pv 3) pa_nil)))) rfl)
      (pss_cons (ps_fld (pv 0) pe_dnewK rfl)
      (pss_cons (ps_fld (pv 0) (pe_lst (pa_mn pa_nil)) rfl)
      (pss_one (ps_fld (pv 0) (pe_lst (pa_mn pa_nil)) rfl))))))), ?_⟩
    walk_at "go"
    refine st_Run_paper T hx fun H1 k1 h1 => ?_
    have s1 := same_of_new sF nx k1
    have hpa1 := s1 _ _ hpa
    have b1' := s1 _ _ b1
    walk_at "go"
    refine lcL (a := lh) (xs := bs.map V.ref) [] (fun D i acc H' => ∃ rs : List Addr, acc = rs.map V.ref ∧ rs.length = i ∧ ∀ r ∈ rs, H' r = some (.tup [.int 0, .int 0])) (by rw [List.length_map]; have := pok.hl.2; omega) b1' (by simp) (fun D H' nD sD hD => ⟨[], rfl, rfl, fun r h => by simp at h⟩) (fun D i v acc H2 nD hx' hlj k2 hD ⟨rs, ea, el, hrs⟩ => ?_) (fun D acc H2 nD hl2 k2 hD ⟨rs, ea, el, hrs⟩ => ?_)
    · have s2 := keep0 k2
      walk_at "go"
      refine ⟨len2, fun r H3 n3 s3 h3 => ⟨s3 _ _ hD, same_k0 (s2.trans s3), fun H4 k4 h4 => ⟨rs ++ [r], by rw [ea]; simp, by simp [el], fun r' hr' => ?_⟩⟩⟩
      have tt := (k4.nolL (s3 _ _ hD)).tups
      rcases List.mem_append.mp hr' with z | z
      · exact tt _ _ (s3 _ _ (hrs _ z))
      · rw [List.mem_singleton.mp z]
        exact tt _ _ h3
    · have s2 := keep0 k2
      have Dx : D ≠ x := fun z => by rw [z, h1] at nD; cases nD
      have nDH : H D = none := by
        cases e : H D with
        | none => rfl
        | some o => exact absurd (k1 _ _ e (nin1 Dx)) (by rw [nD]; simp)
      walk_at "go"
      refine st_Run_at T (s2 _ _ h1) fun H3 k3 h3 => ?_
      have s3 := same_of_new (s1.trans s2) nx k3
      have hpa3 := s3 _ _ hpa
      have c1' := s3 _ _ c1
      have hD3 := k3 _ _ hD (nin1 Dx)
      walk_at "go"
      refine lcL (a := lp) (xs := cs.map V.ref) [] (fun D i acc H' => acc = ((p.pcs.take i).map fun pc => (pc.length : Int)).map V.int) (by rw [List.length_map]; have := pok.pl; omega) c1' (by simp) (fun D H' nD sD hD => rfl) (fun D2 i v acc H4 nD2 hx' hlj k4 hD2 ea2 => ?_) (fun D2 acc H4 nD2 hl4 k4 hD2 ea2 => ?_)
      · have s4 := keep0 k4
        obtain ⟨a, ha, rfl⟩ := map_at hx'
        have hi := (List.getElem?_eq_some_iff.mp ha).1
        obtain ⟨pc, hpc⟩ : ∃ pc, p.pcs[i]? = some pc := ⟨_, List.getElem?_eq_getElem (by omega)⟩
        obtain ⟨ks, hks, hz⟩ := c3 i a pc ha hpc
        have hk4 := s4 _ _ (s3 _ _ hks.1)
        walk_at "go"
        refine ⟨hD2, k4, fun H6 k6 h6 => ?_⟩
        rw [ea2, List.take_add_one, hpc, ← hz]
        simp [SpL.vs, SpL.zs]
      · have s4 := keep0 k4
        have D2x : D2 ≠ x := fun z => by rw [z, h3] at nD2; cases nD2
        have nD2H : H2 D2 = none := by
          cases e : H2 D2 with
          | none => rfl
          | some o => exact absurd (k3 _ _ e (nin1 D2x)) (by rw [nD2]; simp)
        have nD2H1 : H1 D2 = none := by
          cases e : H1 D2 with
          | none => rfl
          | some o => exact absurd (s2 _ _ e) (by rw [nD2H]; simp)
        have nD2H0 : H D2 = none := by
          cases e : H D2 with
          | none => rfl
          | some o => exact absurd (k1 _ _ e (nin1 D2x)) (by rw [nD2H1]; simp)
        have ne12 : D ≠ D2 := ne_of_none hD nD2H
        walk_at "go"
        refine st_Run_left T (s4 _ _ h3) fun H5 k5 h5 => ?_
        have hD5 := k5 _ _ (s4 _ _ hD3) (nin1 Dx)
        have hE5 := k5 _ _ hD2 (nin1 D2x)
        walk_at "go"
        refine fun m H6 n6 s6 h6 => ?_
        have mx : m ≠ x := fun z => by rw [z, h5] at n6; cases n6
        walk_at "go"
        refine st_Run_room T (s6 _ _ h5) fun H7 k7 h7 => ?_
        have hD7 := k7 _ _ (s6 _ _ hD5) (nin1 Dx)
        have hE7 := k7 _ _ (s6 _ _ hE5) (nin1 D2x)
        have hm7 := k7 _ _ h6 (nin1 mx)
        walk_at "go"
        refine ⟨len0, fun od H8 n8 s8 h8 => ?_⟩
        have ox : od ≠ x := fun z => by rw [z, h7] at n8; cases n8
        walk_at "go"
        refine st_Run_order T (s8 _ _ h7) fun H9 k9 h9 => ?_
        have hD9 := k9 _ _ (s8 _ _ hD7) (nin1 Dx)
        have hE9 := k9 _ _ (s8 _ _ hE7) (nin1 D2x)
        have hm9 := k9 _ _ (s8 _ _ hm7) (nin1 mx)
        have ho9 := k9 _ _ h8 (nin1 ox)
        walk_at "go"
        refine ⟨len0, fun am H10 n10 s10 h10 => ?_⟩
        have ax : am ≠ x := fun z => by rw [z, h9] at n10; cases n10
        walk_at "go"
        refine st_Run_amiss T (s10 _ _ h9) fun H11 k11 h11 => ?_
        have kk : ∀ b, b ≠ x → ∀ o, H b = some o → H11 b = some o := fun b nb o e =>
          k11 _ _ (s10 _ _ (k9 _ _ (s8 _ _ (k7 _ _ (s6 _ _ (k5 _ _ (s4 _ _ (k3 _ _ (s2 _ _ (k1 _ _ e (nin1 nb))) (nin1 nb))) (nin1 nb))) (nin1 nb))) (nin1 nb))) (nin1 nb)
        have t34 : Tups H2 H11 := fun b xs e => by
          have nb : b ≠ x := fun z => by rw [z, s2 _ _ h1] at e; cases e
          exact k11 _ _ (s10 _ _ (k9 _ _ (s8 _ _ (k7 _ _ (s6 _ _ (k5 _ _ (s4 _ _ (k3 _ _ e (nin1 nb))) (nin1 nb))) (nin1 nb))) (nin1 nb))) (nin1 nb)
        walk_at "go"
        have up : ∀ {b : Addr} {Hx : Hp}, b ≠ x → Hx b = none → (∀ o, H b = some o → Hx b = some o) → H b = none := fun {b Hx} nb n k => by
          cases e : H b with
          | none => rfl
          | some o => exact absurd (k o e) (by rw [n]; simp)
        have nm : H m = none := up mx n6 fun o e => k5 _ _ (s4 _ _ (k3 _ _ (s2 _ _ (k1 _ _ e (nin1 mx))) (nin1 mx))) (nin1 mx)
        have no : H od = none := up ox n8 fun o e => k7 _ _ (s6 _ _ (k5 _ _ (s4 _ _ (k3 _ _ (s2 _ _ (k1 _ _ e (nin1 ox))) (nin1 ox))) (nin1 ox))) (nin1 ox)
        have na : H am = none := up ax n10 fun o e => k9 _ _ (s8 _ _ (k7 _ _ (s6 _ _ (k5 _ _ (s4 _ _ (k3 _ _ (s2 _ _ (k1 _ _ e (nin1 ax))) (nin1 ax))) (nin1 ax))) (nin1 ax))) (nin1 ax)
        rw [List.length_map, List.take_of_length_le (by rw [← c2]; exact Nat.le_refl _)] at ea2
        refine q H11 D D2 m od am (fun b o e n => kk b (fun z => n (by rw [z]; exact List.mem_singleton.mpr rfl)) o e) h11 ⟨rs, by rw [← ea]; exact k11 _ _ (s10 _ _ hD9) (nin1 Dx), by rw [el, List.length_map, List.length_replicate, b2], fun i r z e1 e2 => ?_⟩ (fun _ _ => trivial) (by show H11 D2 = _; rw [← ea2]; exact k11 _ _ (s10 _ _ hE9) (nin1 D2x)) (k11 _ _ (s10 _ _ hm9) (nin1 mx)) (k11 _ _ (s10 _ _ ho9) (nin1 ox)) (k11 _ _ h10 (nin1 ax)) nDH nD2H0 nm no na ne12 (ne_of_none hD7 n8) (ne_of_none hD9 n10) (ne_of_none hE7 n8) (ne_of_none hE9 n10) (ne_of_none ho9 n10)
        have ez : z = (0, 0) := (List.mem_replicate.mp (List.mem_of_getElem? e2)).2
        rw [ez]
        exact t34 _ _ (hrs r (List.mem_of_getElem? e1))
end
end
section
set_option maxHeartbeats 4000000
open LamX NdefX
/-! ### the lambda of Job.next_worth -/
def lamX0 : Expr := .Name "" ⟨0, 0, 0, 0⟩
def lamP : Expr → Arguments
  | .Lambda p _ _ _ => p
  | _ => ⟨[], [], none, [], [], none, []⟩
def lamB : Expr → Expr
  | .Lambda _ b _ _ => b
  | e => e
def lamS : Expr → Scope
  | .Lambda _ _ s _ => s
  | _ => C8.fnScope (.Pass ⟨0, 0, 0, 0⟩)
def lamW : Expr := match (C8.fnBody st43).getD 2 (.Pass ⟨0, 0, 0, 0⟩) with
  | .Return (some (.BinOp (.Call _ [l] _ _) _ _ _)) _ => l
  | _ => lamX0
theorem lamW_sc : NScope ["take", "worths"] ["take"] ["worths"] (lamS lamW) := nscope_by (by decide +kernel)
abbrev LFW (q : Str) (cl : List (Str × Addr)) (c : Addr) : LF := ⟨q, lamP lamW, lamB lamW, lamS lamW, cl, c⟩
theorem updrop {H : Hp} {a : Addr} {o : HO} (h : H a = some o) : upd (dropA a H) a o = H := by
  funext b
  by_cases hb : b = a
  · subst hb
    rw [upd_same, h]
  · rw [upd_ne hb, dropA_ne hb]
theorem LamA.same {H H' : Hp} {f : Addr} {F : LF} {y : Str} {a : Addr} {ob : Obj} {v : V} (L : LamA H f F y a ob v) (s : Same H H') : LamA H' f F y a ob v := L.keep fun b o e _ _ => s b o e
section
variable {P : Program} {w : World} {K : PySem.W.Frag} {mg : Str → Option Value} {base : Heap}
theorem pe_seeW {X : Cx} {i j : Nat} {x : Str} {te : TE} {e : Expr} {p pos : Pos} (o : Of P w K X) (hr : Room j X.A) (hk : 2 ≤ j) (hN : X.N[i]? = some x) (hv : Vis X.env.scope x) (ha : PE X e te)
    (hd : (x == ("__debug__" : Str)) = false := by decide) (hcd : (x == ("__classdict__" : Str)) = false := by decide)
    (he : starEach [e] X.env = (false, eval e X.env) :: starEach [] X.env := by rfl) (hpl : (backTo pos (starEach [] X.env)).any (·.1) = false := by rfl) :
    PE X (.Call (.Name x p) [e] [] pos) (tCallLam i (lamP lamW) (lamB lamW) (lamS lamW) ["take", "worths"] "worths" (tGetD P w (tVar 1) (tVar 0)) te) := by
  obtain ⟨rfl, rfl, rfl, hc, hu⟩ := o
  refine pe_callLam (k := 1) (par := "take") lamW_sc (fun q cl c pm ctv u => by rfl) (fun f q cl c A outer s H hr' => ?_) hr hk hN hv ha hd hcd he hpl
  have hu' : (A.deeper (envF (LF.nf ⟨q, lamP lamW, lamB lamW, lamS lamW, cl, c⟩) f s.heap.objs.size)).units + 64 < cLine := by have := hr'.un; omega
  exact pe_getD hu' (pv 1) (pv 0) (fun _ _ => rfl)
/-- the dict of the worths, as the lambda sees it -/
structure WorA (P : Program) (w : World) (H : Hp) (f ca : Addr) (ob : Obj) (q : Str) (cl : List (Str × Addr)) (c : Addr) (ks : List Sp2) : Prop where
  ex : ∃ (d : Addr) (o : Obj) (es : List DE), LamA H f (LFW q cl c) "worths" ca ob (.ref d) ∧ d ≠ ca ∧ H d = some (DicO P w d o es) ∧ es.map (·.1) = ks ∧ (∀ e ∈ es, SpA H e.2.1 e.1) ∧ ∀ e ∈ es, ∃ i : Int, e.2.2 = .int i ∧ 0 ≤ i ∧ i ≤ 96
theorem WorA.same {H H' : Hp} {f ca : Addr} {ob : Obj} {q : Str} {cl : List (Str × Addr)} {c : Addr} {ks : List Sp2} (h : WorA P w H f ca ob q cl c ks) (s : Same H H') : WorA P w H' f ca ob q cl c ks := by
  obtain ⟨d, o, es, h1, h0, h2, h3, h4, h5⟩ := h
  exact ⟨d, o, es, h1.same s, h0, s _ _ h2, h3, fun e he => (h4 e he).same s, h5⟩
def spVal (P : Program) (w : World) (n : Nat) (C : Addr) : Sp := fun vs H Q _ => ∃ (a f : Addr) (t : Tm) (sz : List Int) (ca : Addr) (ob : Obj) (q : Str) (cl : List (Str × Addr)) (c : Addr) (ks : List Sp2), vs = [.ref a, .ref f] ∧ TmA H a t ∧ t.cls = C ∧ t.ht ≤ n ∧ t.Ok sz ∧
  WorA P w H f ca ob q cl c ks ∧ (∀ z ∈ t.tks, z ∈ ks) ∧ ∀ H' v, Same H H' → 0 ≤ v → (t.ht = 1 → v ≤ 1000) → Q (.int v) H'
theorem c_callLam {i : Nat} {params : Arguments} {body : Expr} {scope : Scope} {N : List Str} {y : Str} {tb te : TE} {σ : L2.St} {H : Hp} {Q : VK} {f : Addr} {F : LF} (hs : σ[i]? = some (some (.ref f))) (hf : H f = some (LfO f F))
    (q : te σ H fun x H1 => ∃ q cl c a ob v, LamA H1 f ⟨q, params, body, scope, cl, c⟩ y a ob v ∧ tb (startF N [x] [some v]) (dropA a H1) (fun x H' => Q x (upd H' a (CellX a ob)))) : tCallLam i params body scope N y tb te σ H Q := ⟨f, F, hs, hf, q⟩
theorem tups_drop {H : Hp} {a : Addr} {ob : Obj} (h : H a = some (CellX a ob)) : Tups H (dropA a H) := fun b xs e => by
  rw [dropA_ne (ne_of e h (fun z => by unfold CellX at z; cases z))]
  exact e
theorem sc22 : FnScope ["self", "see"] ["self", "see"] (C8.fnScope st22) := C8.fnScope_by (by decide +kernel)
theorem sc30 : FnScope ["self", "see"] ["self", "see"] (C8.fnScope st30) := C8.fnScope_by (by decide +kernel)
theorem sc31 : FnScope ["self", "see"] ["self", "see"] (C8.fnScope st31) := C8.fnScope_by (by decide +kernel)
theorem ok_Number_value_by (T : Txt K mg) (n m : Nat) : C8.Met P w K mg base (m + 1) 326 "value_by" (spVal P w n 326) [] := by
  refine met_by (k := m) (T.df 22 _ rfl) (c_Number T) (m_Number_value_by T) sc22 (fun _ _ _ _ us hl => match us, hl with | [_, _], _ => rfl) (fun vs H Q E h => ?_) (fun A outer s H vs Q E hr o h => ?_)
  · obtain ⟨a, f, t, sz, ca, ob, q, cl, c, ks, rfl, _⟩ := h
    rfl
  · obtain ⟨a, f, t, sz, ca, ob, q, cl, c, ks, rfl, ht, hc, hn, hok, hw, hks, k⟩ := h
    cases t with
    | num v =>
      obtain ⟨dx, hd⟩ := ht
      refine ⟨_, (pss_one (ps_ret (pe_fldZ o (pv 0) rfl))), ?_⟩
      walk_at "go"
      exact k H v (Same.refl H) hok.1 fun _ => hok.2
    | take b ss => simp [Tm.cls] at hc
    | add x y => simp [Tm.cls] at hc
    | mul x y => simp [Tm.cls] at hc
theorem sc25 : FnScope ["self", "see"] ["self", "see"] (C8.fnScope st25) := C8.fnScope_by (by decide +kernel)
theorem ok_Take_value_by (T : Txt K mg) (n m : Nat) : C8.Met P w K mg base (m + 3) 371 "value_by" (spVal P w n 371) [] := by
  refine met_by (k := m + 2) (T.df 25 _ rfl) (c_Take T) (m_Take_value_by T) sc25 (fun _ _ _ _ us hl => match us, hl with | [_, _], _ => rfl) (fun vs H Q E h => ?_) (fun A outer s H vs Q E hr o h => ?_)
  · obtain ⟨a, f, t, sz, ca, ob, q, cl, c, ks, rfl, _⟩ := h
    rfl
  · obtain ⟨a, f, t, sz, ca, ob, q, cl, c, ks, rfl, ht, hc, hn, hok, hw, hks, k⟩ := h
    cases t with
    | num v => simp [Tm.cls] at hc
    | add x y => simp [Tm.cls] at hc
    | mul x y => simp [Tm.cls] at hc
    | take b ss =>
      obtain ⟨dx, p, hd, hp⟩ := ht
      obtain ⟨dd, od, es, L, _⟩ := id hw
      refine ⟨_, (pss_one (ps_ret (pe_seeW o hr (by omega) (i := 1) (by rfl) (by first | exact Or.inl rfl | exact Or.inr (Or.inl rfl) | exact Or.inr (Or.inr rfl)) (pe_tup (pa_mn (pa_cons (pe_fldZ o (pv 0) rfl) (pa_cons (pe_fldZ o (pv 0) rfl) pa_nil))))))), ?_⟩
      walk_at "go"
      refine c_callLam rfl L.fn ?_
      walk_at "go"
      refine ⟨len2, fun p1 H1 n1 s1 h1 => ?_⟩
      obtain ⟨d1, o1, es1, L1, g0, g1, g2, g3, g4⟩ := hw.same s1
      obtain ⟨e0, he0, hval, hez⟩ := valD_of (es := es1) (z := (b, ss)) (by rw [g2]; exact hks _ (List.mem_singleton.mpr rfl))
      obtain ⟨i0, hi0, i1, i2⟩ := g4 e0 he0
      rw [hi0] at hval
      have td := tups_drop L1.cell
      have hsp : SpA (dropA ca H1) p1 (b, ss) := SpA.mono (H := H1) ⟨p, h1, s1 _ _ hp⟩ td
      refine ⟨q, cl, c, ca, ob, .ref d1, L1, ?_⟩
      refine c_getD ?_
      walk_at "go"
      refine ⟨d1, o1, es1, p1, (b, ss), .int i0, rfl, rfl, ?_, fun e he => (g3 e he).mono td, hsp, hval, ?_⟩
      · rw [dropA_ne g0]
        exact g1
      · rw [updrop L1.cell]
        exact k H1 i0 s1 i1 fun _ => by omega
theorem ok_value_by (T : Txt K mg) (n : Nat) : ∀ {C : Addr} (hC : TmC C), C8.Met P w K mg base (n + 3) C "value_by" (spVal P w n C) [] := by
  induction n with
  | zero =>
    intro C hC
    rcases hC with h | h | h | h <;> subst h
    · exact ok_Number_value_by T 0 2
    · exact ok_Take_value_by T 0 0
    · refine met_by (k := 2) (T.df 30 _ rfl) (c_Added T) (m_Added_value_by T) sc30 (fun _ _ _ _ us hl => match us, hl with | [_, _], _ => rfl) (fun vs H Q E h => ?_) (fun A outer s H vs Q E hr o h => ?_)
      · obtain ⟨a, f, t, sz, ca, ob, q, cl, c, ks, rfl, _⟩ := h
        rfl
      · obtain ⟨a, f, t, sz, ca, ob, q, cl, c, ks, rfl, _, _, h, _⟩ := h
        have := t.ht_pos
        omega
    · refine met_by (k := 2) (T.df 31 _ rfl) (c_Multiplied T) (m_Multiplied_value_by T) sc31 (fun _ _ _ _ us hl => match us, hl with | [_, _], _ => rfl) (fun vs H Q E h => ?_) (fun A outer s H vs Q E hr o h => ?_)
      · obtain ⟨a, f, t, sz, ca, ob, q, cl, c, ks, rfl, _⟩ := h
        rfl
      · obtain ⟨a, f, t, sz, ca, ob, q, cl, c, ks, rfl, _, _, h, _⟩ := h
        have := t.ht_pos
        omega
  | succ n ih =>
    intro C hC
    rcases hC with h | h | h | h <;> subst h
    · exact ok_Number_value_by T (n + 1) (n + 3)
    · exact ok_Take_value_by T (n + 1) (n + 1)
    · refine met_by (k := n + 3) (T.df 30 _ rfl) (c_Added T) (m_Added_value_by T) sc30 (fun _ _ _ _ us hl => match us, hl with | [_, _], _ => rfl) (fun vs H Q E h => ?_) (fun A outer s H vs Q E hr o h => ?_)
      · obtain ⟨a, f, t, sz, ca, ob, q, cl, c, ks, rfl, _⟩ := h
        rfl
      · obtain ⟨a, f, t, sz, ca, ob, q, cl, c, ks, rfl, ht, hc, hn, hok, hw, hks, k⟩ := h
        cases t with
        | num v => simp [Tm.cls] at hc
        | take b ss => simp [Tm.cls] at hc
        | mul x y => simp [Tm.cls] at hc
        | add x y =>
          obtain ⟨dx, p1, p2, hd, hx, hy⟩ := ht
          have hn' : max x.ht y.ht + 1 ≤ n + 1 := hn
          have hpx := x.ht_pos
          refine ⟨_, (pss_one (ps_ret (pe_op (op_self o) (pe_exi (S := TmC) (fun C hC => C8.pe_mt (ih hC) hr (by omega) (pe_fldZ o (pv 0) rfl) (pa_cons (pv 1) pa_nil))) (pe_exi (S := TmC) (fun C hC => C8.pe_mt (ih hC) hr (by omega) (pe_fldZ o (pv 0) rfl) (pa_cons (pv 1) pa_nil)))))), ?_⟩
          walk_at "go"
          refine tm1 has_value_by hx (fun R r => by walk_at "go"; exact r) (fun R r => by walk_at "go"; exact r) ⟨p1, f, x, sz, ca, ob, q, cl, c, ks, rfl, hx, rfl, by omega, hok.1, hw, fun z hz => hks z (List.mem_append_left _ hz), fun H1 v1 s1 v10 v11 => ?_⟩
          have hy1 := TmA.same s1 hy
          walk_at "go"
          refine tm1 has_value_by hy1 (fun R r => by walk_at "go"; exact r) (fun R r => by walk_at "go"; exact r) ⟨p2, f, y, sz, ca, ob, q, cl, c, ks, rfl, hy1, rfl, by omega, hok.2, hw.same s1, fun z hz => hks z (List.mem_append_right _ hz), fun H2 v2 s2 v20 v21 => ?_⟩
          walk_at "go"
          refine k H2 _ (s1.trans s2) (by omega) fun z => ?_
          have z' : max x.ht y.ht + 1 = 1 := z
          omega
    · refine met_by (k := n + 3) (T.df 31 _ rfl) (c_Multiplied T) (m_Multiplied_value_by T) sc31 (fun _ _ _ _ us hl => match us, hl with | [_, _], _ => rfl) (fun vs H Q E h => ?_) (fun A outer s H vs Q E hr o h => ?_)
      · obtain ⟨a, f, t, sz, ca, ob, q, cl, c, ks, rfl, _⟩ := h
        rfl
      · obtain ⟨a, f, t, sz, ca, ob, q, cl, c, ks, rfl, ht, hc, hn, hok, hw, hks, k⟩ := h
        cases t with
        | num v => simp [Tm.cls] at hc
        | take b ss => simp [Tm.cls] at hc
        | add x y => simp [Tm.cls] at hc
        | mul x y =>
          obtain ⟨dx, p1, p2, hd, hx, hy⟩ := ht
          have hn' : max x.ht y.ht + 1 ≤ n + 1 := hn
          have hpx := x.ht_pos
          refine ⟨_, (pss_one (ps_ret (pe_op (op_self o) (pe_exi (S := TmC) (fun C hC => C8.pe_mt (ih hC) hr (by omega) (pe_fldZ o (pv 0) rfl) (pa_cons (pv 1) pa_nil))) (pe_exi (S := TmC) (fun C hC => C8.pe_mt (ih hC) hr (by omega) (pe_fldZ o (pv 0) rfl) (pa_cons (pv 1) pa_nil)))))), ?_⟩
          walk_at "go"
          refine tm1 has_value_by hx (fun R r => by walk_at "go"; exact r) (fun R r => by walk_at "go"; exact r) ⟨p1, f, x, sz, ca, ob, q, cl, c, ks, rfl, hx, rfl, by omega, hok.1, hw, fun z hz => hks z (List.mem_append_left _ hz), fun H1 v1 s1 v10 v11 => ?_⟩
          have hy1 := TmA.same s1 hy
          have v1k := v11 hok.2.2
          walk_at "go"
          refine tm1 has_value_by hy1 (fun R r => by walk_at "go"; exact r) (fun R r => by walk_at "go"; exact r) ⟨p2, f, y, sz, ca, ob, q, cl, c, ks, rfl, hy1, rfl, by omega, hok.2.1, hw.same s1, fun z hz => hks z (List.mem_append_right _ hz), fun H2 v2 s2 v20 v21 => ?_⟩
          refine v_mul (Or.inl (by omega)) ?_
          walk_at "go"
          refine k H2 _ (s1.trans s2) (Int.mul_nonneg v10 v20) fun z => ?_
          have z' : max x.ht y.ht + 1 = 1 := z
          omega
end
end
section
set_option maxHeartbeats 4000000
open LamX NdefX
/-! ### the lambda of Run.step -/
def lamG : Expr := match (C8.fnBody st69).getD 4 (.Pass ⟨0, 0, 0, 0⟩) with
  | .Assign _ (.Tuple [_, .Call _ [_, l] _ _] _ _) _ => l
  | _ => lamX0
theorem lamG_sc : NScope ["one", "self"] ["one"] ["self"] (lamS lamG) := nscope_by (by decide +kernel)
abbrev LFG (q : Str) (cl : List (Str × Addr)) (c : Addr) : LF := ⟨q, lamP lamG, lamB lamG, lamS lamG, cl, c⟩
section
variable {P : Program} {w : World} {K : PySem.W.Frag} {mg : Str → Option Value} {base : Heap}
theorem pe_getW (T : Txt K mg) {X : Cx} {i j : Nat} {x : Str} {te : TE} {e : Expr} {p pos : Pos} (hK : X.K = K) (hmg : X.mg = mg) (o : Of P w K X) (hr : Room j X.A) (hk : 3 ≤ j) (hN : X.N[i]? = some x) (hv : Vis X.env.scope x) (ha : PE X e te)
    (hd : (x == ("__debug__" : Str)) = false := by decide) (hcd : (x == ("__classdict__" : Str)) = false := by decide)
    (he : starEach [e] X.env = (false, eval e X.env) :: starEach [] X.env := by rfl) (hpl : (backTo pos (starEach [] X.env)).any (·.1) = false := by rfl) :
    PE X (.Call (.Name x p) [e] [] pos) (tCallLam i (lamP lamG) (lamB lamG) (lamS lamG) ["one", "self"] "self" (tMeth 780 "look" (spLook P w) [] C8.E0 (tVar 1) (tCons (tVar 0) tNil)) te) := by
  obtain ⟨rfl, rfl, rfl, hc, hu⟩ := o
  subst hmg
  refine pe_callLam (k := 2) (par := "one") lamG_sc (fun q cl c pm ctv u => by rfl) (fun f q cl c A outer s H hr' => ?_) hr hk hN hv ha hd hcd he hpl
  exact C8.pe_mt (ok_Run_look T) hr' (by decide) (pv 1) (pa_cons (pv 0) pa_nil)
/-- the run, as the lambda sees it; F: all that stays -/
structure GetA (P : Program) (w : World) (H : Hp) (f cg : Addr) (sz : List Int) (R : Nat) : Prop where
  ex : ∃ (F : Hp) (ob : Obj) (q : Str) (cl : List (Str × Addr)) (c r pa la ll lm lo lx : Addr) (p : Pp) (m : Nat), LamA H f (LFG q cl c) "self" cg ob (.ref r) ∧ Same F H ∧ F cg = none ∧ F 534 = none ∧ RunR P w F r pa la ll lm lo lx p m ∧ p.sz = sz ∧ p.R = R
theorem GetA.same {H H' : Hp} {f cg : Addr} {sz : List Int} {R : Nat} (h : GetA P w H f cg sz R) (s : Same H H') : GetA P w H' f cg sz R := by
  obtain ⟨F, ob, q, cl, c, r, pa, la, ll, lm, lo, lx, p, m, h1, h2, h3⟩ := h
  exact ⟨F, ob, q, cl, c, r, pa, la, ll, lm, lo, lx, p, m, h1.same s, h2.trans s, h3⟩
def spWorth (P : Program) (w : World) : Sp := fun vs H Q _ => ∃ (j wa f cg : Addr) (sz : List Int) (R : Nat) (d : Int), vs = [.ref j, .ref wa, .ref f] ∧ JobA H j sz R ∧ WhA H sz wa d ∧ d ≤ R ∧ (d ≤ 0 → ∃ ks, JTk H j ks ∧ ∃ y ∈ ks, 1 - y.2.1 ≤ d) ∧ GetA P w H f cg sz R ∧
  ∀ H' i, Same H H' → 0 ≤ i → i ≤ 96 → Q (.int i) H'
theorem sc42 : FnScope ["self", "where", "get"] ["self", "where", "get"] (C8.fnScope st42) := C8.fnScope_by (by decide +kernel)
theorem ok_Job_worth_at (T : Txt K mg) : C8.Met P w K mg base 4 542 "worth_at" (spWorth P w) [] := by
  refine met_by (k := 3) (T.df 42 _ rfl) (c_Job T) (m_Job_worth_at T) sc42 (fun _ _ _ _ us hl => match us, hl with | [_, _, _], _ => rfl) (fun vs H Q E h => ?_) (fun A outer s H vs Q E hr o h => ?_)
  · obtain ⟨j, wa, f, cg, sz, R, d, rfl, _⟩ := h
    rfl
  · obtain ⟨j, wa, f, cg, sz, R, d, rfl, J, hw, hdR, hd0, hg, q⟩ := h
    obtain ⟨_, _, jdx, jg, jtm, jtl, jfl, jt, jks, hj, _⟩ := id J
    refine ⟨_, (pss_cons (ps_if (pt_cmpR (op_self o) (pe_ix (ix_self o) (pv 1) pe_int (fun _ _ => rfl)) pe_str (nomark _)) (pss_one (ps_ret (pe_ix (ix_self o) (pv 1) pe_int (fun _ _ => rfl)))) pss_nil)
      (pss_cons (ps_if (pt_cmpR (op_self o) (pe_ix (ix_self o) (pv 1) pe_int (fun _ _ => rfl)) pe_str (nomark _)) (pss_one (ps_ret (C8.pe_mt (ok_Job_first_worth (P := P) (w := w) T) hr (by decide) (pv 0) (pa_cons (pe_ix (ix_self o) (pe_ix (ix_self o) (pv 1) pe_int (fun _ _ => rfl)) pe_int (fun _ _ => rfl)) (pa_cons (pe_ix (ix_self o) (pe_ix (ix_self o) (pv 1) pe_int (fun _ _ => rfl)) pe_int (fun _ _ => rfl)) pa_nil))))) pss_nil)
      (pss_one (ps_ret (pe_getW T rfl rfl o hr (by omega) (i := 2) (by rfl) (by first | exact Or.inl rfl | exact Or.inr (Or.inl rfl) | exact Or.inr (Or.inr rfl)) (pe_ix (ix_self o) (pv 1) pe_int (fun _ _ => rfl))))))), ?_⟩
    rcases hw with hw | ⟨qa, y, hw, hy, y1, y0, yp⟩ | ⟨qa, y, hw, hy, y1, y0, yp⟩
    · walk_at "go"
      exact q H 7 (Same.refl H) (by omega) (by omega)
    · walk_at "go"
      obtain ⟨F, ob, qn, cl, c, r, pa, la, ll, lm, lo, lx, p, m, L, sF, nF, n5, RR, e1, e2⟩ := id hg
      refine c_callLam rfl L.fn ?_
      walk_at "go"
      have sF' := same_drop sF nF
      refine ⟨qn, cl, c, cg, ob, .ref r, L, ?_⟩
      obtain ⟨⟨hpap, rdx, hrr⟩, hrm⟩ := id RR
      have hrr2 := sF' _ _ hrr
      refine c_meth ?_
      walk_at "go"
      refine ⟨r, pa, la, ll, lm, lo, lx, qa, p, m, y, rfl, ⟨RR.ra.same sF', RR.rm.same sF'⟩, hy.mono (tups_drop L.cell), ⟨by omega, by rw [e2]; omega, by rw [e1]; exact yp⟩, fun n n0 n1 => ?_⟩
      show Q (.int n) (upd (dropA cg H) cg (CellX cg ob))
      rw [updrop L.cell]
      exact q H n (Same.refl H) n0 n1
    · obtain ⟨pp, hq1, hq2⟩ := id hy
      walk_at "go"
      refine ⟨j, pp, sz, R, y.1, y.2, rfl, J, hq2, yp, by omega, by rw [y1]; exact hd0 (by omega), fun H' i s' i0 i1 => q H' i s' i0 i1⟩
end
end
section
set_option maxHeartbeats 4000000
open LamX NdefX
/-! ### the two code tables -/
def QW : Str := "Job.next_worth.<locals>.<lambda>"
def QG : Str := "Run.step.<locals>.<lambda>"
def Tt : List (Addr × Str) := [(534, QW), (732, QG)]
theorem tt_mem0 {q : Str} (h : q = QW) : ((534 : Addr), q) ∈ Tt := by rw [h]; exact List.mem_cons_self
theorem tt_one0 {q : Str} (h : q = QW) : ∀ p ∈ Tt, p.1 = 534 → p.2 = q := fun p hp e => by
  rcases List.mem_cons.mp hp with z | z
  · rw [z, h]
  · rw [List.mem_singleton.mp z] at e
    exact absurd e (by decide)
theorem tt_mem1 {q : Str} (h : q = QG) : ((732 : Addr), q) ∈ Tt := by rw [h]; exact List.mem_cons_of_mem _ List.mem_cons_self
theorem tt_one1 {q : Str} (h : q = QG) : ∀ p ∈ Tt, p.1 = 732 → p.2 = q := fun p hp e => by
  rcases List.mem_cons.mp hp with z | z
  · rw [z] at e
    exact absurd e (by decide)
  · rw [List.mem_singleton.mp z, h]
theorem hfree_by {X : Cx} {sc : Scope} {names : List (Str × NameKind)} (h : X.env.scope = sc) (hb : (names.all fun y => !decide (y.2 = .free) || (decide (sc.names.lookup y.1 = some .cell) || decide (sc.names.lookup y.1 = some .free))) = true) :
    ∀ y ∈ names, y.2 = .free → X.env.scope.names.lookup y.1 = some .cell ∨ X.env.scope.names.lookup y.1 = some .free := fun y hy e => by
  have := List.all_eq_true.mp hb y hy
  rw [e] at this
  rw [h]
  simpa using this
theorem clo_lk {cells : List (Str × Addr)} {y : Str} {c : Addr} (h : cells.lookup y = some c) : [(y, (cells.lookup y).getD 0)].lookup y = some c := by
  rw [h]
  simp
theorem clo_uq {y : Str} {a : Addr} : ∀ x b, [(y, a)].lookup x = some b → x = y := fun x b e => by
  by_cases h : x = y
  · exact h
  · rw [List.lookup_cons] at e
    have : (x == y) = false := by simpa using h
    rw [this] at e
    simp at e
theorem putD_mem {es : List DE} {z : Sp2} {a : Addr} {v : V} {e : DE} (h : e ∈ putD es z a v) : e ∈ es ∨ (e.1 = z ∧ e.2.2 = v ∧ (e.2.1 = a ∨ ∃ e' ∈ es, e'.1 = z ∧ e'.2.1 = e.2.1)) := by
  unfold putD at h
  split at h
  · obtain ⟨p, hp, rfl⟩ := List.mem_map.mp h
    by_cases hz : p.1 = z
    · rw [if_pos hz]
      exact .inr ⟨hz, rfl, .inr ⟨p, hp, hz, rfl⟩⟩
    · rw [if_neg hz]
      exact .inl hp
  · rcases List.mem_append.mp h with z1 | z1
    · exact .inl z1
    · rw [List.mem_singleton.mp z1]
      exact .inr ⟨rfl, rfl, .inl rfl⟩
theorem putD_keys {es : List DE} {z : Sp2} {a : Addr} {v : V} : (∀ y ∈ es.map (·.1), y ∈ (putD es z a v).map (·.1)) ∧ z ∈ (putD es z a v).map (·.1) := by
  unfold putD
  split
  · rename_i hs
    have e : ((es.map fun p => if p.1 = z then (p.1, p.2.1, v) else p).map (·.1)) = es.map (·.1) := by
      rw [List.map_map]
      refine List.map_congr_left fun p _ => ?_
      show (if p.1 = z then (p.1, p.2.1, v) else p).1 = p.1
      split <;> rfl
    rw [e]
    refine ⟨fun y hy => hy, ?_⟩
    unfold valD at hs
    cases hf : es.find? (fun p => decide (p.1 = z)) with
    | none => rw [hf] at hs; simp at hs
    | some e =>
      exact List.mem_map.mpr ⟨e, List.mem_of_find?_eq_some hf, by simpa using List.find?_some hf⟩
  · refine ⟨fun y hy => ?_, ?_⟩
    · rw [List.map_append]
      exact List.mem_append_left _ hy
    · rw [List.map_append]
      exact List.mem_append_right _ (List.mem_singleton.mpr rfl)
section
variable {P : Program} {w : World} {K : PySem.W.Frag} {mg : Str → Option Value} {base : Heap}
theorem c_dnewD {σ : L2.St} {H : Hp} {Q : VK} (q : ∀ p o H2, H p = none → Same H H2 → H2 p = some (DicO P w p o []) → Q (.ref p) H2) : tDNewD P w σ H Q := fun p o n => q p o _ n (same_new n) upd_same
theorem lk6_taken' {v0 v1 v2 v3 v4 v5 : V} : (fs6_Job v0 v1 v2 v3 v4 v5).lookup ("taken" : Str) = some v2 := by kernel_rfl
theorem spA_det {H : Hp} {a : Addr} {z z' : Sp2} (h : SpA H a z) (h' : SpA H a z') : z = z' := by
  obtain ⟨p, h1, h2⟩ := h
  obtain ⟨p', h3, h4⟩ := h'
  rw [h1] at h3
  simp only [Option.some.injEq, HO.tup.injEq, List.cons.injEq, V.int.injEq, V.ref.injEq, and_true] at h3
  obtain ⟨e1, e2⟩ := h3
  subst e2
  rw [h2] at h4
  simp only [Option.some.injEq, HO.tup.injEq] at h4
  have inj : ∀ {xs ys : List Int}, xs.map V.int = ys.map V.int → xs = ys := fun {xs ys} e => (List.map_inj_right (fun a b h => by cases h; rfl)).mp e
  exact Prod.ext e1 (inj h4)
theorem lsp_det {H : Hp} {l : Addr} {ks ks' : SpL} (h : LSp H l ks) (h' : LSp H l ks') : ks = ks' := by
  have e : ks.vs = ks'.vs := by
    have := h.1.symm.trans h'.1
    simpa using this
  refine List.ext_getElem? fun i => ?_
  have ei : (ks.map fun p => V.ref p.1)[i]? = (ks'.map fun p => V.ref p.1)[i]? := by
    have : ks.vs[i]? = ks'.vs[i]? := by rw [e]
    exact this
  rw [List.getElem?_map, List.getElem?_map] at ei
  cases h1 : ks[i]? with
  | none =>
    cases h2 : ks'[i]? with
    | none => rfl
    | some y => rw [h1, h2] at ei; cases ei
  | some x =>
    cases h2 : ks'[i]? with
    | none => rw [h1, h2] at ei; cases ei
    | some y =>
      rw [h1, h2] at ei
      have e1 : x.1 = y.1 := by simpa using ei
      have q1 := h.2 x (List.mem_of_getElem? h1)
      have q2 := h'.2 y (List.mem_of_getElem? h2)
      rw [← e1] at q2
      rw [Prod.ext e1 (spA_det q1 q2)]
def LkV (X : Cx) (i : Nat) (y : Str) (sp : Sp) (x : V) (vs : List V) (H2 : Hp) (Q : VK) (σ : L2.St) : Prop :=
  ∃ v, σ[i]? = some (some v) ∧ ∀ (c : Addr) (ob : Obj) (u : Value), X.env.cells.lookup y = some c → H2 c = none → ob.data = .cell (some u) → RelV v u → sp (x :: vs) (upd H2 c (CellX c ob)) (fun v' H' => H' c = some (CellX c ob) ∧ Q v' (dropA c H')) C8.E0
theorem c_methL {X : Cx} {i : Nat} {y m : Str} {C : Addr} {sp : Sp} {ta : TE} {t : TA} {σ : L2.St} {H : Hp} {Q : VK} (q : ta σ H fun x H1 => RecV C m x H1 (t σ H1 fun vs H2 => LkV X i y sp x vs H2 Q σ)) : tMethL X i y C m sp ta t σ H Q := q
def spNW (P : Program) (w : World) : Sp := fun vs H Q _ => ∃ (F : Hp) (j a f cg : Addr) (sz : List Int) (R : Nat) (z : Sp2), vs = [.ref j, .ref a, .ref f] ∧ JobA F j sz R ∧ SpA F a z ∧ SpOk R sz z ∧ Same F H ∧ F 534 = none ∧ GetA P w H f cg sz R ∧ Tabs Tt H ∧
  ∀ H' i, Keep [534] H H' → Tabs Tt H' → 0 ≤ i → i ≤ 96 → Q (.int i) H'
theorem sc43 : FnScope ["self", "spot", "get", "worths", "take", "where"] ["self", "spot", "get"] (C8.fnScope st43) := C8.fnScope_by (by decide +kernel)
theorem ok_Job_next_worth (T : Txt K mg) (TB : TabB base mg 538 534) : C8.Met P w K mg base 9 542 "next_worth" (spNW P w) [] := by
  refine met_by (k := 8) (T.df 43 _ rfl) (c_Job T) (m_Job_next_worth T) sc43 (fun _ _ _ _ us hl => match us, hl with | [_, _, _], _ => rfl) (fun vs H Q E h => ?_) (fun A outer s H vs Q E hr o h => ?_)
  · obtain ⟨F, j, a, f, cg, sz, R, z, rfl, _⟩ := h
    rfl
  · obtain ⟨F, j, a, f, cg, sz, R, z, rfl, J, ha, hz, sF, n5, hg, hT, q⟩ := h
    obtain ⟨ok, hR, jdx, jg, jtm, jtl, jfl, jt, jks, hj, jG, jT, jTo, jTh, jL, jkz, jkl, jF⟩ := id J
    refine ⟨_, (pss_cons (ps_set (i := 3) (sc43).nd rfl (by first | exact Or.inl rfl | exact Or.inr rfl) (pe_dnewDZ o))
      (pss_cons (ps_for PassesOwn.never rfl (pi_listZ o (C8.pe_mt (ok_Job_reads_of (P := P) (w := w) T) hr (by decide) (pv 0) (pa_cons (pv 1) pa_nil))) (pg_tupZ (n := 2) o (pgs_cons (pg_name (i := 4) (sc43).nd (by rfl) (by first | exact Or.inl rfl | exact Or.inr rfl)) (pgs_cons (pg_name (i := 5) (sc43).nd (by rfl) (by first | exact Or.inl rfl | exact Or.inr rfl)) pgs_nil))) (pss_one (ps_asg (C8.pe_mt (ok_Job_worth_at (P := P) (w := w) T) hr (by decide) (pv 0) (pa_cons (pv 5) (pa_cons (pv 2) pa_nil))) (pg_sub (pv 3) (pv 4) (set_self o)))))
      (pss_one (ps_ret (pe_op (op_self o) (pe_exi (S := TmC) (fun C hC => pe_mtL (i := 3) (y := "worths") (ok_value_by (P := P) (w := w) T 5 hC) hr (by decide) (pe_fldZ o (pv 0) rfl) (pa_cons (pe_lamV (T := Tt) TB rfl (tt_mem0 (by kernel_rfl)) (tt_one0 (by kernel_rfl)) rfl (hfree_by (sc := C8.fnScope st43) rfl (by decide +kernel))) pa_nil) rfl rfl rfl)) (pe_fldZ o (pv 0) rfl)))))), ?_⟩
    walk_at "go"
    refine c_dnewD fun D od H1 nD s1 hD => ?_
    have sF1 := sF.trans s1
    have hj1 := sF1 _ _ hj
    walk_at "go"
    refine ⟨j, a, sz, R, z, rfl, J.same sF1, ha.same sF1, hz, fun H2 l ks s2 nl hJ htk hfew ⟨rs, hr1, hr2, hr3⟩ => ?_⟩
    have sF2 := sF1.trans s2
    have hD2 := s2 _ _ hD
    have lD : l ≠ D := fun z => by rw [z, hD] at nl; cases nl
    have ksj : jks = ks := by
      obtain ⟨dx', v0, v1, tl', v3, v4, v5, e1, e2⟩ := hJ
      rw [hj1] at e1
      have e3 : jtl = tl' := by
        have := HO.ins.inj (Option.some.inj e1)
        have e4 := this.2.2
        have e5 := congrArg (List.lookup ("taken" : Str)) e4
        rw [lk6_taken', lk6_taken'] at e5
        exact V.ref.inj (Option.some.inj e5)
      subst e3
      exact lsp_det (jL.same sF1) e2
    walk_at "go"
    refine forL (a := l) (xs := rs.map fun r => V.ref r.1) (fun i σ H' => Same H H' ∧ H' l = some (.lst (rs.map fun r => V.ref r.1)) ∧ (∀ (i : Nat) (r : Addr × Addr) (p : Addr × Sp2), rs[i]? = some r → ks[i]? = some p → H' r.1 = some (.tup [.ref p.1, .ref r.2]) ∧ WhA H' sz r.2 (z.1 - p.2.1)) ∧ (∃ o' es, H' D = some (DicO P w D o' es) ∧ es.length ≤ i ∧ (∀ e ∈ es, SpA H' e.2.1 e.1) ∧ (∀ e ∈ es, ∃ i : Int, e.2.2 = .int i ∧ 0 ≤ i ∧ i ≤ 96) ∧ ∀ y ∈ (ks.zs).take i, y ∈ es.map (·.1)) ∧ ∃ b c, σ = [some (.ref j), some (.ref a), some (.ref f), some (.ref D), b, c]) ⟨s1.trans s2, hr1, hr3, ⟨od, [], hD2, Nat.le_refl _, by simp, by simp, by simp⟩, _, _, rfl⟩ (fun i σ H' hi ⟨_, e, _⟩ => e) (fun i x σ H3 hx ⟨e, hl3, hrs, ⟨o', es, hD3, hes, h1, h2, h3⟩, b, c, es'⟩ => ?_) (fun σ H3 ⟨e, hl3, hrs, ⟨o', es, hD3, hes, h1, h2, h3⟩, b, c, es'⟩ => ?_)
    · subst es'
      obtain ⟨r, hr', rfl⟩ := map_at hx
      have hi := (List.getElem?_eq_some_iff.mp hr').1
      obtain ⟨kp, hkp⟩ : ∃ kp, ks[i]? = some kp := ⟨_, List.getElem?_eq_getElem (by omega)⟩
      have kpm := List.mem_of_getElem? hkp
      obtain ⟨g1, g2⟩ := hrs i r kp hr' hkp
      have tk := htk kp kpm
      have sF3 := sF.trans e
      have hj3 := sF3 _ _ hj
      have J3 := J.same sF3
      have hJ3 : JTk H3 j jks := ⟨jdx, .ref jg, .ref jtm, jtl, .int 97, .int R, .ref jfl, hj3, jL.same sF3⟩
      walk_at "go"
      refine ⟨j, r.2, f, cg, sz, R, z.1 - kp.2.1, rfl, J3, g2, by have := hz.2.1; have := tk.1; omega, fun _ => ⟨jks, hJ3, kp, by rw [ksj]; exact kpm, by have := hz.1; omega⟩, hg.same e, fun H4 iv s4 i0 i1 => ?_⟩
      have hD4 := s4 _ _ hD3
      have hkp4 : SpA H4 kp.1 kp.2 := by
        rw [← ksj] at kpm
        exact ((jL.2 kp kpm).same sF3).same s4
      walk_at "go"
      refine v_setD hD4 (fun e he => (h1 e he).same s4) hkp4 (small1000 (by omega)) fun o2 H5 k5 h5 => ?_
      walk_at "go"
      have s5 : Same H H5 := same_of_new (e.trans s4) nD k5
      have nl5 : ∀ b o, H4 b = some o → b ≠ D → H5 b = some o := fun b o q n => k5 _ _ q (nin1 n)
      have t45 : Tups H3 H5 := fun b xs q => nl5 _ _ (s4 _ _ q) (fun z => by rw [z, hD3] at q; unfold DicO at q; cases q)
      refine ⟨s5, nl5 _ _ (s4 _ _ hl3) lD, fun i' r' p' q1 q2 => ?_, ⟨o2, _, h5, ?_, fun e0 he0 => ?_, fun e0 he0 => ?_, fun y hy => ?_⟩, _, _, rfl⟩
      · obtain ⟨g3, g4⟩ := hrs i' r' p' q1 q2
        refine ⟨t45 _ _ g3, ?_⟩
        rcases g4 with g4 | ⟨q, y, g4, g5, g6⟩ | ⟨q, y, g4, g5, g6⟩
        · exact .inl (t45 _ _ g4)
        · exact .inr (.inl ⟨q, y, t45 _ _ g4, g5.mono t45, g6⟩)
        · exact .inr (.inr ⟨q, y, t45 _ _ g4, g5.mono t45, g6⟩)
      · have := putD_len es kp.2 kp.1 (.int iv)
        omega
      · rcases putD_mem he0 with z1 | ⟨z1, z2, z3 | ⟨e1, z3, z4, z5⟩⟩
        · exact (h1 e0 z1).mono t45
        · rw [z1, z3]
          exact (hkp4.same (Same.refl _)).mono (fun b xs q => nl5 _ _ q (fun z => by rw [z, hD4] at q; unfold DicO at q; cases q))
        · rw [z1, ← z5, ← z4]
          exact (h1 e1 z3).mono t45
      · rcases putD_mem he0 with z1 | ⟨z1, z2, z3⟩
        · exact h2 e0 z1
        · exact ⟨iv, z2, i0, i1⟩
      · have pk := putD_keys (es := es) (z := kp.2) (a := kp.1) (v := .int iv)
        have ez : (ks.zs)[i]? = some kp.2 := by simp [SpL.zs, hkp]
        rw [List.take_add_one, ez] at hy
        rcases List.mem_append.mp hy with z1 | z1
        · exact pk.1 y (h3 y z1)
        · have : y = kp.2 := by simpa using z1
          rw [this]
          exact pk.2
    · subst es'
      have sF3 := sF.trans e
      have hj3 := sF3 _ _ hj
      have hT3 := hT.ext e
      walk_at "go"
      refine ⟨jt.cls, tmC jt, c_methL ?_⟩
      walk_at "go"
      refine recT has_value_by (TmA.same sF3 jT) ?_
      refine ⟨hT3, fun lf lc H4 k4 hT4 nf hf hc => ?_⟩
      walk_at "go"
      refine ⟨_, rfl, fun cw ob u hcw ncw hob hu => ?_⟩
      have sF4 : Same F H4 := fun b o q => k4 _ _ (sF3 _ _ q) (nin1 (fun z => by rw [z, n5] at q; cases q))
      have nFc : F cw = none := by
        cases q : F cw with
        | none => rfl
        | some o => exact absurd (sF4 _ _ q) (by rw [ncw]; simp)
      have s5 : Same H4 (upd H4 cw (CellX cw ob)) := same_new ncw
      have sF5 := sF4.trans s5
      have D4 : H4 D = some (DicO P w D o' es) := k4 _ _ hD3 (nin1 (fun z => by
        obtain ⟨ps, q1, _⟩ := hT3 _ (List.mem_cons_self)
        rw [z, q1] at hD3
        unfold DicO at hD3
        cases hD3))
      have t4 : Tups H3 H4 := fun b xs q => k4 _ _ q (nin1 (fun z => by
        obtain ⟨ps, q1, _⟩ := hT3 _ (List.mem_cons_self)
        rw [z, q1] at q
        cases q))
      have Dcw : D ≠ cw := ne_of_none D4 ncw
      have cellc : upd H4 cw (CellX cw ob) cw = some (CellX cw ob) := upd_same
      have fcw : lf ≠ cw := ne_of_none hf ncw
      have ccw : lc ≠ cw := ne_of_none hc ncw
      have kl : ks.zs.length ≤ (rs.map fun r => V.ref r.1).length := by simp [SpL.zs, hr2]
      rw [List.take_of_length_le kl] at h3
      refine ⟨_, lf, jt, sz, cw, ob, QW, [(("worths" : Str), ((cx P w K mg base ["self", "spot", "get", "worths", "take", "where"] d43 A outer s H E).env.cells.lookup ("worths" : Str)).getD 0)], lc, es.map (·.1), rfl, TmA.same sF5 jT, rfl, jTh, jTo, ⟨D, o', es, ⟨s5 _ _ hf, s5 _ _ hc, clo_lk hcw, clo_uq, cellc, u, hob, hu⟩, Dcw, s5 _ _ D4, rfl, fun e0 he0 => ((h1 e0 he0).mono t4).same s5, h2⟩, fun y hy => h3 y (by rw [← ksj]; exact (jkz y).mpr hy), fun H6 v s6 v0 v1 => ?_⟩
      refine ⟨s6 _ _ cellc, ?_⟩
      have sF6 := same_drop (sF5.trans s6) nFc
      have hj6 := sF6 _ _ hj
      walk_at "go"
      have hT6 : Tabs Tt (dropA cw H6) := hT4.ext fun b o q => by
        rw [dropA_ne (ne_of_none q ncw)]
        exact s6 _ _ (s5 _ _ q)
      refine q _ _ (fun b o q n => ?_) hT6 (Int.emod_nonneg _ (by decide)) (by have := Int.emod_lt_of_pos v (show (0:Int) < 97 by decide); omega)
      have q4 := k4 _ _ (e _ _ q) n
      rw [dropA_ne (ne_of_none q4 ncw)]
      exact s6 _ _ (s5 _ _ q4)
end
end
section
set_option maxHeartbeats 4000000
open LamX NdefX
/-! ### the run that goes on: F holds all that stays; S: what a step writes -/
structure RunF (P : Program) (w : World) (F H : Hp) (r pa la ll lm lo lx : Addr) (p : Pp) (ats : List (Int × Int)) (left : List Int) (k : Nat) : Prop where
  sF : Same F H
  fr : ∃ dx, F r = some (o_Run dx (.ref pa) (.ref la) (.ref ll) (.ref lm) (.ref lo) (.ref lx))
  fp : PaperA P w F pa p
  na : F la = none
  nl : F ll = none
  nm : F lm = none
  no : F lo = none
  nx : F lx = none
  n5 : F 534 = none
  n7 : F 732 = none
  dal : la ≠ ll
  dao : la ≠ lo
  dax : la ≠ lx
  dlo : ll ≠ lo
  dlx : ll ≠ lx
  dox : lo ≠ lx
  ok : AtOk p ats left
  ha : LO PrA H la ats
  hl : LIn H ll left
  hm : RoomA H lm k
  ho : ∃ od : List V, H lo = some (.lst od) ∧ od.length ≤ k
  hx : ∃ am : List V, H lx = some (.lst am) ∧ am.length ≤ 3 * k
  ht : Tabs Tt H
abbrev RunS (la ll lm lo lx : Addr) : List Addr := [la, ll, lm, lo, lx, 534, 732]
section
variable {P : Program} {w : World} {K : PySem.W.Frag} {mg : Str → Option Value} {base : Heap}
theorem RunF.rst {F H : Hp} {r pa la ll lm lo lx : Addr} {p : Pp} {ats : List (Int × Int)} {left : List Int} {k : Nat} (h : RunF P w F H r pa la ll lm lo lx p ats left k) : RSt P w H r p ats left :=
  ⟨h.ok, pa, la, ll, lm, lo, lx, ⟨h.fp.same h.sF, h.fr.choose, h.sF _ _ h.fr.choose_spec⟩, h.ha, h.hl⟩
theorem RunF.same {F H H' : Hp} {r pa la ll lm lo lx : Addr} {p : Pp} {ats : List (Int × Int)} {left : List Int} {k : Nat} (h : RunF P w F H r pa la ll lm lo lx p ats left k) (s : Same H H') : RunF P w F H' r pa la ll lm lo lx p ats left k :=
  { h with sF := h.sF.trans s, ha := lop_same h.ha s, hl := h.hl.same s, hm := h.hm.same s, ho := by obtain ⟨od, a, b⟩ := h.ho; exact ⟨od, s _ _ a, b⟩, hx := by obtain ⟨od, a, b⟩ := h.hx; exact ⟨od, s _ _ a, b⟩, ht := h.ht.ext s }
theorem RunF.occ {F H : Hp} {r pa la ll lm lo lx : Addr} {p : Pp} {ats : List (Int × Int)} {left : List Int} {k : Nat} (h : RunF P w F H r pa la ll lm lo lx p ats left k) : ∀ b ∈ RunS la ll lm lo lx, H b ≠ none := by
  obtain ⟨as, a1, _⟩ := h.ha
  obtain ⟨kv, a2, _⟩ := h.hm
  obtain ⟨od, a3, _⟩ := h.ho
  obtain ⟨am, a4, _⟩ := h.hx
  have a5 : H ll = _ := h.hl
  obtain ⟨p1, b1, _⟩ := h.ht _ (List.mem_cons_self)
  obtain ⟨p2, b2, _⟩ := h.ht _ (List.mem_cons_of_mem _ List.mem_cons_self)
  intro b hb
  simp only [RunS, List.mem_cons, List.mem_nil_iff, or_false] at hb
  rcases hb with e | e | e | e | e | e | e <;> subst e
  · rw [a1]; simp
  · rw [a5]; simp
  · rw [a2]; simp
  · rw [a3]; simp
  · rw [a4]; simp
  · rw [b1]; simp
  · rw [b2]; simp
theorem codeO_cellX {c : Addr} {q : Str} {ob : Obj} {u : Option Value} (hd : ob.data = .cell u) : CodeO c q ≠ CellX c ob := fun z => by
  unfold CodeO CellX at z
  have e := HO.ext.inj z
  let oc : Obj := { cls := .none, data := .fields #[.none, .str q 0] }
  let h : Heap := { objs := Array.replicate (c + 1) oc }
  have g : h.get? c = some oc := by
    show (match (Array.replicate (c + 1) oc)[c]? with
      | some ⟨_, _, .freed, _⟩ => none
      | o => o) = some oc
    rw [Array.getElem?_replicate, if_pos (Nat.lt_succ_self c)]
  have e2 : h.get? c = some ob := by
    rw [← congrFun e h]
    exact ⟨oc, _, 0, g, rfl, rfl⟩
  rw [g] at e2
  have e3 : ob = oc := (Option.some.inj e2).symm
  rw [e3] at hd
  change Data.fields _ = Data.cell u at hd
  cases hd
theorem tabs_drop {H : Hp} {c : Addr} {ob : Obj} {u : Option Value} {T : List (Addr × Str)} (h : Tabs T H) (e : H c = some (CellX c ob)) (hd : ob.data = .cell u) : Tabs T (dropA c H) := fun pr hp => by
  obtain ⟨ps, b1, b2, b3⟩ := h pr hp
  refine ⟨ps, by rw [dropA_ne (ne_of b1 e (fun z => nomatch z))]; exact b1, b2, fun p' cv hcv => ?_⟩
  obtain ⟨c0, d1, d2⟩ := b3 p' cv hcv
  refine ⟨c0, d1, ?_⟩
  have : c0 ≠ c := fun z => by
    subst z
    rw [d2] at e
    exact codeO_cellX hd (Option.some.inj e)
  rw [dropA_ne this]
  exact d2
theorem ixN_n {n j : Nat} (hj : j < n) : ixN n (j : Int) = some j := by
  unfold ixN
  rw [if_pos (by omega), if_pos (by omega)]
  simp
theorem putK_mem {kvs : List (Key × V)} {k : Key} {v : V} {e : Key × V} (h : e ∈ putK kvs k v) : e ∈ kvs ∨ e.2 = v := by
  unfold putK at h
  split at h
  · obtain ⟨p, hp, rfl⟩ := List.mem_map.mp h
    by_cases hz : p.1 = k
    · rw [if_pos hz]
      exact .inr rfl
    · rw [if_neg hz]
      exact .inl hp
  · rcases List.mem_append.mp h with z1 | z1
    · exact .inl z1
    · rw [List.mem_singleton.mp z1]
      exact .inr rfl
theorem putK_le {kvs : List (Key × V)} {k : Key} {v : V} : (putK kvs k v).length ≤ kvs.length + 1 := by
  unfold putK
  split
  · rw [List.length_map]; omega
  · simp
theorem lo_set {H H' : Hp} {la t : Addr} {as : List Addr} {ats : List (Int × Int)} {h : Nat} {z' : Int × Int} (al : as.length = ats.length) (a3 : ∀ (i : Nat) (a : Addr) (z : Int × Int), as[i]? = some a → ats[i]? = some z → PrA H a z) (tt : Tups H H') (e : H' la = some (.lst ((as.map V.ref).set h (V.ref t)))) (ht : H' t = some (.tup [.int z'.1, .int z'.2])) : LO PrA H' la (ats.set h z') := by
  refine ⟨as.set h t, by rw [List.map_set]; exact e, by rw [List.length_set, List.length_set, al], fun i a z e1 e2 => ?_⟩
  rw [List.getElem?_set] at e1 e2
  by_cases hi : h = i
  · subst hi
    rw [if_pos rfl] at e1 e2
    split at e1
    · split at e2
      · cases e1
        cases e2
        exact ht
      · cases e2
    · cases e1
  · rw [if_neg hi] at e1 e2
    exact tt _ _ (a3 i a z e1 e2)
theorem atI_set {xs : List V} {i : Nat} {v : V} (h : i < xs.length) : atI (xs.set i v) (i : Int) = some v := atI_nat (by rw [List.getElem?_set, if_pos rfl, if_pos h])
def stepZ (z : Int × Int) (lv : Int) : Int × Int := if lv - 1 = 0 then (z.1 + 1, 0) else (z.1, z.2 + 1)
def spStep (P : Program) (w : World) : Sp := fun vs H Q _ => ∃ (F : Hp) (r pa la ll lm lo lx : Addr) (p : Pp) (ats : List (Int × Int)) (left : List Int) (k h : Nat) (pc : Int) (z : Int × Int) (zs : List Sp2) (y : Sp2) (lv : Int), vs = [.ref r, .int h] ∧ RunF P w F H r pa la ll lm lo lx p ats left k ∧ k ≤ 100 ∧ h < p.hs.length ∧ canStep p ats left h = true ∧
  pieceAt p.hs ats h = some pc ∧ ats[h]? = some z ∧ 0 ≤ pc ∧ p.pcs[pc.toNat]? = some zs ∧ zs[z.2.toNat]? = some y ∧ left[pc.toNat]? = some lv ∧
  ∀ H', Keep (RunS la ll lm lo lx) H H' → RunF P w F H' r pa la ll lm lo lx p (ats.set h (stepZ z lv)) (left.set pc.toNat (lv - 1)) (k + 1) → Q .non H'
theorem sc69 : FnScope ["self", "hand", "piece", "spot", "number", "place"] ["self", "hand"] (C8.fnScope st69) := C8.fnScope_by (by decide +kernel)
theorem ok_Run_step (T : Txt K mg) (TB0 : TabB base mg 538 534) (TB1 : TabB base mg 736 732) : C8.Met P w K mg base 10 780 "step" (spStep P w) [] := by
  refine met_by (k := 9) (T.df 69 _ rfl) (c_Run T) (m_Run_step T) sc69 (fun _ _ _ _ us hl => match us, hl with | [_, _], _ => rfl) (fun vs H Q E h => ?_) (fun A outer s H vs Q E hr o h => ?_)
  · obtain ⟨F, r, pa, la, ll, lm, lo, lx, p, ats, left, k, h, pc, z, zs, y, lv, rfl, _⟩ := h
    rfl
  · obtain ⟨F, r, pa, la, ll, lm, lo, lx, p, ats, left, k, h, pc, z, zs, y, lv, rfl, R, hk, hh, hcan, hpc, hz, pc0, hzs, hy, hlv, q⟩ := h
    have S := R.rst
    obtain ⟨dx, hFr⟩ := R.fr
    obtain ⟨pok, pdx, pj, lp, lh, lw, pd, plx, hpa, J, hlp, hlh, hlw, hsl⟩ := id R.fp
    have hrr := R.sF _ _ hFr
    obtain ⟨as, a1, a2, a3⟩ := id R.ha
    have hh' : (h : Int) < ((as.map V.ref).length : Nat) := by rw [List.length_map, a2, R.ok.al]; omega
    refine ⟨_, (pss_cons (ps_if (PW.pt (pw_or (pt_not (pt_val (C8.pe_c (ok_is_below (P := P) (w := w) T) hr (by decide) (by rfl) (pa_cons (pv 1) (pa_cons (pe_callB (cr_self o) (by rfl) (z_len T) b_len (pa_cons (pe_fldZ o (pv 0) rfl) pa_nil)) pa_nil))))) (pw_or1 (pt_not (pt_val (C8.pe_mt (ok_Run_can_step (P := P) (w := w) T) hr (by decide) (pv 0) (pa_cons (pv 1) pa_nil))))))) (pss_one ps_never) pss_nil)
      (pss_cons (ps_set (i := 2) (sc69).nd rfl (by first | exact Or.inl rfl | exact Or.inr rfl) (C8.pe_mt (ok_Run_piece_at (P := P) (w := w) T) hr (by decide) (pv 0) (pa_cons (pv 1) pa_nil)))
      (pss_cons (ps_set (i := 3) (sc69).nd rfl (by first | exact Or.inl rfl | exact Or.inr rfl) (C8.pe_mt (ok_Run_next_spot (P := P) (w := w) T) hr (by decide) (pv 0) (pa_cons (pv 1) pa_nil)))
      (pss_cons (ps_expr (C8.pe_mt (ok_Run_note_reads (P := P) (w := w) T) hr (by decide) (pv 0) (pa_cons (pv 3) pa_nil)))
      (pss_cons (ps_asg (pe_tup (pa_mn (pa_cons (pv 3) (pa_cons (pe_mtL (i := 0) (y := "self") (ok_Job_next_worth (P := P) (w := w) T TB0) hr (by decide) (pe_fldZ o (pe_fldZ o (pv 0) rfl) rfl) (pa_cons (pv 3) (pa_cons (pe_lamV (T := Tt) TB1 rfl (tt_mem1 (by kernel_rfl)) (tt_one1 (by kernel_rfl)) rfl (hfree_by (sc := C8.fnScope st69) rfl (by decide +kernel))) pa_nil)) rfl rfl rfl) pa_nil)))) (pg_sub (pe_fldZ o (pv 0) rfl) (pe_getDZ o (pe_fldZ o (pe_fldZ o (pv 0) rfl) rfl) (pv 3) (fun _ _ => rfl)) (set_self o)))
      (pss_cons (ps_expr (pe_bmZ o PySem.F.plainAttrs_list PySem.F.slot_list_append PySem.F.type_list_append (mt_self o) (pe_mn (pe_fldZ o (pv 0) rfl)) (pa_cons (pv 3) pa_nil)))
      (pss_cons (ps_asg (pe_op (op_self o) (pe_ix (ix_self o) (pe_fldZ o (pv 0) rfl) (pv 2) (fun _ _ => rfl)) pe_int) (pg_sub (pe_fldZ o (pv 0) rfl) (pv 2) (set_self o)))
      (pss_cons (ps_asg (pe_ix (ix_self o) (pe_fldZ o (pv 0) rfl) (pv 1) (fun _ _ => rfl)) (pg_tupZ (n := 2) o (pgs_cons (pg_name (i := 4) (sc69).nd (by rfl) (by first | exact Or.inl rfl | exact Or.inr rfl)) (pgs_cons (pg_name (i := 5) (sc69).nd (by rfl) (by first | exact Or.inl rfl | exact Or.inr rfl)) pgs_nil))))
      (pss_cons (ps_asg (pe_tup (pa_mn (pa_cons (pv 4) (pa_cons (pe_op (op_self o) (pv 5) pe_int) pa_nil)))) (pg_sub (pe_fldZ o (pv 0) rfl) (pv 1) (set_self o)))
      (pss_one (ps_if (pt_cmpR (op_self o) (pe_ix (ix_self o) (pe_fldZ o (pv 0) rfl) (pv 2) (fun _ _ => rfl)) pe_int (nomark _)) (pss_one (ps_asg (pe_tup (pa_mn (pa_cons (pe_op (op_self o) (pv 4) pe_int) (pa_cons pe_int pa_nil)))) (pg_sub (pe_fldZ o (pv 0) rfl) (pv 1) (set_self o)))) pss_nil))))))))))), ?_⟩
    walk_at "go"
    refine ⟨_, _, rfl, by omega, hh', ?_⟩
    walk_at "go"
    refine ⟨r, h, p, ats, left, rfl, S, hh, fun H1 s1 => ?_⟩
    rw [hcan]
    walk_at "go"
    have R1 := R.same s1
    have S1 := S.same s1
    have hrr1 := s1 _ _ hrr
    refine ⟨r, h, p, ats, left, rfl, S1, hh, ?_⟩
    rw [hpc]
    have e : optV (some pc) = .int pc := rfl
    rw [e]
    walk_at "go"
    refine ⟨r, h, p, ats, left, pc, z, zs, y, rfl, S1, hh, hpc, hz, pc0, hzs, hy, fun a ha => ?_⟩
    have yok : SpOk p.R p.sz y := (pok.pc zs (List.mem_of_getElem? hzs)).2.2 y (List.mem_of_getElem? hy)
    obtain ⟨am, hx1, hxl⟩ := R1.hx
    walk_at "go"
    refine ⟨r, pa, la, ll, lm, lo, lx, a, p, k, y, am, rfl, ⟨⟨R1.fp.same R1.sF, dx, R1.sF _ _ hFr⟩, R1.hm⟩, ha, yok, hx1, by omega, fun H2 am' k2 h2 hl2 => ?_⟩
    have sF2 : Same F H2 := fun b o q => k2 _ _ (R1.sF _ _ q) (nin1 (fun z => by rw [z, R.nx] at q; cases q))
    have hrr2 := sF2 _ _ hFr
    have hpa2 := sF2 _ _ hpa
    have t12 : Tups H1 H2 := (k2.nolL hx1).tups
    have ha2 := ha.mono t12
    have hT2 : Tabs Tt H2 := fun pr hp' => by
      obtain ⟨ps, b1, b2, b3⟩ := R1.ht pr hp'
      refine ⟨ps, k2 _ _ b1 (nin1 (ne_of b1 hx1 (fun z => nomatch z))), b2, fun p' cv hcv => ?_⟩
      obtain ⟨c0, d1, d2⟩ := b3 p' cv hcv
      exact ⟨c0, d1, k2 _ _ d2 (nin1 (ne_of d2 hx1 (fun z => by unfold CodeO at z; cases z)))⟩
    walk_at "go"
    refine c_methL ?_
    walk_at "go"
    obtain ⟨_, _, jdx, jg, jtm, jtl, jfl, jt, jks, hj, _⟩ := id J
    have hj2 := sF2 _ _ hj
    walk_at "go"
    refine ⟨hT2, fun lf lc H3 k3 hT3 nf hf hc => ?_⟩
    walk_at "go"
    refine ⟨_, rfl, fun cs ob u hcs ncs hob hu => ?_⟩
    have sF3 : Same F H3 := fun b o q => k3 _ _ (sF2 _ _ q) (nin1 (fun z => by rw [z, R.n7] at q; cases q))
    obtain ⟨p5, p51, _⟩ := hT3 _ (List.mem_cons_self)
    obtain ⟨p7, p71, _⟩ := hT2 _ (List.mem_cons_of_mem _ List.mem_cons_self)
    have p71 : H2 732 = some (.tbl p7) := p71
    have p51 : H3 534 = some (.tbl p5) := p51
    have k23 : ∀ b o, H2 b = some o → (∀ ps, o ≠ .tbl ps) → H3 b = some o := fun b o q n => k3 _ _ q (nin1 (fun z => by rw [z, p71] at q; cases q; exact n _ rfl))
    have t23 : Tups H2 H3 := fun b xs q => k23 _ _ q (fun ps z => nomatch z)
    have ntF : NT F (dropT H3) := fun b o q n => dropT_nt _ _ (sF3 _ _ q) n
    have n50 : dropT H3 534 = none := dropT_tb p51
    have nc0 : dropT H3 cs = none := dropT_none ncs
    have t3d : Tups H3 (dropT H3) := dropT_nt.tups
    have s34 : Same H3 (upd H3 cs (CellX cs ob)) := same_new ncs
    have s0 : Same (dropT H3) (upd H3 cs (CellX cs ob)) := dropT_le.trans s34
    have rm3 : RoomA (dropT H3) lm k := R1.hm.keep ((t12.trans t23).trans t3d) fun kvs q => dropT_nt _ _ (k23 _ _ (k2 _ _ q (nin1 (ne_of q hx1 (fun z => nomatch z)))) (fun ps z => nomatch z)) rfl
    have cellc : upd H3 cs (CellX cs ob) cs = some (CellX cs ob) := upd_same
    refine ⟨dropT H3, pj, a, lf, cs, p.sz, p.R, y, rfl, J.nt ntF, (ha2.mono t23).mono t3d, yok, s0, n50, ⟨dropT H3, ob, QG, [(("self" : Str), ((cx P w K mg base ["self", "hand", "piece", "spot", "number", "place"] d69 A outer s H E).env.cells.lookup ("self" : Str)).getD 0)], lc, r, pa, la, ll, lm, lo, lx, p, k, ⟨s34 _ _ hf, s34 _ _ hc, clo_lk hcs, clo_uq, cellc, u, hob, hu⟩, s0, nc0, n50, ⟨⟨R.fp.nt ntF, dx, ntF _ _ hFr rfl⟩, rm3⟩, rfl, rfl⟩, hT3.ext s34, fun H4 iv k4 hT4 i0 i1 => ?_⟩
    have c5 : cs ≠ 534 := fun z => by rw [z, p51] at ncs; cases ncs
    have cell4 := k4 _ _ cellc (nin1 c5)
    refine ⟨cell4, ?_⟩
    have hT5 := tabs_drop hT4 cell4 hob
    have k35 : ∀ b o, H3 b = some o → b ≠ 534 → dropA cs H4 b = some o := fun b o q n => by
      rw [dropA_ne (ne_of_none q ncs)]
      exact k4 _ _ (s34 _ _ q) (nin1 n)
    generalize hH5 : dropA cs H4 = H5 at hT5 k35 ⊢
    have sF5 : Same F H5 := fun b o q => k35 _ _ (sF3 _ _ q) (fun z => by rw [z, R.n5] at q; cases q)
    have k25 : ∀ b o, H2 b = some o → (∀ ps, o ≠ .tbl ps) → H5 b = some o := fun b o q n => k35 _ _ (k23 _ _ q n) (fun z => by
      have q3 := k23 _ _ q n
      rw [z, p51] at q3
      cases q3
      exact n _ rfl)
    have t25 : Tups H2 H5 := fun b xs q => k25 _ _ q (fun ps z => nomatch z)
    have ha5 := ha2.mono t25
    walk_at "go"
    have hrr5 := sF5 _ _ hFr
    have hpa5 := sF5 _ _ hpa
    obtain ⟨od, es, hd, hz', hsp, hv⟩ := id hsl
    have hd5 := sF5 _ _ hd
    have hsp5 : ∀ e ∈ es, SpA H5 e.2.1 e.1 := fun e he => (hsp e he).same sF5
    obtain ⟨e0, he0, hval, hez⟩ := valD_of (es := es) (z := y) (by rw [hz']; exact pok.kp.mem_iff.mpr (mem_spotsF.mpr yok))
    obtain ⟨i00, hi0, _, _⟩ := hv e0 he0
    rw [hi0] at hval
    have t15 : Tups H1 H5 := t12.trans t25
    have c15 : ∀ b o, H1 b = some o → b ≠ lx → (∀ ps, o ≠ .tbl ps) → H5 b = some o := fun b o q n n' => k25 _ _ (k2 _ _ q (nin1 n)) n'
    obtain ⟨kvs, hm1, hml, hrm⟩ := R1.hm
    have hm5 : H5 lm = some (.dK kvs) := c15 _ _ hm1 (ne_of hm1 hx1 (fun z => nomatch z)) (fun ps z => nomatch z)
    have hrm5 : ∀ e ∈ kvs, RoomV H5 e.2 := fun e he => (hrm e he).mono t15
    have la5 : H5 la = some (.lst (as.map V.ref)) := c15 _ _ (s1 _ _ a1) R.dax (fun ps z => nomatch z)
    have hll1 : H1 ll = some (.lst (left.map V.int)) := R1.hl
    have ll5 : H5 ll = some (.lst (left.map V.int)) := c15 _ _ hll1 R.dlx (fun ps z => nomatch z)
    obtain ⟨ord, ho1, hol⟩ := R1.ho
    have lo5 : H5 lo = some (.lst ord) := c15 _ _ ho1 R.dox (fun ps z => nomatch z)
    have lx5 : H5 lx = some (.lst am') := k25 _ _ h2 (fun ps z => nomatch z)
    have dal := R.dal
    have dao := R.dao
    have dax := R.dax
    have dlo := R.dlo
    have dlx := R.dlx
    have dox := R.dox
    have hll' := (List.getElem?_eq_some_iff.mp hlv).1
    have epc : pc = ((pc.toNat : Nat) : Int) := by omega
    have at2 : atI (left.map V.int) pc = some (V.int lv) := by rw [epc]; exact atI_nat (by rw [List.getElem?_map, hlv]; rfl)
    have ix2 : ixN (left.map V.int).length pc = some pc.toNat := by rw [epc]; exact ixN_n (by rw [List.length_map]; omega)
    obtain ⟨ta, hta⟩ : ∃ ta, as[h]? = some ta := ⟨_, List.getElem?_eq_getElem (by rw [a2, R.ok.al]; exact hh)⟩
    have hta5 : H5 ta = some (.tup [.int z.1, .int z.2]) := t15 _ _ (s1 _ _ (a3 h ta z hta hz))
    have htv : (as.map V.ref)[h]? = some (V.ref ta) := by rw [List.getElem?_map, hta]; rfl
    have ix1 : ixN (as.map V.ref).length (h : Int) = some h := ixN_n (by rw [List.length_map, a2, R.ok.al]; exact hh)
    refine ⟨len2, fun t0 H6 n6 s6 h6 => ?_⟩
    have lm6 := s6 _ _ hm5
    have hpa6 := s6 _ _ hpa5
    have hrr6 := s6 _ _ hrr5
    have hd6 := s6 _ _ hd5
    walk_at "go"
    refine ⟨pd, od, es, a, y, .int i00, rfl, rfl, hd6, fun e he => (hsp5 e he).same s6, ha5.same s6, hval, ?_⟩
    refine v_setK lm6 (small1000 (by omega)) fun H7 k7 h7 => ?_
    have lo7 : H7 lo = some (.lst ord) := k7 _ _ (s6 _ _ lo5) (nin1 (ne_of lo5 hm5 (fun z => nomatch z)))
    have ll7 : H7 ll = some (.lst (left.map V.int)) := k7 _ _ (s6 _ _ ll5) (nin1 (ne_of ll5 hm5 (fun z => nomatch z)))
    have la7 : H7 la = some (.lst (as.map V.ref)) := k7 _ _ (s6 _ _ la5) (nin1 (ne_of la5 hm5 (fun z => nomatch z)))
    have lx7 : H7 lx = some (.lst am') := k7 _ _ (s6 _ _ lx5) (nin1 (ne_of lx5 hm5 (fun z => nomatch z)))
    have hrr7 := k7 _ _ hrr6 (nin1 (ne_of hrr5 hm5 (fun z => nomatch z)))
    have t67 : Tups H6 H7 := (k7.nol lm6 rfl).tups
    have hta7 := t67 _ _ (s6 _ _ hta5)
    have ht07 := t67 _ _ h6
    walk_at "go"
    refine v_app lo7 (small1000 (by omega)) fun H8 k8 h8 => ?_
    have ll8 := k8 _ _ ll7 (nin1 dlo)
    have la8 := k8 _ _ la7 (nin1 dao)
    have lx8 := k8 _ _ lx7 (nin1 dox.symm)
    have lm8 := k8 _ _ h7 (nin1 (ne_of h7 lo7 (fun z => nomatch z)))
    have hrr8 := k8 _ _ hrr7 (nin1 (ne_of hrr7 lo7 (fun z => nomatch z)))
    have t78 : Tups H7 H8 := (k8.nolL lo7).tups
    walk_at "go"
    refine v_setL ll8 ix2 fun H9 k9 h9 => ?_
    have la9 := k9 _ _ la8 (nin1 dal)
    have lx9 := k9 _ _ lx8 (nin1 dlx.symm)
    have lo9 := k9 _ _ h8 (nin1 dlo.symm)
    have lm9 := k9 _ _ lm8 (nin1 (ne_of lm8 ll8 (fun z => nomatch z)))
    have hrr9 := k9 _ _ hrr8 (nin1 (ne_of hrr8 ll8 (fun z => nomatch z)))
    have t89 : Tups H8 H9 := (k9.nolL ll8).tups
    have hta9 := t89 _ _ (t78 _ _ hta7)
    walk_at "go"
    have hrow0 : ∃ row, p.hs[h]? = some row := ⟨_, List.getElem?_eq_getElem hh⟩
    obtain ⟨row, hrow⟩ := hrow0
    obtain ⟨z1, z2, z3⟩ := R.ok.ok h row z hrow hz
    have hpc' : row[z.1.toNat]? = some pc := by
      have := hpc
      unfold pieceAt at this
      rw [hrow, hz] at this
      exact this
    have zlt := (List.getElem?_eq_some_iff.mp hpc').1
    have t59 : Tups H5 H9 := fun b xs e => t89 _ _ (t78 _ _ (t67 _ _ (s6 _ _ e)))
    have c59 : ∀ b o, H5 b = some o → b ≠ ll → b ≠ lm → b ≠ lo → H9 b = some o := fun b o q n1 n2 n3 => k9 _ _ (k8 _ _ (k7 _ _ (s6 _ _ q) (nin1 n2)) (nin1 n3)) (nin1 n1)
    have ht09 : H9 t0 = some (.tup [.ref a, .int iv]) := t89 _ _ (t78 _ _ ht07)
    have fin : ∀ (He : Hp) (t : Addr), Keep [la] H9 He → Tups H9 He → He la = some (.lst ((as.map V.ref).set h (V.ref t))) → He t = some (.tup [.int (stepZ z lv).1, .int (stepZ z lv).2]) → Q .non He := fun He t ke te e1 e2 => by
      have c5e : ∀ b o, H5 b = some o → b ≠ la → b ≠ ll → b ≠ lm → b ≠ lo → He b = some o := fun b o q n0 n1 n2 n3 => ke _ _ (c59 _ _ q n1 n2 n3) (nin1 n0)
      have sFe : Same F He := fun b o q => c5e _ _ (sF5 _ _ q) (fun z => by rw [z, R.na] at q; cases q) (fun z => by rw [z, R.nl] at q; cases q) (fun z => by rw [z, R.nm] at q; cases q) (fun z => by rw [z, R.no] at q; cases q)
      have t5e : Tups H5 He := fun b xs q => te _ _ (t59 _ _ q)
      have lxe : He lx = some (.lst am') := ke _ _ lx9 (nin1 dax.symm)
      have loe : He lo = some (.lst (ord ++ [V.ref a])) := ke _ _ lo9 (nin1 dao.symm)
      have lle := ke _ _ h9 (nin1 dal.symm)
      have lme := ke _ _ lm9 (nin1 (ne_of lm9 la9 (fun z => nomatch z)))
      have kS : Keep (RunS la ll lm lo lx) H He := fun b o q n => by
        simp only [RunS, List.mem_cons, List.mem_nil_iff, or_false, not_or] at n
        obtain ⟨n1, n2, n3, n4, n5, n6, n7⟩ := n
        exact c5e _ _ (k35 _ _ (k3 _ _ (k2 _ _ (s1 _ _ q) (nin1 n5)) (nin1 n7)) n6) n1 n2 n3 n4
      have hTe : Tabs Tt He := fun pr hp' => by
        obtain ⟨ps, b1, b2, b3⟩ := hT5 pr hp'
        refine ⟨ps, c5e _ _ b1 (ne_of b1 la5 (fun z => nomatch z)) (ne_of b1 ll5 (fun z => nomatch z)) (ne_of b1 hm5 (fun z => nomatch z)) (ne_of b1 lo5 (fun z => nomatch z)), b2, fun p' cv hcv => ?_⟩
        obtain ⟨c0, d1, d2⟩ := b3 p' cv hcv
        exact ⟨c0, d1, c5e _ _ d2 (ne_of d2 la5 (fun z => by unfold CodeO at z; cases z)) (ne_of d2 ll5 (fun z => by unfold CodeO at z; cases z)) (ne_of d2 hm5 (fun z => by unfold CodeO at z; cases z)) (ne_of d2 lo5 (fun z => by unfold CodeO at z; cases z))⟩
      refine q He kS ⟨sFe, ⟨dx, hFr⟩, R.fp, R.na, R.nl, R.nm, R.no, R.nx, R.n5, R.n7, dal, dao, dax, dlo, dlx, dox, ?_, ?_, ?_, ?_, ⟨_, loe, by rw [List.length_append]; simp; omega⟩, ⟨am', lxe, by omega⟩, hTe⟩
      · refine ⟨by rw [List.length_set]; exact R.ok.al, fun h' row' z' e3 e4 => ?_, by rw [List.length_set]; exact R.ok.ll⟩
        rw [List.getElem?_set] at e4
        by_cases hi : h = h'
        · subst hi
          rw [hrow] at e3
          cases e3
          rw [if_pos rfl] at e4
          split at e4
          · cases e4
            unfold stepZ
            split
            · exact ⟨by show 0 ≤ z.1 + 1; omega, by show z.1 + 1 ≤ _; omega, by show (0:Int) ≤ 0; omega⟩
            · exact ⟨z1, z2, by show 0 ≤ z.2 + 1; omega⟩
          · cases e4
        · rw [if_neg hi] at e4
          exact R.ok.ok h' row' z' e3 e4
      · exact lo_set a2 a3 (fun b xs q => t5e _ _ (t15 _ _ (s1 _ _ q))) e1 e2
      · show He ll = _
        rw [List.map_set]
        exact lle
      · refine ⟨_, lme, Nat.le_trans putK_le (by omega), fun e he => ?_⟩
        rcases putK_mem he with q1 | q1
        · exact (hrm5 e q1).mono t5e
        · rw [q1]
          exact ⟨t0, a, y, iv, rfl, te _ _ ht09, ha5.mono t5e, i0, i1⟩
    refine ⟨len2, fun t1 H10 n10 s10 h10 => ?_⟩
    have la10 := s10 _ _ la9
    have hrr10 := s10 _ _ hrr9
    have ll10 := s10 _ _ h9
    walk_at "go"
    refine v_setL la10 ix1 fun H11 k11 h11 => ?_
    have k911 : Keep [la] H9 H11 := (Keep.of s10).trans k11
    have hrr11 := k11 _ _ hrr10 (nin1 (ne_of hrr10 la10 (fun z => nomatch z)))
    have ll11 := k11 _ _ ll10 (nin1 dal.symm)
    have at3 : atI ((left.map V.int).set pc.toNat (V.int (lv - 1))) pc = some (V.int (lv - 1)) := by
      conv => lhs; rw [epc]
      exact atI_set (by rw [List.length_map]; omega)
    have t911 : Tups H9 H11 := fun b xs q => (k11.nolL la10).tups _ _ (s10 _ _ q)
    have h10' : H11 t1 = some (.tup [.int z.1, .int (z.2 + 1)]) := (k11.nolL la10).tups _ _ h10
    walk_at "go"
    refine iteD (fun hb => ?_) (fun hb => ?_)
    · walk_at "go"
      refine ⟨len2, fun t2 H12 n12 s12 h12 => ?_⟩
      have la12 := s12 _ _ h11
      have hrr12 := s12 _ _ hrr11
      walk_at "go"
      refine v_setL la12 (by rw [List.length_set]; exact ix1) fun H13 k13 h13 => ?_
      walk_at "go"
      refine fin H13 t2 (k911.trans ((Keep.of s12).trans k13)) (fun b xs q => (k13.nolL la12).tups _ _ (s12 _ _ (t911 _ _ q))) (by rw [List.set_set] at h13; exact h13) ?_
      have ez : stepZ z lv = (z.1 + 1, 0) := by unfold stepZ; rw [if_pos hb]
      rw [ez]
      exact (k13.nolL la12).tups _ _ h12
    · walk_at "go"
      refine fin H11 t1 k911 t911 h11 ?_
      have ez : stepZ z lv = (z.1, z.2 + 1) := by unfold stepZ; rw [if_neg hb]
      rw [ez]
      exact h10'
end
end
section
set_option maxHeartbeats 4000000
section
variable {P : Program} {w : World} {K : PySem.W.Frag} {mg : Str → Option Value} {base : Heap}
/-! ### _law_row -/
def spRow : Sp := fun vs H Q _ => ∃ (p t : Addr) (sz : List Int) (tk : List Sp2) (R : Nat), vs = [.ref p, .ref t] ∧ WorldA H p sz tk R ∧ H t = some (TapeO t) ∧ ∀ H' l (ks : SpL), Same H H' → H l = none → LSp H' l ks → (ks.zs).Perm (spotsF R sz) → Q (.ref l) H'
theorem sc80 : FnScope ["_law_world_here", "_law_tape_here", "_law_left", "_law_found", "_law_ready", "_law_spot", "_law_one"] ["_law_world_here", "_law_tape_here"] (C8.fnScope st80) := C8.fnScope_by (by decide +kernel)
theorem ok_law_row (T : Txt K mg) : C8.Cal P w K mg base 5 "_law_row" spRow [] := by
  refine cal_by (k := 4) (T.df 80 _ rfl) (g_law_row T) sc80 (fun _ _ _ _ us hl => match us, hl with | [_, _], _ => rfl) (fun vs H Q E h => ?_) (fun A outer s H vs Q E hr o h => ?_)
  · obtain ⟨p, t, sz, tk, R, rfl, _⟩ := h
    rfl
  · obtain ⟨p, t, sz, tk, R, rfl, W, ht, q⟩ := h
    have wok := W.ok
    have h30 : (spotsF R sz).length ≤ 30 := by
      rw [spotsF_len]
      calc R * (placesF sz).length ≤ 5 * 6 := Nat.mul_le_mul W.hR (places_len wok).1
        _ = 30 := rfl
    refine ⟨_, (pss_cons (ps_set (i := 2) (sc80).nd rfl (by first | exact Or.inl rfl | exact Or.inr rfl) (C8.pe_c (ok_law_spots (P := P) (w := w) T) hr (by decide) (by rfl) (pa_cons (pv 0) pa_nil)))
      (pss_cons (ps_set (i := 3) (sc80).nd rfl (by first | exact Or.inl rfl | exact Or.inr rfl) (pe_lst (pa_mn pa_nil)))
      (pss_cons (ps_while PassesOwn.never (pt_cmpR (op_self o) (pv 2) (pe_lst (pa_mn pa_nil)) (nomark _)) (pss_cons (ps_setLc (i := 4) (own := [("_law_spot", 5)]) rfl (sc80).nd rfl rfl (sw_true rfl rfl rfl (by decide +kernel)) (pi_listZ o (pv 2)) (blkOk_by (own := [("_law_spot", 5)]) (by kernel_rfl)) (fun _ _ _ _ _ => pg_mn (pg_name (i := 5) (sc80).nd (by rfl) (by first | exact Or.inl rfl | exact Or.inr rfl))) (fun _ _ _ _ _ => pts_mn (pts_one (pt_cmpR (op_self o.blk) (pe_lc (own := [("_law_one", 6)]) rfl (sc80).nd (pi_listZ o.blk (C8.pe_c (ok_law_leans (P := P) (w := w) T) hr (by decide) (by rfl) (pa_cons (pv 0) (pa_cons (pv 5) pa_nil)))) (blkOk_by (own := [("_law_one", 6)]) (by kernel_rfl)) (fun _ _ _ _ _ => pg_mn (pg_name (i := 6) (sc80).nd (by rfl) (by first | exact Or.inl rfl | exact Or.inr rfl))) (fun _ _ _ _ _ => pts_mn (pts_one (pt_cmpR (op_self o.blk.blk) (pv 6) (pv 3) (by rfl)))) (fun _ _ _ _ _ => pe_mn (pv 6))) (pe_lst (pa_mn pa_nil)) (nomark _)))) (fun _ _ _ _ _ => pe_mn (pv 5)))
      (pss_cons (ps_set (i := 5) (sc80).nd rfl (by first | exact Or.inl rfl | exact Or.inr rfl) (pe_ix (ix_self o) (pv 4) (C8.pe_c (ok_law_draw (P := P) (w := w) T) hr (by decide) (by rfl) (pa_cons (pv 1) (pa_cons (pe_callB (cr_self o) (by rfl) (z_len T) b_len (pa_cons (pv 4) pa_nil)) pa_nil))) (fun _ _ => rfl)))
      (pss_cons (ps_expr (pe_bmZ o PySem.F.plainAttrs_list PySem.F.slot_list_append PySem.F.type_list_append (mt_self o) (pe_mn (pv 3)) (pa_cons (pv 5) pa_nil)))
      (pss_one (ps_expr (pe_bmZ o PySem.F.plainAttrs_list PySem.F.slot_list_remove PySem.F.type_list_remove (mt_self o) (pe_mn (pv 2)) (pa_cons (pv 5) pa_nil))))))))
      (pss_one (ps_ret (pv 3)))))), ?_⟩
    walk_at "go"
    refine ⟨p, sz, tk, R, rfl, W, fun H1 l ks s1 nl hl hz => ?_⟩
    walk_at "go"
    refine ⟨len0, fun f H2 n2 s2 h2 => ?_⟩
    have s02 := s1.trans s2
    have lf : l ≠ f := fun z => by rw [← z, hl.1] at n2; cases n2
    have nlf : H f = none := by
      cases e : H f with
      | none => rfl
      | some o => exact absurd (s1 _ _ e) (by rw [n2]; simp)
    walk_at "go"
    refine whileZ (fun m σ H' => Same H H' ∧ ∃ (kl kf : SpL) (b : Option V), kl.length = m ∧ LSp H' l kl ∧ LSp H' f kf ∧ (kf.zs ++ kl.zs).Perm (spotsF R sz) ∧ ∃ c d, σ = [some (.ref p), some (.ref t), some (.ref l), some (.ref f), b, c, d]) ks.length ⟨s02, ks, [], none, rfl, hl.same s2, ⟨h2, by simp⟩, by rw [hz]; simp [SpL.zs], _, _, rfl⟩ (fun m σ H3 ⟨s3, kl, kf, b, em, hl3, hf3, pm, c, d, es⟩ => ?_)
    subst es
    have l3 := hl3.1
    have klen : kl.length = kl.zs.length := by simp [SpL.zs]
    have kflen : kf.length = kf.zs.length := by simp [SpL.zs]
    have tot := pm.length_eq
    rw [List.length_append] at tot
    have lok : ∀ y ∈ kl.zs, SpOk R sz y := fun y hy => mem_spotsF.mp (pm.mem_iff.mp (List.mem_append_right _ hy))
    walk_at "go"
    refine ⟨len0, fun e0 H4 n4 s4 h4 => ?_⟩
    refine v_neE (hl3.same s4) h4 ?_
    have s04 := s3.trans s4
    have l4 := s4 _ _ l3
    have f4 := s4 _ _ hf3.1
    cases hemp : kl.isEmpty with
    | true =>
      walk_at "go"
      have e1 : kl = [] := by simpa using hemp
      subst e1
      have pm' : kf.zs.Perm (spotsF R sz) := by simpa [SpL.zs] using pm
      exact q H4 f kf s04 nlf (hf3.same s4) pm'
    | false =>
      have hne : kl ≠ [] := by simpa using hemp
      walk_at "go"
      refine ⟨fun σ' H' => ∃ m', m' < m ∧ (Same H H' ∧ ∃ (kl kf : SpL) (b : Option V), kl.length = m' ∧ LSp H' l kl ∧ LSp H' f kf ∧ (kf.zs ++ kl.zs).Perm (spotsF R sz) ∧ ∃ c d, σ' = [some (.ref p), some (.ref t), some (.ref l), some (.ref f), b, c, d]), fun σ' H' h => h, ?_⟩
      walk_at "go"
      refine lcL (a := l) (xs := kl.vs) [] (fun D i acc H' => ∃ k5 : SpL, acc = k5.vs ∧ (∀ p ∈ k5, p ∈ kl) ∧ ∀ (j : Nat) (kp : Addr × Sp2), j < i → kl[j]? = some kp → (∀ y ∈ kl.zs, kp.2.1 ≤ y.1) → k5 ≠ []) (by simp only [SpL.vs, List.length_map]; omega) l4 (by simp) (fun D H' nD sD hD => ⟨[], rfl, by simp, by simp⟩) (fun D i x acc H5 nD hx hlj k5 hD ⟨ka, ea, hsub, hne'⟩ => ?_) (fun D acc H5 nD hl5 k5 hD ⟨ka, ea, hsub, hne'⟩ => ?_)
      · have s5 := keep0 k5
        obtain ⟨kp, hkp, rfl⟩ := map_at hx
        have kpm := List.mem_of_getElem? hkp
        have zm : kp.2 ∈ kl.zs := List.mem_map.mpr ⟨kp, kpm, rfl⟩
        have hkp5 : SpA H5 kp.1 kp.2 := ((hl3.2 kp kpm).same s4).same s5
        have W5 := W.same (s04.trans s5)
        walk_at "go"
        refine ⟨p, kp.1, sz, tk, R, kp.2, rfl, W5, hkp5, lok _ zm, fun H6 le ke s6 nle hle hlok hfew => ?_⟩
        have hle1 := hle.1
        walk_at "go"
        refine lcL (a := le) (xs := ke.vs) [] (fun D i acc H' => ∃ k6 : SpL, acc = k6.vs ∧ (∀ p ∈ k6, SpA H' p.1 p.2) ∧ ∀ y ∈ k6.zs, y ∈ ke.zs ∧ y ∉ kf.zs) (by simp only [SpL.vs, List.length_map]; omega) hle1 (by simp) (fun D H' nD sD hD => ⟨[], rfl, by simp, by simp [SpL.zs]⟩) (fun D2 i2 x2 acc2 H7 nD2 hx2 hlj2 k7 hD2 ⟨kb, eb, hsb, hbn⟩ => ?_) (fun D2 acc2 H7 nD2 hl7 k7 hD2 ⟨kb, eb, hsb, hbn⟩ => ?_)
        · have s7 := keep0 k7
          obtain ⟨kq, hkq, rfl⟩ := map_at hx2
          have kqm := List.mem_of_getElem? hkq
          have hkq7 : SpA H7 kq.1 kq.2 := (hle.2 kq kqm).same s7
          have hf7 : LSp H7 f kf := (((hf3.same s4).same s5).same s6).same s7
          walk_at "go"
          refine v_ninS hkq7 hf7 ?_
          by_cases hb : kq.2 ∈ kf.zs
          · rw [decide_eq_true hb]
            walk_at "go"
            exact ⟨hD2, k7, kb, eb, hsb, hbn⟩
          · rw [decide_eq_false hb]
            walk_at "go"
            refine ⟨hD2, k7, fun H8 k8 h8 => ⟨kb ++ [kq], by rw [eb, spL_app]; rfl, fun p' hp' => ?_, fun y hy => ?_⟩⟩
            · rcases List.mem_append.mp hp' with z1 | z1
              · exact (hsb p' z1).nol (k8.nolL hD2)
              · rw [List.mem_singleton.mp z1]
                exact hkq7.nol (k8.nolL hD2)
            · rw [spL_zapp] at hy
              rcases List.mem_append.mp hy with z1 | z1
              · exact hbn y z1
              · have : y = kq.2 := by simpa [SpL.zs] using z1
                rw [this]
                exact ⟨List.mem_map.mpr ⟨kq, kqm, rfl⟩, hb⟩
        · have s7 := keep0 k7
          walk_at "go"
          refine ⟨len0, fun e1 H8 n8 s8 h8 => ?_⟩
          have hD8 : H8 D2 = some (.lst kb.vs) := by rw [← eb]; exact s8 _ _ hD2
          refine v_eqE (ks := kb) ⟨hD8, fun p' hp' => (hsb p' hp').same s8⟩ h8 ?_
          have s58 := s6.trans (s7.trans s8)
          cases hbe : kb.isEmpty with
          | true =>
            walk_at "go"
            try rw [if_pos rfl]
            walk_at "go"
            refine ⟨s58 _ _ hD, same_k0 (s5.trans s58), fun H9 k9 h9 => ⟨ka ++ [kp], by rw [ea, spL_app]; rfl, fun p' hp' => ?_, fun _ _ _ _ _ => by simp⟩⟩
            rcases List.mem_append.mp hp' with z1 | z1
            · exact hsub p' z1
            · rw [List.mem_singleton.mp z1]
              exact kpm
          | false =>
            walk_at "go"
            try rw [if_neg Bool.false_ne_true]
            refine ⟨s58 _ _ hD, same_k0 (s5.trans s58), ka, ea, hsub, fun j kq hj hkq hmin => ?_⟩
            rcases Nat.lt_succ_iff_lt_or_eq.mp hj with z1 | z1
            · exact hne' j kq z1 hkq hmin
            · subst z1
              rw [hkp] at hkq
              cases hkq
              exfalso
              have : kb ≠ [] := by simpa using hbe
              obtain ⟨b0, kb', rfl⟩ := List.exists_cons_of_ne_nil this
              obtain ⟨g1, g2⟩ := hbn b0.2 (by simp [SpL.zs])
              obtain ⟨g3, g4⟩ := hlok _ g1
              have := pm.mem_iff.mpr (mem_spotsF.mpr g3)
              rcases List.mem_append.mp this with z2 | z2
              · exact g2 z2
              · have := hmin _ z2
                omega
      · have s5 := keep0 k5
        walk_at "go"
        have hD5 : H5 D = some (.lst ka.vs) := by rw [← ea]; exact hD
        have l5 := s5 _ _ l4
        have f5 := s5 _ _ f4
        have t5 := (s04.trans s5) _ _ ht
        have hmin : ka ≠ [] := by
          have hz' : kl.zs ≠ [] := by simpa [SpL.zs] using hne
          obtain ⟨y0, hy0, hmin⟩ : ∃ y0 ∈ kl.zs, ∀ y ∈ kl.zs, y0.1 ≤ y.1 := by
            have key : ∀ (l : List Sp2), l ≠ [] → ∃ y0 ∈ l, ∀ y ∈ l, y0.1 ≤ y.1 := by
              intro l
              induction l with
              | nil => intro h; exact absurd rfl h
              | cons x l ih =>
                intro _
                by_cases hl0 : l = []
                · subst hl0
                  exact ⟨x, by simp, by simp⟩
                · obtain ⟨y0, h1, h2⟩ := ih hl0
                  by_cases hc : x.1 ≤ y0.1
                  · refine ⟨x, by simp, fun y hy => ?_⟩
                    rcases List.mem_cons.mp hy with e | e
                    · rw [e]; exact Int.le_refl _
                    · have := h2 y e; omega
                  · refine ⟨y0, List.mem_cons_of_mem _ h1, fun y hy => ?_⟩
                    rcases List.mem_cons.mp hy with e | e
                    · rw [e]; omega
                    · exact h2 y e
            exact key _ hz'
          obtain ⟨kp, hkp, rfl⟩ := List.mem_map.mp hy0
          obtain ⟨j, hj⟩ := List.mem_iff_getElem?.mp hkp
          have hjl := (List.getElem?_eq_some_iff.mp hj).1
          exact hne' j kp (by simp only [SpL.vs, List.length_map]; exact hjl) hj hmin
        have kal : 0 < ka.length := List.length_pos_iff.mpr hmin
        have kall : ka.length < 1000 := by
          have : acc.length = ka.length := by rw [ea]; simp [SpL.vs]
          have e2 : kl.vs.length = kl.length := by simp [SpL.vs]
          omega
        have kavl : ka.vs.length = ka.length := by simp [SpL.vs]
        have al : acc.length = ka.length := by rw [ea]; simp [SpL.vs]
        walk_at "go"
        refine ⟨t, _, rfl, t5, by omega, by omega, fun H6 i i0 i1 s6 => ?_⟩
        have hD6 := s6 _ _ hD5
        obtain ⟨kp, hkp⟩ : ∃ kp, ka[i.toNat]? = some kp := ⟨_, List.getElem?_eq_getElem (by omega)⟩
        have kpm := hsub kp (List.mem_of_getElem? hkp)
        have zm : kp.2 ∈ kl.zs := List.mem_map.mpr ⟨kp, kpm, rfl⟩
        have at1 : atI ka.vs i = some (V.ref kp.1) := by
          have ei : i = ((i.toNat : Nat) : Int) := by omega
          rw [ei]
          exact atI_nat (by simp only [SpL.vs]; rw [List.getElem?_map, hkp]; rfl)
        have hl6 := ((hl3.same s4).same s5).same s6
        have hf6 := ((hf3.same s4).same s5).same s6
        have f6 := hf6.1
        have hkp6 := hl6.2 kp kpm
        walk_at "go"
        refine v_app f6 (small1000 (by simp only [SpL.vs, List.length_map]; omega)) fun H7 k7 h7 => ?_
        have nl7 : Nol H6 H7 := k7.nolL f6
        have hl7 : LSp H7 l kl := LSp.keep (D := 0) hl6 nl7 (k7 _ _ hl6.1 (nin1 lf))
        have l7 := hl7.1
        have hf7 : LSp H7 f (kf ++ [kp]) := ⟨by rw [h7, spL_app]; rfl, fun p' hp' => by
          rcases List.mem_append.mp hp' with z1 | z1
          · exact (hf6.2 p' z1).nol nl7
          · rw [List.mem_singleton.mp z1]
            exact hkp6.nol nl7⟩
        walk_at "go"
        refine v_rem hl7 (hkp6.nol nl7) zm fun ks' H8 ez hs k8 h8 => ?_
        have nl8 : Nol H7 H8 := k8.nolL hl7.1
        have s8 : Same H H8 := same_of_new (same_of_new (s04.trans (s5.trans s6)) nlf k7) (by
          cases e : H l with
          | none => rfl
          | some o => exact absurd e (by rw [nl]; simp)) k8
        walk_at "go"
        have kl' : ks'.length = ks'.zs.length := by simp [SpL.zs]
        refine ⟨ks'.length, by rw [kl', ez, List.length_erase_of_mem zm]; rw [← klen]; have := List.length_pos_iff.mpr hne; omega, s8, ks', kf ++ [kp], _, rfl, ⟨h8, fun p' hp' => (hl7.2 p' (hs p' hp')).nol nl8⟩, LSp.keep (D := 0) hf7 nl8 (k8 _ _ hf7.1 (nin1 lf.symm)), ?_, _, _, rfl⟩
        rw [ez, spL_zapp]
        refine List.Perm.trans ?_ pm
        have e3 : SpL.zs [kp] = [kp.2] := rfl
        rw [e3, List.append_assoc]
        exact List.Perm.append_left _ (List.perm_cons_erase zm).symm
end
end
section
set_option maxHeartbeats 4000000
theorem cut_take {xs : List V} {k : Int} (h : 0 ≤ k) : cutV xs none (some k) = xs.take k.toNat := by
  have e : k = ((k.toNat : Nat) : Int) := by omega
  unfold cutV
  rw [e, HT.sIx_none, HT.sIx_nat, List.drop_zero, Nat.sub_zero, Int.toNat_natCast, ← List.take_eq_take_min]
theorem cut_drop {xs : List V} {k : Int} (h : 0 ≤ k) : cutV xs (some k) none = xs.drop k.toNat := by
  have e : k = ((k.toNat : Nat) : Int) := by omega
  unfold cutV
  rw [e, HT.sIx_none, HT.sIx_nat, Int.toNat_natCast]
  by_cases hk : k.toNat ≤ xs.length
  · rw [Nat.min_eq_left hk]
    exact List.take_of_length_le (by rw [List.length_drop]; exact Nat.le_refl _)
  · rw [Nat.min_eq_right (by omega), Nat.sub_self, List.take_zero, List.drop_eq_nil_of_le (by omega)]
section
variable {P : Program} {w : World} {K : PySem.W.Frag} {mg : Str → Option Value} {base : Heap}
/-! ### _law_pieces -/
def spPieces : Sp := fun vs H Q _ => ∃ (l t : Addr) (ks : SpL), vs = [.ref l, .ref t] ∧ LSp H l ks ∧ ks.length ≤ 1000 ∧ H t = some (TapeO t) ∧ ∀ H' lp (pcs : List (List Sp2)), Same H H' → H lp = none → LO LSz H' lp pcs → pcs.flatten = ks.zs → (∀ pc ∈ pcs, pc ≠ [] ∧ pc.length ≤ 4) → Q (.ref lp) H'
theorem sc81 : FnScope ["_law_row_here", "_law_tape_here", "_law_pieces_here", "_law_left", "_law_size"] ["_law_row_here", "_law_tape_here"] (C8.fnScope st81) := C8.fnScope_by (by decide +kernel)
theorem ok_law_pieces (T : Txt K mg) : C8.Cal P w K mg base 2 "_law_pieces" spPieces [] := by
  refine cal_by (k := 1) (T.df 81 _ rfl) (g_law_pieces T) sc81 (fun _ _ _ _ us hl => match us, hl with | [_, _], _ => rfl) (fun vs H Q E h => ?_) (fun A outer s H vs Q E hr o h => ?_)
  · obtain ⟨p, t, ks, rfl, _⟩ := h
    rfl
  · obtain ⟨l, t, ks, rfl, hl, hfew, ht, q⟩ := h
    have hl0 := hl.1
    refine ⟨_, (pss_cons (ps_set (i := 2) (sc81).nd rfl (by first | exact Or.inl rfl | exact Or.inr rfl) (pe_lst (pa_mn pa_nil)))
      (pss_cons (ps_set (i := 3) (sc81).nd rfl (by first | exact Or.inl rfl | exact Or.inr rfl) (pe_callTy (cr_self o) (by rfl) (z_list T) b_list (pa_cons (pv 0) pa_nil)))
      (pss_cons (ps_while PassesOwn.never (pt_cmpR (op_self o) (pv 3) (pe_lst (pa_mn pa_nil)) (nomark _)) (pss_cons (ps_set (i := 4) (sc81).nd rfl (by first | exact Or.inl rfl | exact Or.inr rfl) (pe_op (op_self o) pe_int (C8.pe_c (ok_law_draw (P := P) (w := w) T) hr (by decide) (by rfl) (pa_cons (pv 1) (pa_cons pe_int pa_nil)))))
      (pss_cons (ps_expr (pe_bmZ o PySem.F.plainAttrs_list PySem.F.slot_list_append PySem.F.type_list_append (mt_self o) (pe_mn (pv 2)) (pa_cons (pe_sliceZ o (pv 3) po_none (po_some (pv 4))) pa_nil)))
      (pss_one (ps_set (i := 3) (sc81).nd rfl (by first | exact Or.inl rfl | exact Or.inr rfl) (pe_sliceZ o (pv 3) (po_some (pv 4)) po_none))))))
      (pss_one (ps_ret (pv 2)))))), ?_⟩
    walk_at "go"
    refine ⟨len0, fun D H1 nD s1 hD => ?_⟩
    have hl1 := s1 _ _ hl0
    walk_at "go"
    refine v_listL hl1 fun l2 H2 n2 s2 h2 => ?_
    have hD2 := s2 _ _ hD
    have l2D : l2 ≠ D := fun z => by rw [z, hD] at n2; cases n2
    walk_at "go"
    refine whileZ (fun m σ H' => Same H H' ∧ ∃ (lf : Addr) (kl : SpL) (as : List Addr) (pcs : List (List Sp2)) (b : Option V), kl.length = m ∧ LSp H' lf kl ∧ lf ≠ D ∧ H' D = some (.lst (as.map V.ref)) ∧ as.length = pcs.length ∧ (∀ (i : Nat) (a : Addr) (z : List Sp2), as[i]? = some a → pcs[i]? = some z → a ≠ D ∧ LSz H' a z) ∧ pcs.flatten ++ kl.zs = ks.zs ∧ (∀ pc ∈ pcs, pc ≠ [] ∧ pc.length ≤ 4) ∧ as.length + kl.length ≤ ks.length ∧ σ = [some (.ref l), some (.ref t), some (.ref D), some (.ref lf), b]) ks.length ⟨s1.trans s2, l2, ks, [], [], none, rfl, ⟨h2, fun p hp => ((hl.2 p hp).same s1).same s2⟩, l2D, hD2, rfl, by simp, by simp, by simp, by simp, rfl⟩ (fun m σ H3 ⟨s3, lf, kl, as, pcs, b, em, hlf, lfD, hD3, al, hpc, fl, pk, cnt, es⟩ => ?_)
    subst es
    have lf3 := hlf.1
    walk_at "go"
    refine ⟨len0, fun e0 H4 n4 s4 h4 => ?_⟩
    refine v_neE (hlf.same s4) h4 ?_
    have s04 := s3.trans s4
    have hD4 := s4 _ _ hD3
    have hlf4 := hlf.same s4
    cases hemp : kl.isEmpty with
    | true =>
      walk_at "go"
      have e1 : kl = [] := by simpa using hemp
      subst e1
      refine q H4 D pcs s04 nD ⟨as, hD4, al, fun i a z x y => (hpc i a z x y).2.same s4⟩ (by simpa [SpL.zs] using fl) pk
    | false =>
      have hne : kl ≠ [] := by simpa using hemp
      have t4 := s04 _ _ ht
      walk_at "go"
      refine ⟨fun σ' H' => ∃ m', m' < m ∧ (Same H H' ∧ ∃ (lf : Addr) (kl : SpL) (as : List Addr) (pcs : List (List Sp2)) (b : Option V), kl.length = m' ∧ LSp H' lf kl ∧ lf ≠ D ∧ H' D = some (.lst (as.map V.ref)) ∧ as.length = pcs.length ∧ (∀ (i : Nat) (a : Addr) (z : List Sp2), as[i]? = some a → pcs[i]? = some z → a ≠ D ∧ LSz H' a z) ∧ pcs.flatten ++ kl.zs = ks.zs ∧ (∀ pc ∈ pcs, pc ≠ [] ∧ pc.length ≤ 4) ∧ as.length + kl.length ≤ ks.length ∧ σ' = [some (.ref l), some (.ref t), some (.ref D), some (.ref lf), b]), fun σ' H' h => h, ?_⟩
      walk_at "go"
      refine ⟨t, _, rfl, t4, by omega, by omega, fun H5 i i0 i1 s5 => ?_⟩
      have hD5 := s5 _ _ hD4
      have hlf5 := hlf4.same s5
      have lf5 := hlf5.1
      walk_at "go"
      refine v_slL lf5 fun c H6 n6 s6 h6 => ?_
      have hD6 := s6 _ _ hD5
      have hlf6 := hlf5.same s6
      have lf6 := hlf6.1
      have cD : c ≠ D := fun z => by rw [z, hD5] at n6; cases n6
      have asl : as.length < 1001 := by omega
      walk_at "go"
      refine v_app hD6 (by rw [List.length_map]; exact small1000 (by have := List.length_pos_iff.mpr hne; omega)) fun H7 k7 h7 => ?_
      have nl7 : Nol H6 H7 := k7.nolL hD6
      have lf7 := k7 _ _ lf6 (nin1 lfD)
      have c7 := k7 _ _ h6 (nin1 cD)
      walk_at "go"
      refine v_slL lf7 fun lg H8 n8 s8 h8 => ?_
      have lgD : lg ≠ D := fun z => by rw [z, h7] at n8; cases n8
      walk_at "go"
      have e1 : cutV kl.vs none (some (1 + i)) = SpL.vs (kl.take (1 + i).toNat) := by
        rw [cut_take (by omega)]
        simp [SpL.vs]
      have e2 : cutV kl.vs (some (1 + i)) none = SpL.vs (kl.drop (1 + i).toNat) := by
        rw [cut_drop (by omega)]
        simp [SpL.vs]
      rw [e1] at c7
      rw [e2] at h8
      have s68 : Same H H8 := (same_of_new (s04.trans (s5.trans s6)) nD k7).trans s8
      have klp := List.length_pos_iff.mpr hne
      have nl8 : Nol H6 H8 := nl7.trans (same_nol s8)
      refine ⟨(kl.drop (1 + i).toNat).length, by rw [List.length_drop]; omega, s68, lg, kl.drop (1 + i).toNat, as ++ [c], pcs ++ [SpL.zs (kl.take (1 + i).toNat)], _, rfl, ⟨h8, fun p hp => (hlf6.2 p (List.mem_of_mem_drop hp)).nol nl8⟩, lgD, by rw [List.map_append]; exact s8 _ _ h7, by simp [al], fun i' a z x1 x2 => ?_, ?_, fun pc hpc' => ?_, by rw [List.length_append, List.length_drop]; simp; omega, rfl⟩
      · rcases app_at x1 with q1 | ⟨q1, q2⟩
        · have hi := (List.getElem?_eq_some_iff.mp q1).1
          rw [List.getElem?_append_left (by omega)] at x2
          obtain ⟨g1, ks', g3, g4⟩ := hpc i' a z q1 x2
          have g5 := ((g3.same s4).same s5).same s6
          exact ⟨g1, ks', ⟨s8 _ _ (k7 _ _ g5.1 (nin1 g1)), fun q hq => (g5.2 q hq).nol nl8⟩, g4⟩
        · rw [q1, al, List.getElem?_append_right (Nat.le_refl _)] at x2
          simp at x2
          rw [q2, ← x2]
          exact ⟨cD, _, ⟨s8 _ _ c7, fun q hq => (hlf6.2 q (List.mem_of_mem_take hq)).nol nl8⟩, by simp [SpL.zs]⟩
      · rw [← fl, List.flatten_append, List.append_assoc]
        congr 1
        simp [SpL.zs]
      · rcases List.mem_append.mp hpc' with z1 | z1
        · exact pk pc z1
        · rw [List.mem_singleton.mp z1]
          refine ⟨?_, by simp [SpL.zs]; omega⟩
          have : 0 < (SpL.zs (kl.take (1 + i).toNat)).length := by simp [SpL.zs, List.length_take]; omega
          exact List.length_pos_iff.mp this
end
end
section
set_option maxHeartbeats 4000000
section
variable {P : Program} {w : World} {K : PySem.W.Frag} {mg : Str → Option Value} {base : Heap}
/-! ### _law_job -/
def spLJob : Sp := fun vs H Q _ => ∃ (p t : Addr) (sz : List Int) (tk : List Sp2) (R : Nat), vs = [.ref p, .ref t] ∧ WorldA H p sz tk R ∧ H t = some (TapeO t) ∧ ∀ H' j, Same H H' → JobA H' j sz R → Q (.ref j) H'
theorem sc79 : FnScope ["_law_world_here", "_law_tape_here", "_law_term", "_law_back", "_law_steps", "_law_deep", "_law_first", "_law_turn", "_law_place"] ["_law_world_here", "_law_tape_here"] (C8.fnScope st79) := C8.fnScope_by (by decide +kernel)
theorem ok_law_job (T : Txt K mg) : C8.Cal P w K mg base 12 "_law_job" spLJob [] := by
  refine cal_by (k := 11) (T.df 79 _ rfl) (g_law_job T) sc79 (fun _ _ _ _ us hl => match us, hl with | [_, _], _ => rfl) (fun vs H Q E h => ?_) (fun A outer s H vs Q E hr o h => ?_)
  · obtain ⟨p, t, sz, tk, R, rfl, _⟩ := h
    rfl
  · obtain ⟨p, t, sz, tk, R, rfl, W, ht, q⟩ := h
    obtain ⟨ok, hR, tok, few, nd, ws, wr, wt, rk, kt, hp, hws, hwr, hkt, hkz⟩ := id W
    have hkt1 := hkt.1
    refine ⟨_, (pss_cons (ps_set (i := 2) (sc79).nd rfl (by first | exact Or.inl rfl | exact Or.inr rfl) (C8.pe_mk (ok_mk_Number (P := P) (w := w) T) hr (by decide) (by rfl) (pa_mn (pa_cons pe_int pa_nil))))
      (pss_cons (ps_for PassesOwn.never rfl (pi_listZ o (pe_ix (ix_self o) (pv 0) pe_int (fun _ _ => rfl))) (pg_tupZ (n := 2) o (pgs_cons (pg_name (i := 3) (sc79).nd (by rfl) (by first | exact Or.inl rfl | exact Or.inr rfl)) (pgs_cons (pg_name (i := 4) (sc79).nd (by rfl) (by first | exact Or.inl rfl | exact Or.inr rfl)) pgs_nil))) (pss_one (ps_set (i := 2) (sc79).nd rfl (by first | exact Or.inl rfl | exact Or.inr rfl) (C8.pe_mk (ok_mk_Added (P := P) (w := w) T) hr (by decide) (by rfl) (pa_mn (pa_cons (pv 2) (pa_cons (C8.pe_mk (ok_mk_Multiplied (P := P) (w := w) T) hr (by decide) (by rfl) (pa_mn (pa_cons (C8.pe_mk (ok_mk_Number (P := P) (w := w) T) hr (by decide) (by rfl) (pa_mn (pa_cons (pe_op (op_self o) pe_int (C8.pe_c (ok_law_draw (P := P) (w := w) T) hr (by decide) (by rfl) (pa_cons (pv 1) (pa_cons pe_int pa_nil)))) pa_nil))) (pa_cons (C8.pe_mk (ok_mk_Take (P := P) (w := w) T) hr (by decide) (by rfl) (pa_mn (pa_cons (pv 3) (pa_cons (pv 4) pa_nil)))) pa_nil)))) pa_nil)))))))
      (pss_cons (ps_set (i := 5) (sc79).nd rfl (by first | exact Or.inl rfl | exact Or.inr rfl) (pe_callBK (cr_maxDZ o) (by rfl) (z_max T) b_max (pa_cons (pe_lc (own := [("_law_back", 3), ("_law_steps", 4)]) rfl (sc79).nd (pi_listZ o (pe_ix (ix_self o) (pv 0) pe_int (fun _ _ => rfl))) (blkOk_by (own := [("_law_back", 3), ("_law_steps", 4)]) (by kernel_rfl)) (fun _ _ _ _ _ => pg_mn (pg_tupZ (n := 2) o.blk (pgs_cons (pg_name (i := 3) (sc79).nd (by rfl) (by first | exact Or.inl rfl | exact Or.inr rfl)) (pgs_cons (pg_name (i := 4) (sc79).nd (by rfl) (by first | exact Or.inl rfl | exact Or.inr rfl)) pgs_nil)))) (fun _ _ _ _ _ => pts_mn pts_nil) (fun _ _ _ _ _ => pe_mn (pv 3))) pa_nil) (pk_cons pe_int pk_nil)))
      (pss_cons (ps_setLc (i := 6) (own := [("_law_turn", 7)]) rfl (sc79).nd rfl rfl (sw_true rfl rfl rfl (by decide +kernel)) (pi_range1 (by rfl) (z_range T) (pa_cons (pv 5) pa_nil)) (blkOk_by (own := [("_law_turn", 7)]) (by kernel_rfl)) (fun _ _ _ _ _ => pg_mn (pg_name (i := 7) (sc79).nd (by rfl) (by first | exact Or.inl rfl | exact Or.inr rfl))) (fun _ _ _ _ _ => pts_mn pts_nil) (fun _ _ _ _ _ => pe_mn (pe_lc (own := [("_law_place", 8)]) rfl (sc79).nd (pi_listZ o.blk (C8.pe_c (ok_law_places (P := P) (w := w) T) hr (by decide) (by rfl) (pa_cons (pe_ix (ix_self o.blk) (pv 0) pe_int (fun _ _ => rfl)) pa_nil))) (blkOk_by (own := [("_law_place", 8)]) (by kernel_rfl)) (fun _ _ _ _ _ => pg_mn (pg_name (i := 8) (sc79).nd (by rfl) (by first | exact Or.inl rfl | exact Or.inr rfl))) (fun _ _ _ _ _ => pts_mn pts_nil) (fun _ _ _ _ _ => pe_mn (C8.pe_c (ok_law_draw (P := P) (w := w) T) hr (by decide) (by rfl) (pa_cons (pv 1) (pa_cons pe_int pa_nil)))))))
      (pss_one (ps_ret (C8.pe_mk (ok_mk_Job (P := P) (w := w) T) hr (by decide) (by rfl) (pa_mn (pa_cons (C8.pe_mk (ok_mk_Grid (P := P) (w := w) T) hr (by decide) (by rfl) (pa_mn (pa_cons (pe_callTy (cr_self o) (by rfl) (z_list T) b_list (pa_cons (pe_ix (ix_self o) (pv 0) pe_int (fun _ _ => rfl)) pa_nil)) (pa_cons (pe_callTy (cr_self o) (by rfl) (z_list T) b_list (pa_cons (pe_ix (ix_self o) (pv 0) pe_int (fun _ _ => rfl)) pa_nil)) pa_nil)))) (pa_cons (pv 2) (pa_cons pe_int (pa_cons (pe_ix (ix_self o) (pv 0) pe_int (fun _ _ => rfl)) (pa_cons (pv 6) pa_nil))))))))))))), ?_⟩
    walk_at "go"
    intro x0 dx0 H1 nx0 nd0 ne0 s1 hx0 hdx0
    refine ⟨x0, dx0, .int 3, rfl, hx0, fun H2 k2 h2 => ⟨rfl, ?_⟩⟩
    have s2 : Same H H2 := same_of_new s1 nx0 k2
    have hp2 := s2 _ _ hp
    walk_at "go"
    refine forL (a := wt) (xs := kt.vs) (fun i σ H' => Same H H' ∧ ∃ (a : Addr) (tm : Tm) (b c : Option V), TmA H' a tm ∧ tm.Ok sz ∧ tm.ht ≤ i + 2 ∧ tm.parts ≤ 1 + 4 * i ∧ tm.tks = (kt.zs).take i ∧ σ = [some (.ref p), some (.ref t), some (.ref a), b, c, none, none, none, none]) ⟨s2, x0, .num 3, none, none, ⟨dx0, h2⟩, ⟨by omega, by omega⟩, by decide, by decide, by simp [Tm.tks], rfl⟩ (fun i σ H' hi ⟨e, _⟩ => e _ _ hkt1) (fun i x σ H3 hx ⟨e, a, tm, b, c, hta, tok', tht, tpa, ttk, es⟩ => ?_) (fun σ H3 ⟨e, a, tm, b, c, hta, tok', tht, tpa, ttk, es⟩ => ?_)
    · subst es
      obtain ⟨kp, hkp, rfl⟩ := map_at hx
      have kpm := List.mem_of_getElem? hkp
      obtain ⟨sp, g1, g2⟩ := (hkt.2 kp kpm).same e
      have tkk := tok kp.2 (by rw [← hkz]; exact List.mem_map.mpr ⟨kp, kpm, rfl⟩)
      have t3 := e _ _ ht
      walk_at "go"
      refine ⟨t, 4, rfl, t3, by omega, by omega, fun H4 n n0 n1 s4 => ?_⟩
      walk_at "go"
      intro x1 dx1 H5 nx1 nd1 ne1 s5 hx1 hdx1
      refine ⟨x1, dx1, .int (1 + n), rfl, hx1, fun H6 k6 h6 => ⟨rfl, ?_⟩⟩
      have s46 : Same H4 H6 := same_of_new s5 nx1 k6
      walk_at "go"
      intro x2 dx2 H7 nx2 nd2 ne2 s7 hx2 hdx2
      refine ⟨x2, dx2, .int kp.2.1, .ref sp, rfl, hx2, fun H8 k8 h8 => ⟨rfl, ?_⟩⟩
      have s68 : Same H6 H8 := same_of_new s7 nx2 k8
      have h6' := s68 _ _ h6
      walk_at "go"
      intro x3 dx3 H9 nx3 nd3 ne3 s9 hx3 hdx3
      refine ⟨x3, dx3, .ref x1, .ref x2, rfl, hx3, fun H10 k10 h10 => ⟨rfl, ?_⟩⟩
      have s810 : Same H8 H10 := same_of_new s9 nx3 k10
      have h6'' := s810 _ _ h6'
      have h8' := s810 _ _ h8
      walk_at "go"
      intro x4 dx4 H11 nx4 nd4 ne4 s11 hx4 hdx4
      refine ⟨x4, dx4, .ref a, .ref x3, rfl, hx4, fun H12 k12 h12 => ⟨rfl, ?_⟩⟩
      have s1012 : Same H10 H12 := same_of_new s11 nx4 k12
      have s312 : Same H3 H12 := s4.trans (s46.trans (s68.trans (s810.trans s1012)))
      walk_at "go"
      have ezi : (kt.zs)[i]? = some kp.2 := by simp [SpL.zs, hkp]
      have m1 : TmA H12 x3 (.mul (.num (1 + n)) (.take kp.2.1 kp.2.2)) := ⟨dx3, x1, x2, s1012 _ _ h10, ⟨dx1, s1012 _ _ h6''⟩, ⟨dx2, sp, s1012 _ _ h8', s312 _ _ g2⟩⟩
      have hpx := tm.ht_pos
      refine ⟨e.trans s312, x4, .add tm (.mul (.num (1 + n)) (.take kp.2.1 kp.2.2)), _, _, ⟨dx4, a, x3, h12, TmA.same s312 hta, m1⟩, ⟨tok', ⟨⟨by omega, by omega⟩, tkk, rfl⟩⟩, ?_, ?_, ?_, rfl⟩
      · show max tm.ht (max 1 1 + 1) + 1 ≤ i + 1 + 2
        omega
      · show 1 + (tm.parts + (1 + (1 + 1))) ≤ 1 + 4 * ((i + 1 : Nat) : Int)
        omega
      · show tm.tks ++ ([] ++ [(kp.2.1, kp.2.2)]) = _
        rw [ttk, List.take_add_one, ezi]
        rfl
    · subst es
      walk_at "go"
      have hkt3 := hkt.same e
      have kvl : kt.vs.length = kt.zs.length := by simp [SpL.vs, SpL.zs]
      have ktl : kt.zs.length ≤ 3 := by rw [hkz]; exact few
      rw [kvl, List.take_of_length_le (Nat.le_refl _)] at ttk
      refine lcL (a := wt) (xs := kt.vs) [] (fun D i acc H' => acc = (((kt.zs).take i).map (·.1)).map V.int) (by omega) hkt3.1 (by simp) (fun D H' nD sD hD => rfl) (fun D i x acc H4 nD hx hlj k4 hD ea => ?_) (fun D acc H4 nD hl4 k4 hD ea => ?_)
      · have s4 := keep0 k4
        obtain ⟨kp, hkp, rfl⟩ := map_at hx
        obtain ⟨sp, g1, g2⟩ := (hkt3.2 kp (List.mem_of_getElem? hkp)).same s4
        have ezi : (kt.zs)[i]? = some kp.2 := by simp [SpL.zs, hkp]
        walk_at "go"
        refine ⟨hD, k4, fun H6 k6 h6 => ?_⟩
        rw [ea, List.take_add_one, ezi]
        simp
      · have s4 := keep0 k4
        rw [kvl, List.take_of_length_le (Nat.le_refl _)] at ea
        rw [ea] at hD
        walk_at "go"
        refine v_maxD hD ?_
        have d1 : 1 ≤ deepF kt.zs := by
          by_cases hk0 : kt.zs = []
          · rw [hk0]
            exact Int.le_refl 1
          · obtain ⟨y, hy, ey⟩ := List.mem_map.mp (mxd_mem (d := 1) (l := kt.zs.map (·.1)) (by simpa using hk0))
            show 1 ≤ mxd 1 (kt.zs.map (·.1))
            rw [← ey]
            exact (tok y (by rw [← hkz]; exact hy)).1
        have d13 : 1 ≤ deepF kt.zs ∧ deepF kt.zs ≤ 3 := ⟨d1, mxd_le (by omega) fun x hx => by
          obtain ⟨y, hy, rfl⟩ := List.mem_map.mp hx
          exact (tok y (by rw [← hkz]; exact hy)).2.1⟩
        have s04 := e.trans s4
        have W4 := W.same s04
        walk_at "go"
        refine lcR (n := (deepF kt.zs).toNat) (by show deepF kt.zs = _; omega) [] (fun D' i acc H' => ∃ rs : List Addr, acc = rs.map V.ref ∧ rs.length = i ∧ ∀ r ∈ rs, r ≠ D' ∧ ∃ ns : List Int, H' r = some (.lst (ns.map V.int)) ∧ ns.length = (placesF sz).length ∧ ∀ v ∈ ns, 0 ≤ v ∧ v ≤ 96) (by omega) (fun D' H' nD' sD' hD' => ⟨[], rfl, rfl, by simp⟩) (fun D' i acc' H5 nD' hi hlj k5 hD' ⟨rs, ea', el, hrs⟩ => ?_) (fun D' acc' H5 nD' hl5 k5 hD' ⟨rs, ea', el, hrs⟩ => ?_)
        · have s5 := keep0 k5
          have s05 := s04.trans s5
          have hp5 := s05 _ _ hp
          walk_at "go"
          refine ⟨ws, sz, rfl, ok, s05 _ _ hws, fun H6 l ks s6 nl hl hzk => ?_⟩
          have hl6 := hl.1
          have kl : (PlL.vs ks).length = (placesF sz).length := by rw [← hzk]; simp [PlL.vs, PlL.zs]
          walk_at "go"
          refine lcL (a := l) (xs := PlL.vs ks) [] (fun D2 j acc2 H' => ∃ ns : List Int, acc2 = ns.map V.int ∧ ns.length = j ∧ ∀ v ∈ ns, 0 ≤ v ∧ v ≤ 96) (by rw [kl]; have := (places_len ok).1; omega) hl6 (by simp) (fun D2 H' nD2 sD2 hD2 => ⟨[], rfl, rfl, by simp⟩) (fun D2 j x acc2 H7 nD2 hx2 hlj2 k7 hD2 ⟨ns, eb, en, hns⟩ => ?_) (fun D2 acc2 H7 nD2 hl7 k7 hD2 ⟨ns, eb, en, hns⟩ => ?_)
          · have s7 := keep0 k7
            have t7 := (s05.trans (s6.trans s7)) _ _ ht
            walk_at "go"
            refine ⟨t, 97, rfl, t7, by omega, by omega, fun H8 v v0 v1 s8 => ?_⟩
            refine ⟨s8 _ _ hD2, same_k0 (s7.trans s8), fun H9 k9 h9 => ⟨ns ++ [v], by rw [eb]; simp, by simp [en], fun u hu => ?_⟩⟩
            rcases List.mem_append.mp hu with z1 | z1
            · exact hns u z1
            · rw [List.mem_singleton.mp z1]
              omega
          · have s7 := keep0 k7
            have s57 := s6.trans s7
            have D2D : D2 ≠ D' := fun z => by rw [z, s6 _ _ hD'] at nD2; cases nD2
            refine ⟨s57 _ _ hD', same_k0 (s5.trans s57), fun H9 k9 h9 => ⟨rs ++ [D2], by rw [ea']; simp, by simp [el], fun r hr => ?_⟩⟩
            rcases List.mem_append.mp hr with z1 | z1
            · obtain ⟨g1, ns', g2, g3⟩ := hrs r z1
              exact ⟨g1, ns', k9 _ _ (s57 _ _ g2) (nin1 g1), g3⟩
            · rw [List.mem_singleton.mp z1]
              refine ⟨D2D, ns, ?_, by rw [en, kl], hns⟩
              rw [← eb]
              exact k9 _ _ hD2 (nin1 D2D)
        · have s5 := keep0 k5
          have s05 := s04.trans s5
          have hp5 := s05 _ _ hp
          have hws5 := s05 _ _ hws
          walk_at "go"
          obtain ⟨hrl, ps, hr1, hr2, hr3⟩ := hwr.same s05
          refine v_listL hws5 fun l1 H6 n6 s6 h6 => ?_
          have hp6 := s6 _ _ hp5
          have hr6 := s6 _ _ hr1
          walk_at "go"
          refine v_listL hr6 fun l2 H7 n7 s7 h7 => ?_
          walk_at "go"
          intro gx gdx H8 ngx ngd nge s8 hgx hgdx
          refine ⟨gx, gdx, l1, l2, sz, rk, rfl, hgx, ok, s8 _ _ (s7 _ _ h6), ⟨hrl, ps, s8 _ _ h7, hr2, fun i' p' k' x' y' => (hr3 i' p' k' x' y').same (s6.trans (s7.trans s8))⟩, fun H9 k9 G => ⟨rfl, ?_⟩⟩
          have s59 : Same H5 H9 := s6.trans (s7.trans (same_of_new s8 ngx k9))
          have hp9 := s59 _ _ hp5
          have hD9 := s59 _ _ hD'
          walk_at "go"
          intro jx jdx' H10 njx njd nje s10 hjx hjdx
          have s09 := s05.trans s59
          refine ⟨H9, jx, jdx', gx, a, D', sz, R, tm, rfl, hjx, s10, njx, hR, G, TmA.same (s4.trans (s5.trans s59)) hta, tok', by omega, by rw [ttk]; omega, by omega, ⟨rs, by rw [← ea']; exact hD9, by rw [el, ttk]; omega, by omega, fun r hr => ?_⟩, fun H11 k11 J => ⟨rfl, ?_⟩⟩
          · obtain ⟨g1, ns, g2, g3⟩ := hrs r hr
            exact ⟨ns, s59 _ _ g2, g3⟩
          · walk_at "go"
            exact q H11 jx (same_of_new (s09.trans s10) (by
              cases e9 : H jx with
              | none => rfl
              | some o => exact absurd (s09 _ _ e9) (by rw [njx]; simp)) k11) J
end
end
section
set_option maxHeartbeats 4000000
section
variable {P : Program} {w : World} {K : PySem.W.Frag} {mg : Str → Option Value} {base : Heap}
/-! ### _law_turned -/
def spTurned : Sp := fun vs H Q _ => ∃ (l t : Addr) (xs : List V), vs = [.ref l, .ref t] ∧ H l = some (.lst xs) ∧ xs.length ≤ 1000 ∧ H t = some (TapeO t) ∧ ∀ H' f (ys : List V), Same H H' → H f = none → H' f = some (.lst ys) → ys.Perm xs → Q (.ref f) H'
theorem sc85 : FnScope ["_law_some", "_law_tape_here", "_law_found", "_law_one"] ["_law_some", "_law_tape_here"] (C8.fnScope st85) := C8.fnScope_by (by decide +kernel)
theorem ok_law_turned (T : Txt K mg) : C8.Cal P w K mg base 2 "_law_turned" spTurned [] := by
  refine cal_by (k := 1) (T.df 85 _ rfl) (g_law_turned T) sc85 (fun _ _ _ _ us hl => match us, hl with | [_, _], _ => rfl) (fun vs H Q E h => ?_) (fun A outer s H vs Q E hr o h => ?_)
  · obtain ⟨l, t, xs, rfl, _⟩ := h
    rfl
  · obtain ⟨l, t, xs, rfl, hl, hfew, ht, q⟩ := h
    refine ⟨_, (pss_cons (ps_set (i := 2) (sc85).nd rfl (by first | exact Or.inl rfl | exact Or.inr rfl) (pe_lst (pa_mn pa_nil)))
      (pss_cons (ps_for PassesOwn.never rfl (pi_listZ o (pv 0)) (pg_name (i := 3) (sc85).nd (by rfl) (by first | exact Or.inl rfl | exact Or.inr rfl)) (pss_one (ps_expr (pe_bmZ o PySem.F.plainAttrs_list PySem.F.slot_list_insert PySem.F.type_list_insert (mt_self o) (pe_mn (pv 2)) (pa_cons (C8.pe_c (ok_law_draw (P := P) (w := w) T) hr (by decide) (by rfl) (pa_cons (pv 1) (pa_cons (pe_op (op_self o) (pe_callB (cr_self o) (by rfl) (z_len T) b_len (pa_cons (pv 2) pa_nil)) pe_int) pa_nil))) (pa_cons (pv 3) pa_nil))))))
      (pss_one (ps_ret (pv 2))))), ?_⟩
    walk_at "go"
    refine ⟨len0, fun f H1 nf s1 hf => ?_⟩
    walk_at "go"
    refine forL (a := l) (xs := xs) (fun i σ H' => Same H H' ∧ ∃ (ys : List V) (b : Option V), H' f = some (.lst ys) ∧ ys.Perm (xs.take i) ∧ σ = [some (.ref l), some (.ref t), some (.ref f), b]) ⟨s1, [], none, hf, by simp, rfl⟩ (fun i σ H' hi ⟨e, _⟩ => e _ _ hl) (fun i x σ H2 hx ⟨e, ys, b, hy, pm, es⟩ => ?_) (fun σ H2 ⟨e, ys, b, hy, pm, es⟩ => ?_)
    · subst es
      have t2 := e _ _ ht
      have hi := (List.getElem?_eq_some_iff.mp hx).1
      have yl : ys.length ≤ 1000 := by
        have := pm.length_eq
        rw [List.length_take] at this
        omega
      walk_at "go"
      refine ⟨t, _, rfl, t2, by omega, by omega, fun H3 j j0 j1 s3 => ?_⟩
      have hy3 := s3 _ _ hy
      walk_at "go"
      refine v_ins hy3 (small1000 yl) j0 (by omega) fun H4 k4 h4 => ?_
      walk_at "go"
      refine ⟨same_of_new (e.trans s3) nf k4, _, _, h4, ?_, rfl⟩
      rw [List.take_add_one, hx]
      have p1 : (ys.take j.toNat ++ [x] ++ ys.drop j.toNat).Perm (ys ++ [x]) := by
        rw [List.append_assoc]
        refine (List.perm_append_comm_assoc _ _ _).trans ?_
        rw [List.take_append_drop]
        exact List.perm_append_comm
      exact p1.trans (pm.append_right _)
    · subst es
      walk_at "go"
      rw [List.take_of_length_le (Nat.le_refl _)] at pm
      exact q H2 f ys e nf hy pm
end
end
section
set_option maxHeartbeats 4000000
/-! ### next_begin -/
/-- the begin of a piece: the clock, and the ends of all that it waits for -/
def nextB (en : Int → Option Int) : List Int → Int → Option Int
  | [], c => some c
  | q :: qs, c => match en q with
    | none => none
    | some e => nextB en qs (max c e)
def BhA (H : Hp) (d : Addr) (bh : Int → List Int) : Prop := ∃ kvs : List (Key × V), H d = some (.dK kvs) ∧ (∀ p, valV kvs (Sum.inl p : Key) = none → bh p = []) ∧ ∀ p v, valV kvs (Sum.inl p : Key) = some v → ∃ l, v = .ref l ∧ H l = some (.lst ((bh p).map V.int))
def EnA (H : Hp) (d : Addr) (en : Int → Option Int) : Prop := ∃ kvs : List (Key × V), H d = some (.dK kvs) ∧ ∀ p, valV kvs (Sum.inl p : Key) = (en p).map V.int
theorem BhA.same {H H' : Hp} {d : Addr} {bh : Int → List Int} (h : BhA H d bh) (s : Same H H') : BhA H' d bh := by
  obtain ⟨kvs, h1, h2, h3⟩ := h
  exact ⟨kvs, s _ _ h1, h2, fun p v e => by obtain ⟨l, a, b⟩ := h3 p v e; exact ⟨l, a, s _ _ b⟩⟩
theorem EnA.same {H H' : Hp} {d : Addr} {en : Int → Option Int} (h : EnA H d en) (s : Same H H') : EnA H' d en := by
  obtain ⟨kvs, h1, h2⟩ := h
  exact ⟨kvs, s _ _ h1, h2⟩
section
variable {P : Program} {w : World} {K : PySem.W.Frag} {mg : Str → Option Value} {base : Heap}
def spNextB : Sp := fun vs H Q _ => ∃ (b e : Addr) (p c : Int) (bh : Int → List Int) (en : Int → Option Int), vs = [.int p, .ref b, .ref e, .int c] ∧ BhA H b bh ∧ EnA H e en ∧ (bh p).length ≤ 1000 ∧ ∀ H', Same H H' → Q (optV (nextB en (bh p) c)) H'
theorem sc0 : FnScope ["piece", "behind", "ends", "clock", "begin", "other"] ["piece", "behind", "ends", "clock"] (C8.fnScope st0) := C8.fnScope_by (by decide +kernel)
theorem ok_next_begin (T : Txt K mg) : C8.Cal P w K mg base 1 "next_begin" spNextB [] := by
  refine cal_by (k := 0) (T.df 0 _ rfl) (g_next_begin T) sc0 (fun _ _ _ _ us hl => match us, hl with | [_, _, _, _], _ => rfl) (fun vs H Q E h => ?_) (fun A outer s H vs Q E hr o h => ?_)
  · obtain ⟨b, e, p, c, bh, en, rfl, _⟩ := h
    rfl
  · obtain ⟨b, e, p, c, bh, en, rfl, ⟨kb, hb, b0, b1⟩, ⟨ke, he, e1⟩, few, q⟩ := h
    refine ⟨_, (pss_cons (ps_set (i := 4) (sc0).nd rfl (by first | exact Or.inl rfl | exact Or.inr rfl) (pv 3))
      (pss_cons (ps_for PassesOwn.never rfl (pi_listZ o (pe_dget2 o.hu1 (pe_mn (pv 1)) (pe_mn (pv 0)) (pe_mn (pe_lst (pa_mn pa_nil))) ⟨rfl, rfl, rfl, rfl⟩)) (pg_name (i := 5) (sc0).nd (by rfl) (by first | exact Or.inl rfl | exact Or.inr rfl)) (pss_cons (ps_if (pt_cmp (pc_dnotin o.hu1 (pv 5) (pv 2))) (pss_one (ps_ret pe_non)) pss_nil)
      (pss_one (ps_set (i := 4) (sc0).nd rfl (by first | exact Or.inl rfl | exact Or.inr rfl) (pe_callB (cr_self o) (by rfl) (z_max T) b_max (pa_cons (pv 4) (pa_cons (pe_dget o.hu1 (pv 2) (pv 5) (fun _ _ => rfl)) pa_nil)))))))
      (pss_one (ps_ret (pv 4))))), ?_⟩
    walk_at "go"
    refine ⟨b, kb, rfl, hb, ?_⟩
    walk_at "go"
    refine ⟨len0, fun e0 H1 n1 s1 h1 => ?_⟩
    refine dg2V (s1 _ _ hb) ?_
    obtain ⟨lp, elp, hlp⟩ : ∃ lp, (valV kb (Sum.inl p : Key)).getD (.ref e0) = .ref lp ∧ H1 lp = some (.lst ((bh p).map V.int)) := by
      cases hv : valV kb (Sum.inl p : Key) with
      | none => exact ⟨e0, rfl, by rw [b0 p hv]; exact h1⟩
      | some v =>
        obtain ⟨l, rfl, hl⟩ := b1 p v hv
        exact ⟨l, rfl, s1 _ _ hl⟩
    rw [elp]
    walk_at "go"
    refine forL (a := lp) (xs := (bh p).map V.int) (fun i σ H' => Same H1 H' ∧ ∃ (cur : Int) (bo : Option V), nextB en (bh p) c = nextB en ((bh p).drop i) cur ∧ σ = [some (.int p), some (.ref b), some (.ref e), some (.int c), some (.int cur), bo]) ⟨Same.refl _, c, none, rfl, rfl⟩ (fun i σ H' hi ⟨e, _⟩ => e _ _ hlp) (fun i x σ H2 hx ⟨s2, cur, bo, hc, es⟩ => ?_) (fun σ H2 ⟨s2, cur, bo, hc, es⟩ => ?_)
    · subst es
      obtain ⟨v, hv, rfl⟩ := map_at hx
      have he2 := s2 _ _ (s1 _ _ he)
      have hi := (List.getElem?_eq_some_iff.mp hv).1
      have ed : (bh p).drop i = v :: (bh p).drop (i + 1) := by
        have := (List.getElem?_eq_some_iff.mp hv).2
        rw [← this]
        exact List.drop_eq_getElem_cons hi
      walk_at "go"
      refine dnV he2 ?_
      rw [e1 v]
      cases hen : en v with
      | none =>
        rw [show (!(Option.map V.int (none : Option Int)).isSome) = true from rfl]
        walk_at "go"
        have : nextB en (bh p) c = none := by rw [hc, ed]; simp [nextB, hen]
        rw [this] at q
        exact q H2 (s1.trans s2)
      | some ev =>
        rw [show (!(Option.map V.int (some ev)).isSome) = false from rfl]
        walk_at "go"
        refine dgV he2 (v := .int ev) (by rw [e1 v, hen]; rfl) ?_
        walk_at "go"
        refine ⟨s2, max cur ev, _, ?_, rfl⟩
        rw [hc, ed]
        simp [nextB, hen]
    · subst es
      walk_at "go"
      rw [List.length_map, List.drop_of_length_le (Nat.le_refl _)] at hc
      have : nextB en (bh p) c = some cur := hc
      rw [this] at q
      exact q H2 (s1.trans s2)
end
end
section
set_option maxHeartbeats 4000000
/-! ### lists of pairs of ints against each other -/
def dP (z : Int × Int) : PyData := .tuple [.int z.1, .int z.2]
theorem dP_lays : ∀ zs : List (Int × Int), PyData.canLayAll0 (zs.map dP) = true
  | [] => by simp [PyData.canLayAll0]
  | z :: zs => by simp [PyData.canLayAll0, PyData.canLay0, dP, dP_lays zs]
theorem dP_depths : ∀ zs : List (Int × Int), PyData.depthAll (zs.map dP) ≤ 2
  | [] => by simp [PyData.depthAll]
  | z :: zs => by
    have h1 := dP_depths zs
    have h2 : (dP z).depth ≤ 2 := by simp [dP, PyData.depth, PyData.depthAll]
    simp only [List.map_cons, PyData.depthAll]
    omega
theorem dPs_shaped (zs : List (Int × Int)) : SeqAt.shaped (.list (zs.map dP)) = true := by
  have h1 := dP_depths zs
  have h2 : PyData.depth (.list (zs.map dP)) ≤ 64 := by
    simp only [PyData.depth]
    omega
  show (PyData.canLay0 (.list (zs.map dP)) && decide (PyData.depth (.list (zs.map dP)) ≤ 64)) = true
  rw [Bool.and_eq_true]
  exact ⟨by simp only [PyData.canLay0]; exact dP_lays zs, decide_eq_true h2⟩
theorem dPs_eqv : ∀ zs : List (Int × Int), PyData.eqvAll (zs.map dP) (zs.map dP) = true
  | [] => by simp [PyData.eqvAll]
  | z :: zs => by simp [PyData.eqvAll, PyData.eqv, dP, dPs_eqv zs]
theorem dp_prs {K : PySem.W.Frag} {H : Hp} : ∀ {as : List Addr} {zs : List (Int × Int)}, as.length = zs.length → (∀ (i : Nat) (a : Addr) (z : Int × Int), as[i]? = some a → zs[i]? = some z → PrA H a z) → DpAll K H (as.map V.ref) (zs.map dP)
  | [], [], _, _ => .nil
  | a :: as, z :: zs, l, h => .cons (.tup (SqT.of (h 0 a z rfl rfl)) (.cons (.int _) (.cons (.int _) .nil))) (dp_prs (by simpa using l) fun i a' z' e1 e2 => h (i + 1) a' z' (by simpa using e1) (by simpa using e2))
  | [], _ :: _, l, _ => by simp at l
  | _ :: _, [], l, _ => by simp at l
theorem LO.dp {K : PySem.W.Frag} {H : Hp} {l : Addr} {zs : List (Int × Int)} (h : LO PrA H l zs) : Dp K H (.ref l) (.list (zs.map dP)) := by
  obtain ⟨as, h1, h2, h3⟩ := h
  exact .lst (SqL.of h1) (dp_prs h2 h3)
theorem v_eqPr {P : Program} {w : World} {K : PySem.W.Frag} {H : Hp} {Q : VK} {l b : Addr} {zs : List (Int × Int)} (hl : LO PrA H l zs) (hb : LO PrA H b zs) (q : Q (.bl true) H) : OpV P w K (compareOp .Eq) (.ref l) (.ref b) H Q := by
  intro X o
  obtain ⟨rfl, rfl, rfl, hc, hu⟩ := o
  exact ⟨_, (op_eqD (by omega)), ⟨_, _, hl.dp, hb.dp, dPs_shaped _, dPs_shaped _, by rw [PyData.eqv, dPs_eqv]; exact q⟩⟩
end
section
set_option maxHeartbeats 4000000
/-! ### the times, plainly -/
theorem nextB_some {en : Int → Option Int} : ∀ {l : List Int} {c : Int}, (∀ q ∈ l, (en q).isSome = true) → ∃ x, nextB en l c = some x
  | [], c, _ => ⟨c, rfl⟩
  | q :: l, c, h => by
    obtain ⟨v, hv⟩ := Option.isSome_iff_exists.mp (h q List.mem_cons_self)
    simp only [nextB, hv]
    exact nextB_some fun q' hq => h q' (List.mem_cons_of_mem _ hq)
theorem nextB_val {en : Int → Option Int} {E : Int → Int} : ∀ {l : List Int} {c b : Int}, (∀ q ∈ l, ∀ u, en q = some u → u = E q) → nextB en l c = some b → b = l.foldl (fun a q => max a (E q)) c
  | [], c, b, _, h => by cases h; rfl
  | q :: l, c, b, hv, h => by
    simp only [nextB] at h
    cases e : en q with
    | none => rw [e] at h; cases h
    | some u =>
      rw [e] at h
      have := hv q List.mem_cons_self u e
      rw [List.foldl_cons, ← this]
      exact nextB_val (fun q' hq => hv q' (List.mem_cons_of_mem _ hq)) h
/-- a deal: rows rise, each piece stands once, waits go back -/
structure Deal (n : Nat) (hs : List (List Int)) (ws : List (Int × Int)) : Prop where
  up : ∀ row ∈ hs, row.Pairwise (· < ·)
  hp : (hs.flatten).Perm ((List.range n).map fun (i : Nat) => (i : Int))
  wk : ∀ z ∈ ws, 0 ≤ z.2 ∧ z.2 < z.1 ∧ z.1 < n
def bhF (ws : List (Int × Int)) (x : Int) : List Int := (ws.filter fun z => decide (z.1 = x)).map (·.2)
def clkF (E : Int → Int) (row : List Int) : Nat → Int
  | 0 => 0
  | i + 1 => ((row[i]?).map E).getD 0
def begF (E : Int → Int) (ws : List (Int × Int)) (row : List Int) (i : Nat) (x : Int) : Int := (bhF ws x).foldl (fun a q => max a (E q)) (clkF E row i)
def TimesOk (len : Int → Int) (hs : List (List Int)) (ws : List (Int × Int)) (E : Int → Int) : Prop := ∀ (h : Nat) (row : List Int) (i : Nat) (x : Int), hs[h]? = some row → row[i]? = some x → E x = begF E ws row i x + len x
theorem mem_bhF {ws : List (Int × Int)} {x q : Int} : q ∈ bhF ws x ↔ (x, q) ∈ ws := by
  simp only [bhF, List.mem_map, List.mem_filter, decide_eq_true_eq]
  constructor
  · rintro ⟨⟨a, b⟩, ⟨h1, h2⟩, h3⟩
    simp only at h2 h3
    subst h2 h3
    exact h1
  · intro h
    exact ⟨(x, q), ⟨h, rfl⟩, rfl⟩
theorem foldl_maxE_congr {E E' : Int → Int} : ∀ {l : List Int} {c : Int}, (∀ q ∈ l, E q = E' q) → l.foldl (fun a q => max a (E q)) c = l.foldl (fun a q => max a (E' q)) c
  | [], _, _ => rfl
  | q :: l, c, h => by
    rw [List.foldl_cons, List.foldl_cons, h q List.mem_cons_self]
    exact foldl_maxE_congr fun q' hq => h q' (List.mem_cons_of_mem _ hq)
theorem foldl_maxE_ge {E : Int → Int} : ∀ {l : List Int} {c : Int}, c ≤ l.foldl (fun a q => max a (E q)) c ∧ ∀ q ∈ l, E q ≤ l.foldl (fun a q => max a (E q)) c
  | [], _ => ⟨Int.le_refl _, by simp⟩
  | q :: l, c => by
    rw [List.foldl_cons]
    obtain ⟨h1, h2⟩ := foldl_maxE_ge (E := E) (l := l) (c := max c (E q))
    refine ⟨by omega, fun q' hq => ?_⟩
    rcases List.mem_cons.mp hq with e | e
    · subst e
      omega
    · exact h2 q' e
theorem foldl_maxE_le {E : Int → Int} {b : Int} : ∀ {l : List Int} {c : Int}, c ≤ b → (∀ q ∈ l, E q ≤ b) → l.foldl (fun a q => max a (E q)) c ≤ b
  | [], _, h, _ => h
  | q :: l, c, h, h2 => by
    rw [List.foldl_cons]
    have := h2 q List.mem_cons_self
    exact foldl_maxE_le (by omega) fun q' hq => h2 q' (List.mem_cons_of_mem _ hq)
theorem Deal.mem {n : Nat} {hs : List (List Int)} {ws : List (Int × Int)} (D : Deal n hs ws) {h : Nat} {row : List Int} {i : Nat} {x : Int} (hr : hs[h]? = some row) (hx : row[i]? = some x) : 0 ≤ x ∧ x < n := by
  have : x ∈ hs.flatten := List.mem_flatten.mpr ⟨row, List.mem_of_getElem? hr, List.mem_of_getElem? hx⟩
  have := D.hp.mem_iff.mp this
  simp only [List.mem_map, List.mem_range] at this
  obtain ⟨k, hk, rfl⟩ := this
  omega
theorem Deal.pos {n : Nat} {hs : List (List Int)} {ws : List (Int × Int)} (D : Deal n hs ws) {x : Int} (h0 : 0 ≤ x) (h1 : x < n) : ∃ (h : Nat) (row : List Int) (i : Nat), hs[h]? = some row ∧ row[i]? = some x := by
  have : x ∈ hs.flatten := D.hp.mem_iff.mpr (List.mem_map.mpr ⟨x.toNat, by rw [List.mem_range]; omega, by omega⟩)
  obtain ⟨row, hr, hx⟩ := List.mem_flatten.mp this
  obtain ⟨h, e1⟩ := List.mem_iff_getElem?.mp hr
  obtain ⟨i, e2⟩ := List.mem_iff_getElem?.mp hx
  exact ⟨h, row, i, e1, e2⟩
theorem range_nodup (n : Nat) : ((List.range n).map fun (i : Nat) => (i : Int)).Nodup := by
  refine List.Pairwise.map _ (fun a b h e => h ?_) (List.nodup_range (n := n))
  exact Int.ofNat.inj e
theorem Deal.uniq {n : Nat} {hs : List (List Int)} {ws : List (Int × Int)} (D : Deal n hs ws) {h h' : Nat} {row row' : List Int} {i i' : Nat} {x : Int} (hr : hs[h]? = some row) (hx : row[i]? = some x) (hr' : hs[h']? = some row') (hx' : row'[i']? = some x) : h = h' ∧ i = i' ∧ row = row' := by
  have nd : (hs.flatten).Nodup := D.hp.nodup_iff.mpr (range_nodup n)
  have pw := List.pairwise_flatten.mp nd
  have key : ∀ {a b : Nat} {ra rb : List Int}, hs[a]? = some ra → hs[b]? = some rb → x ∈ ra → x ∈ rb → ¬ a < b := fun {a b ra rb} ha hb xa xb lt => by
    obtain ⟨la, ea⟩ := List.getElem?_eq_some_iff.mp ha
    obtain ⟨lb, eb⟩ := List.getElem?_eq_some_iff.mp hb
    have := List.pairwise_iff_getElem.mp pw.2 a b la lb lt
    rw [ea, eb] at this
    exact this x xa x xb rfl
  have m1 := List.mem_of_getElem? hx
  have m2 := List.mem_of_getElem? hx'
  have eh : h = h' := by
    have a1 := key hr hr' m1 m2
    have a2 := key hr' hr m2 m1
    omega
  subst eh
  rw [hr] at hr'
  cases hr'
  refine ⟨rfl, ?_, rfl⟩
  have ndr : row.Nodup := pw.1 row (List.mem_of_getElem? hr)
  obtain ⟨l1, e1⟩ := List.getElem?_eq_some_iff.mp hx
  obtain ⟨l2, e2⟩ := List.getElem?_eq_some_iff.mp hx'
  have pn : ∀ {a b : Nat}, row[a]? = some x → row[b]? = some x → ¬ a < b := fun {a b} ha hb lt => by
    obtain ⟨l1, e1⟩ := List.getElem?_eq_some_iff.mp ha
    obtain ⟨l2, e2⟩ := List.getElem?_eq_some_iff.mp hb
    exact List.pairwise_iff_getElem.mp ndr a b l1 l2 lt (e1.trans e2.symm)
  have b1 := pn hx hx'
  have b2 := pn hx' hx
  omega
theorem Deal.lt {n : Nat} {hs : List (List Int)} {ws : List (Int × Int)} (D : Deal n hs ws) {h : Nat} {row : List Int} {i j : Nat} {x y : Int} (hr : hs[h]? = some row) (hx : row[i]? = some x) (hy : row[j]? = some y) (hij : i < j) : x < y := by
  obtain ⟨l1, e1⟩ := List.getElem?_eq_some_iff.mp hx
  obtain ⟨l2, e2⟩ := List.getElem?_eq_some_iff.mp hy
  have := List.pairwise_iff_getElem.mp (D.up row (List.mem_of_getElem? hr)) i j l1 l2 hij
  rw [e1, e2] at this
  exact this
theorem begF_congr {n : Nat} {hs : List (List Int)} {ws : List (Int × Int)} (D : Deal n hs ws) {E E' : Int → Int} {h : Nat} {row : List Int} {i : Nat} {x : Int} (hr : hs[h]? = some row) (hx : row[i]? = some x) (he : ∀ y, y < x → E y = E' y) : begF E ws row i x = begF E' ws row i x := by
  have hc : clkF E row i = clkF E' row i := by
    cases i with
    | zero => rfl
    | succ i =>
      obtain ⟨l1, e1⟩ := List.getElem?_eq_some_iff.mp hx
      have e0 : row[i]? = some row[i] := List.getElem?_eq_getElem (by omega)
      simp only [clkF, e0, Option.map_some, Option.getD_some]
      exact he _ (D.lt hr e0 hx (by omega))
  unfold begF
  rw [hc]
  exact foldl_maxE_congr fun q hq => he q (D.wk _ (mem_bhF.mp hq)).2.1
theorem times_ex {n : Nat} {hs : List (List Int)} {ws : List (Int × Int)} (D : Deal n hs ws) (len : Int → Int) : ∃ E, TimesOk len hs ws E := by
  have key : ∀ k : Nat, ∃ E : Int → Int, ∀ (h : Nat) (row : List Int) (i : Nat) (x : Int), hs[h]? = some row → row[i]? = some x → x < k → E x = begF E ws row i x + len x := by
    intro k
    induction k with
    | zero => exact ⟨fun _ => 0, fun h row i x hr hx hk => by have := (D.mem hr hx).1; omega⟩
    | succ k ih =>
      obtain ⟨E, hE⟩ := ih
      by_cases hex : ∃ (h : Nat) (row : List Int) (i : Nat), hs[h]? = some row ∧ row[i]? = some (k : Int)
      · obtain ⟨h, row, i, hr, hx⟩ := hex
        refine ⟨fun y => if y = k then begF E ws row i k + len k else E y, fun h' row' i' x hr' hx' hk => ?_⟩
        have c : begF E ws row' i' x = begF (fun y => if y = (k : Int) then begF E ws row i k + len k else E y) ws row' i' x := begF_congr D hr' hx' fun y hy => by
          show E y = if y = (k : Int) then _ else E y
          rw [if_neg (by omega)]
        rw [← c]
        by_cases e : x = k
        · subst e
          obtain ⟨rfl, rfl, rfl⟩ := D.uniq hr hx hr' hx'
          show (if (k : Int) = k then _ else _) = _
          rw [if_pos rfl]
        · show (if x = (k : Int) then _ else _) = _
          rw [if_neg e]
          exact hE h' row' i' x hr' hx' (by omega)
      · refine ⟨E, fun h' row' i' x hr' hx' hk => hE h' row' i' x hr' hx' ?_⟩
        have : x ≠ k := fun e => hex ⟨h', row', i', hr', by rw [← e]; exact hx'⟩
        omega
  obtain ⟨E, hE⟩ := key n
  exact ⟨E, fun h row i x hr hx => hE h row i x hr hx (D.mem hr hx).2⟩
/-! what remains -/
def remF : List (List Int) → List Nat → Nat
  | row :: hs, i :: ix => (row.length - i) + remF hs ix
  | _, _ => 0
theorem remF_set : ∀ {hs : List (List Int)} {ix : List Nat} {h : Nat} {row : List Int} {i : Nat}, hs[h]? = some row → ix[h]? = some i → i < row.length → remF hs (ix.set h (i + 1)) + 1 = remF hs ix
  | [], _, h, row, i, hr, _, _ => by simp at hr
  | _ :: _, [], h, row, i, _, hi, _ => by simp at hi
  | r :: hs, j :: ix, 0, row, i, hr, hi, l => by
    simp only [List.getElem?_cons_zero, Option.some.injEq] at hr hi
    subst hr hi
    simp only [List.set_cons_zero, remF]
    omega
  | r :: hs, j :: ix, h + 1, row, i, hr, hi, l => by
    have := remF_set (hs := hs) (ix := ix) (h := h) (by simpa using hr) (by simpa using hi) l
    simp only [List.set_cons_succ, remF]
    omega
theorem remF_zero : ∀ {hs : List (List Int)}, remF hs (List.replicate hs.length 0) = hs.flatten.length
  | [] => rfl
  | r :: hs => by
    have := remF_zero (hs := hs)
    simp only [List.length_cons, List.replicate_succ, remF, List.flatten_cons, List.length_append]
    omega
theorem remF_done : ∀ {hs : List (List Int)} {ix : List Nat}, (∀ (h : Nat) (row : List Int) (i : Nat), hs[h]? = some row → ix[h]? = some i → row.length ≤ i) → remF hs ix = 0
  | [], _, _ => by simp [remF]
  | _ :: _, [], _ => by simp [remF]
  | r :: hs, j :: ix, H => by
    have h1 := H 0 r j rfl rfl
    have h2 := remF_done (hs := hs) (ix := ix) fun h row i a b => H (h + 1) row i (by simpa using a) (by simpa using b)
    simp only [remF]
    omega
/-- where nobody can go on, all is done -/
theorem all_done {n : Nat} {hs : List (List Int)} {ws : List (Int × Int)} (D : Deal n hs ws) {E : Int → Int} {en : Int → Option Int} {ix : List Nat} (il : ix.length = hs.length)
    (hen : ∀ (h : Nat) (row : List Int) (i j : Nat) (x : Int), hs[h]? = some row → ix[h]? = some i → row[j]? = some x → en x = if j < i then some (E x) else none)
    (hb : ∀ (h : Nat) (row : List Int) (i : Nat) (x : Int), hs[h]? = some row → ix[h]? = some i → row[i]? = some x → nextB en (bhF ws x) (clkF E row i) = none) :
    ∀ (h : Nat) (row : List Int) (i : Nat), hs[h]? = some row → ix[h]? = some i → row.length ≤ i := by
  have key : ∀ k : Nat, ∀ (h : Nat) (row : List Int) (i j : Nat) (x : Int), x < k → hs[h]? = some row → ix[h]? = some i → row[j]? = some x → j < i := by
    intro k
    induction k with
    | zero => intro h row i j x hk hr hi hx; have := (D.mem hr hx).1; omega
    | succ k ih =>
      intro h row i j x hk hr hi hx
      refine Classical.byContradiction fun hn => ?_
      have lj := (List.getElem?_eq_some_iff.mp hx).1
      have ey : row[i]? = some row[i] := List.getElem?_eq_getElem (by omega)
      by_cases hij : i < j
      · have := D.lt hr ey hx hij
        have := ih h row i i _ (by omega) hr hi ey
        omega
      · have eij : i = j := by omega
        subst eij
        have hnone := hb h row i x hr hi hx
        obtain ⟨b, hb'⟩ := nextB_some (en := en) (l := bhF ws x) (c := clkF E row i) fun q hq => by
          obtain ⟨q0, q1, q2⟩ := D.wk _ (mem_bhF.mp hq)
          simp only at q0 q1 q2
          obtain ⟨h', row', j', hr', hx'⟩ := D.pos q0 (show q < n by omega)
          obtain ⟨i', hi'⟩ : ∃ i', ix[h']? = some i' := ⟨_, List.getElem?_eq_getElem (by rw [il]; exact (List.getElem?_eq_some_iff.mp hr').1)⟩
          have := ih h' row' i' j' q (by omega) hr' hi' hx'
          rw [hen h' row' i' j' q hr' hi' hx', if_pos this]
          rfl
        rw [hnone] at hb'
        cases hb'
  intro h row i hr hi
  refine Classical.byContradiction fun hn => ?_
  have ey : row[i]? = some row[i] := List.getElem?_eq_getElem (by omega)
  have := key n h row i i _ (D.mem hr ey).2 hr hi ey
  omega
end
section
set_option maxHeartbeats 4000000
/-! ### a run by the clock, plainly -/
/-- what the times keep -/
structure Clock (n : Nat) (hs : List (List Int)) (ws : List (Int × Int)) (b E : Int → Int) : Prop where
  D : Deal n hs ws
  lt : ∀ x : Int, 0 ≤ x → x < n → b x < E x
  b0 : ∀ x : Int, 0 ≤ x → x < n → 0 ≤ b x
  up : ∀ row ∈ hs, row.Pairwise fun x y => E x ≤ b y
  wk : ∀ z ∈ ws, E z.2 ≤ b z.1
  le : ∀ x : Int, 0 ≤ x → x < n → E x ≤ 1000 * (x + 1)
theorem clock_of {n : Nat} {hs : List (List Int)} {ws : List (Int × Int)} {len E : Int → Int} (D : Deal n hs ws) (T : TimesOk len hs ws E) (hl : ∀ x : Int, 0 ≤ x → x < n → 1 ≤ len x ∧ len x ≤ 1000) : Clock n hs ws (fun x => E x - len x) E := by
  have bg : ∀ (h : Nat) (row : List Int) (i : Nat) (x : Int), hs[h]? = some row → row[i]? = some x → clkF E row i ≤ E x - len x ∧ ∀ q ∈ bhF ws x, E q ≤ E x - len x := fun h row i x hr hx => by
    have e := T h row i x hr hx
    have g := foldl_maxE_ge (E := E) (l := bhF ws x) (c := clkF E row i)
    have e' : E x - len x = begF E ws row i x := by omega
    rw [e']
    exact g
  have b0 : ∀ (k : Nat), ∀ (h : Nat) (row : List Int) (i : Nat) (x : Int), x < k → hs[h]? = some row → row[i]? = some x → 0 ≤ E x - len x := by
    intro k
    induction k with
    | zero => intro h row i x hk hr hx; have := (D.mem hr hx).1; omega
    | succ k ih =>
      intro h row i x hk hr hx
      have := (bg h row i x hr hx).1
      refine Int.le_trans ?_ this
      cases i with
      | zero => exact Int.le_refl 0
      | succ i =>
        have lx := (List.getElem?_eq_some_iff.mp hx).1
        have e0 : row[i]? = some row[i] := List.getElem?_eq_getElem (by omega)
        simp only [clkF, e0, Option.map_some, Option.getD_some]
        have l1 := D.lt hr e0 hx (by omega)
        have := ih h row i _ (by omega) hr e0
        have m := D.mem hr e0
        have := hl _ m.1 m.2
        omega
  have le : ∀ (k : Nat), ∀ (h : Nat) (row : List Int) (i : Nat) (x : Int), x < k → hs[h]? = some row → row[i]? = some x → E x ≤ 1000 * (x + 1) := by
    intro k
    induction k with
    | zero => intro h row i x hk hr hx; have := (D.mem hr hx).1; omega
    | succ k ih =>
      intro h row i x hk hr hx
      have e := T h row i x hr hx
      have m := D.mem hr hx
      have ll := (hl x m.1 m.2).2
      have : begF E ws row i x ≤ 1000 * x := by
        refine foldl_maxE_le ?_ fun q hq => ?_
        · cases i with
          | zero => simp only [clkF]; omega
          | succ i =>
            have lx := (List.getElem?_eq_some_iff.mp hx).1
            have e0 : row[i]? = some row[i] := List.getElem?_eq_getElem (by omega)
            simp only [clkF, e0, Option.map_some, Option.getD_some]
            have l1 := D.lt hr e0 hx (by omega)
            have := ih h row i _ (by omega) hr e0
            omega
        · obtain ⟨q0, q1, q2⟩ := D.wk _ (mem_bhF.mp hq)
          simp only at q0 q1 q2
          obtain ⟨h', row', j', hr', hx'⟩ := D.pos q0 (show q < n by omega)
          have := ih h' row' j' q (by omega) hr' hx'
          omega
      omega
  have up : ∀ (h : Nat) (row : List Int), hs[h]? = some row → ∀ (j i : Nat) (x y : Int), i < j → row[i]? = some x → row[j]? = some y → E x ≤ E y - len y := by
    intro h row hr j
    induction j with
    | zero => intro i x y hij; omega
    | succ j ih =>
      intro i x y hij hx hy
      have lx := (List.getElem?_eq_some_iff.mp hy).1
      have e0 : row[j]? = some row[j] := List.getElem?_eq_getElem (by omega)
      have g := (bg h row (j + 1) y hr hy).1
      simp only [clkF, e0, Option.map_some, Option.getD_some] at g
      by_cases hj : i = j
      · subst hj
        rw [e0] at hx
        cases hx
        exact g
      · have := ih i x _ (by omega) hx e0
        have m := D.mem hr e0
        have := hl _ m.1 m.2
        omega
  refine ⟨D, fun x h0 h1 => by have := (hl x h0 h1).1; show E x - len x < E x; omega, fun x h0 h1 => ?_, fun row hrow => ?_, fun z hz => ?_, fun x h0 h1 => ?_⟩
  · obtain ⟨h, row, i, hr, hx⟩ := D.pos h0 h1
    exact b0 n h row i x h1 hr hx
  · obtain ⟨h, hr⟩ := List.mem_iff_getElem?.mp hrow
    rw [List.pairwise_iff_getElem]
    intro i j hi hj hij
    exact up h row hr j i _ _ hij (List.getElem?_eq_getElem hi) (List.getElem?_eq_getElem hj)
  · obtain ⟨q0, q1, q2⟩ := D.wk z hz
    obtain ⟨h, row, i, hr, hx⟩ := D.pos (show 0 ≤ z.1 by omega) q2
    exact (bg h row i z.1 hr hx).2 z.2 (mem_bhF.mpr hz)
  · obtain ⟨h, row, i, hr, hx⟩ := D.pos h0 h1
    exact le n h row i x h1 hr hx
def atF (b E : Int → Int) : List Int → Int → Int × Int
  | [], _ => (0, 0)
  | x :: xs, t => if E x ≤ t then ((atF b E xs t).1 + 1, (atF b E xs t).2) else (0, max (t - b x) 0)
/-- what is left of a piece -/
def lfF (b E : Int → Int) (x t : Int) : Int := max 0 (min (E x - b x) (E x - t))
section
variable {b E : Int → Int} {t : Int}
theorem atF_zero : ∀ {row : List Int}, (∀ x ∈ row, b x < E x) → (∀ x ∈ row, t ≤ b x) → atF b E row t = (0, 0)
  | [], _, _ => rfl
  | x :: xs, h, h2 => by
    have h1 := h x List.mem_cons_self
    have h3 := h2 x List.mem_cons_self
    unfold atF
    rw [if_neg (by omega)]
    have : max (t - b x) 0 = 0 := by omega
    rw [this]
theorem atF_at : ∀ {row : List Int} {i : Nat} {x : Int}, row.Pairwise (fun x y => E x ≤ b y) → row[i]? = some x → b x ≤ t → t < E x → atF b E row t = ((i : Int), t - b x)
  | [], i, x, _, hx, _, _ => by simp at hx
  | y :: row, 0, x, _, hx, h1, h2 => by
    simp only [List.getElem?_cons_zero, Option.some.injEq] at hx
    subst hx
    unfold atF
    rw [if_neg (by omega)]
    have : max (t - b y) 0 = t - b y := by omega
    rw [this]
    rfl
  | y :: row, i + 1, x, pw, hx, h1, h2 => by
    have hx' : row[i]? = some x := by simpa using hx
    obtain ⟨p1, p2⟩ := List.pairwise_cons.mp pw
    have e := p1 x (List.mem_of_getElem? hx')
    unfold atF
    rw [if_pos (by omega), atF_at p2 hx' h1 h2]
    simp
theorem atF_step : ∀ {row : List Int} {i : Nat} {x : Int}, (∀ x ∈ row, b x < E x) → row.Pairwise (fun x y => E x ≤ b y) → row[i]? = some x → b x ≤ t → t < E x → atF b E row (t + 1) = stepZ ((i : Int), t - b x) (E x - t)
  | [], i, x, _, _, hx, _, _ => by simp at hx
  | y :: row, 0, x, hb, pw, hx, h1, h2 => by
    simp only [List.getElem?_cons_zero, Option.some.injEq] at hx
    subst hx
    obtain ⟨p1, p2⟩ := List.pairwise_cons.mp pw
    unfold atF stepZ
    by_cases h : E y ≤ t + 1
    · have z := atF_zero (b := b) (E := E) (t := t + 1) (row := row) (fun x hx => hb x (List.mem_cons_of_mem _ hx)) fun x hx => by have := p1 x hx; omega
      rw [if_pos h, z, if_pos (by omega)]
      rfl
    · rw [if_neg h, if_neg (by omega)]
      have : max (t + 1 - b y) 0 = t - b y + 1 := by omega
      rw [this]
      rfl
  | y :: row, i + 1, x, hb, pw, hx, h1, h2 => by
    have hx' : row[i]? = some x := by simpa using hx
    obtain ⟨p1, p2⟩ := List.pairwise_cons.mp pw
    have e := p1 x (List.mem_of_getElem? hx')
    unfold atF
    rw [if_pos (by omega), atF_step (fun x hx => hb x (List.mem_cons_of_mem _ hx)) p2 hx' h1 h2]
    unfold stepZ
    by_cases h : E x - t - 1 = 0
    · rw [if_pos h, if_pos h]
      simp
    · rw [if_neg h, if_neg h]
      simp
theorem atF_idle : ∀ {row : List Int}, (∀ x ∈ row, b x < E x) → (∀ x ∈ row, ¬ (b x ≤ t ∧ t < E x)) → atF b E row (t + 1) = atF b E row t
  | [], _, _ => rfl
  | x :: xs, h, h2 => by
    have h1 := h x List.mem_cons_self
    have h3 := h2 x List.mem_cons_self
    have ih := atF_idle (fun x hx => h x (List.mem_cons_of_mem _ hx)) fun x hx => h2 x (List.mem_cons_of_mem _ hx)
    unfold atF
    rw [ih]
    by_cases hc : E x ≤ t
    · rw [if_pos hc, if_pos (by omega)]
    · rw [if_neg hc, if_neg (by omega)]
      have e1 : max (t + 1 - b x) 0 = 0 := by omega
      have e2 : max (t - b x) 0 = 0 := by omega
      rw [e1, e2]
theorem atF_done : ∀ {row : List Int}, (∀ x ∈ row, E x ≤ t) → atF b E row t = ((row.length : Int), 0)
  | [], _ => rfl
  | x :: xs, h => by
    have ih := atF_done (row := xs) fun x hx => h x (List.mem_cons_of_mem _ hx)
    unfold atF
    rw [if_pos (h x List.mem_cons_self), ih]
    simp
end
/-- the run, hand h being at the time u h -/
structure RI (hs : List (List Int)) (b E : Int → Int) (u : Nat → Int) (ats : List (Int × Int)) (left : List Int) : Prop where
  a : ∀ (h : Nat) (row : List Int), hs[h]? = some row → ats[h]? = some (atF b E row (u h))
  l : ∀ (h : Nat) (row : List Int) (i : Nat) (x : Int), hs[h]? = some row → row[i]? = some x → left[x.toNat]? = some (lfF b E x (u h))
def updU (u : Nat → Int) (h : Nat) (v : Int) : Nat → Int := fun k => if k = h then v else u k
theorem ri_start {p : Pp} {b E : Int → Int} (C : Clock p.pcs.length p.hs p.ws b E) (hb : ∀ (x : Nat) (pc : List Sp2), p.pcs[x]? = some pc → E x - b x = pc.length) : RI p.hs b E (fun _ => 0) (List.replicate p.hs.length (0, 0)) (p.pcs.map fun pc => (pc.length : Int)) := by
  refine ⟨fun h row hr => ?_, fun h row i x hr hx => ?_⟩
  · have m : ∀ x ∈ row, 0 ≤ x ∧ x < p.pcs.length := fun x hx => by obtain ⟨i, hi⟩ := List.mem_iff_getElem?.mp hx; exact C.D.mem hr hi
    rw [atF_zero (fun x hx => C.lt x (m x hx).1 (m x hx).2) (fun x hx => C.b0 x (m x hx).1 (m x hx).2), List.getElem?_replicate, if_pos (List.getElem?_eq_some_iff.mp hr).1]
  · obtain ⟨m1, m2⟩ := C.D.mem hr hx
    obtain ⟨pc, hpc⟩ : ∃ pc, p.pcs[x.toNat]? = some pc := ⟨_, List.getElem?_eq_getElem (by omega)⟩
    have e := hb _ pc hpc
    rw [show ((x.toNat : Nat) : Int) = x by omega] at e
    rw [List.getElem?_map, hpc]
    have := C.b0 x m1 m2
    unfold lfF
    rw [show max 0 (min (E x - b x) (E x - 0)) = (pc.length : Int) by omega]
    rfl
theorem ri_step {p : Pp} {b E : Int → Int} (C : Clock p.pcs.length p.hs p.ws b E) {u : Nat → Int} {ats : List (Int × Int)} {left : List Int} (al : ats.length = p.hs.length) (ll : left.length = p.pcs.length) (R : RI p.hs b E u ats left)
    {h : Nat} {row : List Int} {i : Nat} {x t : Int} (hr : p.hs[h]? = some row) (hx : row[i]? = some x) (hu : u h = t) (h1 : b x ≤ t) (h2 : t < E x) (hle : ∀ k, t ≤ u k) :
    pieceAt p.hs ats h = some x ∧ ats[h]? = some ((i : Int), t - b x) ∧ left[x.toNat]? = some (E x - t) ∧ canStep p ats left h = true ∧ RI p.hs b E (updU u h (t + 1)) (ats.set h (stepZ ((i : Int), t - b x) (E x - t))) (left.set x.toNat (E x - t - 1)) := by
  have pw := C.up row (List.mem_of_getElem? hr)
  have hat : ats[h]? = some ((i : Int), t - b x) := by rw [R.a h row hr, hu, atF_at pw hx h1 h2]
  have hpc : pieceAt p.hs ats h = some x := by
    unfold pieceAt
    rw [hr, hat]
    simpa using hx
  have hlf : left[x.toNat]? = some (E x - t) := by
    rw [R.l h row i x hr hx, hu]
    unfold lfF
    rw [show max 0 (min (E x - b x) (E x - t)) = E x - t by omega]
  have m : ∀ {h' : Nat} {row' : List Int}, p.hs[h']? = some row' → ∀ x ∈ row', 0 ≤ x ∧ x < p.pcs.length := fun hr' x hx => by obtain ⟨i, hi⟩ := List.mem_iff_getElem?.mp hx; exact C.D.mem hr' hi
  refine ⟨hpc, hat, hlf, ?_, fun h' row' hr' => ?_, fun h' row' i' y hr' hy => ?_⟩
  · unfold canStep
    rw [hpc, hat]
    show (decide (0 < t - b x) || mayBegin p.ws left x) = true
    rw [Bool.or_eq_true]
    by_cases hz : 0 < t - b x
    · exact .inl (decide_eq_true hz)
    · refine .inr ?_
      unfold mayBegin
      rw [List.all_eq_true]
      intro z hz'
      rw [List.mem_filter, decide_eq_true_eq] at hz'
      obtain ⟨z1, z2⟩ := hz'
      have w1 := C.wk z z1
      obtain ⟨q0, q1, q2⟩ := C.D.wk z z1
      rw [z2] at w1
      obtain ⟨h', row', j', hr', hx'⟩ := C.D.pos q0 (show z.2 < p.pcs.length by omega)
      rw [R.l h' row' j' z.2 hr' hx']
      have := hle h'
      unfold lfF
      rw [show max 0 (min (E z.2 - b z.2) (E z.2 - u h')) = 0 by omega]
      exact decide_eq_true rfl
  · unfold updU
    by_cases hh : h' = h
    · subst hh
      rw [hr] at hr'
      cases hr'
      rw [if_pos rfl, List.getElem?_set, if_pos rfl, if_pos (by rw [al]; exact (List.getElem?_eq_some_iff.mp hr).1), atF_step (fun x hx => C.lt x (m hr x hx).1 (m hr x hx).2) pw hx h1 h2]
    · rw [if_neg hh, List.getElem?_set, if_neg (fun e => hh e.symm)]
      exact R.a h' row' hr'
  · obtain ⟨mx, mx'⟩ := C.D.mem hr hx
    obtain ⟨my, my'⟩ := C.D.mem hr' hy
    unfold updU
    by_cases hxy : x = y
    · subst hxy
      obtain ⟨rfl, rfl, rfl⟩ := C.D.uniq hr hx hr' hy
      rw [if_pos rfl, List.getElem?_set, if_pos rfl, if_pos (by omega)]
      unfold lfF
      rw [show max 0 (min (E x - b x) (E x - (t + 1))) = E x - t - 1 by omega]
    · rw [List.getElem?_set, if_neg (by omega), R.l h' row' i' y hr' hy]
      by_cases hh : h' = h
      · subst hh
        rw [hr] at hr'
        cases hr'
        rw [if_pos rfl, hu]
        have c : E x ≤ b y ∨ E y ≤ b x := by
          rcases Nat.lt_trichotomy i i' with a | a | a
          · obtain ⟨l1, e1⟩ := List.getElem?_eq_some_iff.mp hx
            obtain ⟨l2, e2⟩ := List.getElem?_eq_some_iff.mp hy
            have := List.pairwise_iff_getElem.mp pw i i' l1 l2 a
            rw [e1, e2] at this
            exact .inl this
          · subst a
            rw [hx] at hy
            cases hy
            exact absurd rfl hxy
          · obtain ⟨l1, e1⟩ := List.getElem?_eq_some_iff.mp hx
            obtain ⟨l2, e2⟩ := List.getElem?_eq_some_iff.mp hy
            have := List.pairwise_iff_getElem.mp pw i' i l2 l1 a
            rw [e1, e2] at this
            exact .inr this
        have l1 := C.lt y my my'
        unfold lfF
        congr 1
        omega
      · rw [if_neg hh]
/-- hands that have nothing to do at a tick are at the next one, too -/
theorem ri_tick {p : Pp} {b E : Int → Int} (C : Clock p.pcs.length p.hs p.ws b E) {u u' : Nat → Int} {ats : List (Int × Int)} {left : List Int} (R : RI p.hs b E u ats left) {t : Int}
    (h : ∀ (h : Nat) (row : List Int), p.hs[h]? = some row → u' h = u h ∨ (u h = t ∧ u' h = t + 1 ∧ ∀ x ∈ row, ¬ (b x ≤ t ∧ t < E x))) : RI p.hs b E u' ats left := by
  have m : ∀ {h' : Nat} {row' : List Int}, p.hs[h']? = some row' → ∀ x ∈ row', 0 ≤ x ∧ x < p.pcs.length := fun hr' x hx => by obtain ⟨i, hi⟩ := List.mem_iff_getElem?.mp hx; exact C.D.mem hr' hi
  refine ⟨fun k row hr => ?_, fun k row i x hr hx => ?_⟩
  · rcases h k row hr with e | ⟨e1, e2, e3⟩
    · rw [e]
      exact R.a k row hr
    · rw [e2, atF_idle (fun x hx => C.lt x (m hr x hx).1 (m hr x hx).2) e3, ← e1]
      exact R.a k row hr
  · rcases h k row hr with e | ⟨e1, e2, e3⟩
    · rw [e]
      exact R.l k row i x hr hx
    · rw [R.l k row i x hr hx, e1, e2]
      have n := e3 x (List.mem_of_getElem? hx)
      have l1 := C.lt x (C.D.mem hr hx).1 (C.D.mem hr hx).2
      unfold lfF
      congr 1
      omega
theorem ri_over {p : Pp} {b E : Int → Int} (C : Clock p.pcs.length p.hs p.ws b E) {t : Int} {ats : List (Int × Int)} {left : List Int} (ll : left.length = p.pcs.length) (R : RI p.hs b E (fun _ => t) ats left) (he : ∀ x : Int, 0 ≤ x → x < p.pcs.length → E x ≤ t) :
    (left.all fun v => decide (v = 0)) = true ∧ readyF p ats left = [] := by
  refine ⟨?_, ?_⟩
  · rw [List.all_eq_true]
    intro v hv
    obtain ⟨k, hk⟩ := List.mem_iff_getElem?.mp hv
    have lk := (List.getElem?_eq_some_iff.mp hk).1
    obtain ⟨h, row, i, hr, hx⟩ := C.D.pos (x := (k : Int)) (by omega) (by omega)
    have e := R.l h row i k hr hx
    rw [Int.toNat_natCast, hk] at e
    have e2 := he k (by omega) (by omega)
    cases e
    refine decide_eq_true ?_
    unfold lfF
    omega
  · unfold readyF
    rw [List.map_eq_nil_iff, List.filter_eq_nil_iff]
    intro h hh hc
    rw [List.mem_range] at hh
    have hr : p.hs[h]? = some p.hs[h] := List.getElem?_eq_getElem hh
    have m : ∀ x ∈ p.hs[h], E x ≤ t := fun x hx => by
      obtain ⟨i, hi⟩ := List.mem_iff_getElem?.mp hx
      exact he x (C.D.mem hr hi).1 (C.D.mem hr hi).2
    have e := R.a h _ hr
    rw [atF_done m] at e
    unfold canStep pieceAt at hc
    rw [hr, e] at hc
    simp at hc
theorem ri_not_over {p : Pp} {b E : Int → Int} (C : Clock p.pcs.length p.hs p.ws b E) {t : Int} {ats : List (Int × Int)} {left : List Int} (R : RI p.hs b E (fun _ => t) ats left) {x : Int} (x0 : 0 ≤ x) (x1 : x < p.pcs.length) (hx : t < E x) :
    (left.all fun v => decide (v = 0)) = false := by
  refine Bool.eq_false_iff.mpr fun h => ?_
  rw [List.all_eq_true] at h
  obtain ⟨k, row, i, hr, hx'⟩ := C.D.pos x0 x1
  have e := R.l k row i x hr hx'
  have := h _ (List.mem_of_getElem? e)
  have z := of_decide_eq_true this
  have l1 := C.lt x x0 x1
  unfold lfF at z
  omega
end
section
set_option maxHeartbeats 4000000
/-! ### a tick, plainly -/
theorem perm_map_inv {α β : Type} {f : α → β} : ∀ {l : List β} {m : List α}, l.Perm (m.map f) → ∃ m' : List α, m'.Perm m ∧ l = m'.map f
  | [], m, h => by
    have := h.symm.eq_nil
    cases m with
    | nil => exact ⟨[], List.Perm.refl _, rfl⟩
    | cons _ _ => cases this
  | y :: l, m, h => by
    have : y ∈ m.map f := h.mem_iff.mp List.mem_cons_self
    obtain ⟨a, ha, rfl⟩ := List.mem_map.mp this
    obtain ⟨s, t, rfl⟩ := List.append_of_mem ha
    have p1 : ((s ++ a :: t).map f).Perm (f a :: (s ++ t).map f) := (List.perm_middle.map f)
    obtain ⟨m', h1, rfl⟩ := perm_map_inv (l := l) (m := s ++ t) ((List.perm_cons (f a)).mp (h.trans p1))
    exact ⟨a :: m', (h1.cons a).trans List.perm_middle.symm, rfl⟩
theorem mxd_ge {d : Int} {l : List Int} {x : Int} (h : x ∈ l) : x ≤ mxd d l := by
  have key : ∀ (l : List Int) (y : Int), y ≤ l.foldl max y ∧ ∀ x ∈ l, x ≤ l.foldl max y := by
    intro l
    induction l with
    | nil => intro y; exact ⟨Int.le_refl _, by simp⟩
    | cons z l ih =>
      intro y
      obtain ⟨h1, h2⟩ := ih (max y z)
      rw [List.foldl_cons]
      refine ⟨by omega, fun x hx => ?_⟩
      rcases List.mem_cons.mp hx with e | e
      · subst e; omega
      · exact h2 x e
  cases l with
  | nil => cases h
  | cons y l =>
    obtain ⟨h1, h2⟩ := key l y
    show x ≤ l.foldl max y
    rcases List.mem_cons.mp h with e | e
    · subst e; exact h1
    · exact h2 x e
/-- at work -/
def awk (b E : Int → Int) (t : Int) (x : Int) : Bool := decide (b x ≤ t) && decide (t < E x)
theorem awk_iff {b E : Int → Int} {t x : Int} : awk b E t x = true ↔ b x ≤ t ∧ t < E x := by simp [awk]
/-- who works at a tick -/
def wkF (hs : List (List Int)) (b E : Int → Int) (t : Int) (m : Nat) : List (Int × Int) := (List.range m).flatMap fun h => ((hs.getD h []).filter (awk b E t)).map fun x => ((h : Int), x)
theorem wkF_snoc {hs : List (List Int)} {b E : Int → Int} {t : Int} {m : Nat} : wkF hs b E t (m + 1) = wkF hs b E t m ++ ((hs.getD m []).filter (awk b E t)).map fun x => ((m : Int), x) := by
  simp [wkF, List.range_succ]
theorem mem_wkF {hs : List (List Int)} {b E : Int → Int} {t : Int} {z : Int × Int} {m : Nat} (hm : m ≤ hs.length) : z ∈ wkF hs b E t m ↔ ∃ (h : Nat) (row : List Int), h < m ∧ z.1 = h ∧ hs[h]? = some row ∧ z.2 ∈ row ∧ b z.2 ≤ t ∧ t < E z.2 := by
  simp only [wkF, List.mem_flatMap, List.mem_range, List.mem_map, List.mem_filter, awk_iff]
  constructor
  · rintro ⟨h, hh, x, ⟨h1, h2⟩, rfl⟩
    have e : hs[h]? = some hs[h] := List.getElem?_eq_getElem (by omega)
    rw [List.getD_eq_getElem?_getD, e, Option.getD_some] at h1
    exact ⟨h, _, hh, rfl, e, h1, h2⟩
  · rintro ⟨h, row, hh, h1, h2, h3, h4⟩
    refine ⟨h, hh, z.2, ⟨?_, h4⟩, Prod.ext h1.symm rfl⟩
    rw [List.getD_eq_getElem?_getD, h2]
    exact h3
theorem filter_le1 {b E : Int → Int} {t : Int} : ∀ {row : List Int}, row.Pairwise (fun x y => E x ≤ b y) → (row.filter (awk b E t)).length ≤ 1
  | [], _ => by simp
  | x :: row, pw => by
    obtain ⟨p1, p2⟩ := List.pairwise_cons.mp pw
    by_cases hx : awk b E t x = true
    · rw [List.filter_cons_of_pos hx]
      have : row.filter (awk b E t) = [] := by
        rw [List.filter_eq_nil_iff]
        intro y hy hw
        have := p1 y hy
        have h1 := (awk_iff.mp hx).2
        have h2 := (awk_iff.mp hw).1
        omega
      rw [this]
      exact Nat.le_refl _
    · rw [List.filter_cons_of_neg hx]
      exact filter_le1 p2
theorem wkF_len {hs : List (List Int)} {b E : Int → Int} {t : Int} {m : Nat} (hm : m ≤ hs.length) (up : ∀ row ∈ hs, row.Pairwise fun x y => E x ≤ b y) : (wkF hs b E t m).length ≤ m := by
  induction m with
  | zero => exact Nat.le_refl _
  | succ m ih =>
    rw [wkF_snoc, List.length_append, List.length_map]
    have e : hs[m]? = some hs[m] := List.getElem?_eq_getElem (by omega)
    rw [List.getD_eq_getElem?_getD, e, Option.getD_some]
    have := filter_le1 (t := t) (up hs[m] (List.mem_of_getElem? e))
    have := ih (by omega)
    omega
theorem wkF_nodup {hs : List (List Int)} {b E : Int → Int} {t : Int} {m : Nat} (hm : m ≤ hs.length) (up : ∀ row ∈ hs, row.Pairwise fun x y => E x ≤ b y) : ((wkF hs b E t m).map (·.1)).Nodup := by
  induction m with
  | zero => exact List.nodup_nil
  | succ m ih =>
    rw [wkF_snoc, List.map_append, List.nodup_append]
    have e : hs[m]? = some hs[m] := List.getElem?_eq_getElem (by omega)
    refine ⟨ih (by omega), ?_, fun a ha c hc => ?_⟩
    · rw [List.getD_eq_getElem?_getD, e, Option.getD_some, List.map_map]
      have := filter_le1 (t := t) (up hs[m] (List.mem_of_getElem? e))
      match hs[m].filter (awk b E t), this with
      | [], _ => exact List.nodup_nil
      | [x], _ => simp
      | _ :: _ :: _, h => simp at h
    · obtain ⟨z, hz, rfl⟩ := List.mem_map.mp ha
      obtain ⟨h, row, h1, h2, _⟩ := (mem_wkF (by omega)).mp hz
      obtain ⟨z', hz', rfl⟩ := List.mem_map.mp hc
      obtain ⟨x, _, rfl⟩ := List.mem_map.mp hz'
      show z.1 ≠ (m : Int)
      omega
/-- the hands' times within a tick -/
def tkU (zs : List (Int × Int)) (t : Int) (j : Nat) : Nat → Int := fun h => if (h : Int) ∈ (zs.take j).map (·.1) then t + 1 else t
theorem tkU_zero {zs : List (Int × Int)} {t : Int} : tkU zs t 0 = fun _ => t := by
  funext h
  simp [tkU]
theorem tkU_succ {zs : List (Int × Int)} {t : Int} {j h : Nat} {z : Int × Int} (hz : zs[j]? = some z) (hh : z.1 = h) : updU (tkU zs t j) h (t + 1) = tkU zs t (j + 1) := by
  funext k
  unfold updU tkU
  rw [List.take_add_one, hz]
  by_cases e : k = h
  · subst e
    rw [if_pos rfl, if_pos (by simp [hh])]
  · rw [if_neg e]
    have : ((k : Int) ∈ (zs.take j ++ (some z).toList).map (·.1)) ↔ ((k : Int) ∈ (zs.take j).map (·.1)) := by
      simp only [List.map_append, List.mem_append, Option.toList_some, List.map_cons, List.map_nil, List.mem_singleton]
      constructor
      · rintro (h1 | h1)
        · exact h1
        · omega
      · exact .inl
    simp only [this]
theorem tkU_ge {zs : List (Int × Int)} {t : Int} {j k : Nat} : t ≤ tkU zs t j k := by
  unfold tkU
  split <;> omega
theorem tkU_at {zs : List (Int × Int)} {t : Int} {j h : Nat} {z : Int × Int} (nd : (zs.map (·.1)).Nodup) (hz : zs[j]? = some z) (hh : z.1 = h) : tkU zs t j h = t := by
  unfold tkU
  rw [if_neg]
  intro hm
  obtain ⟨y, hy, e⟩ := List.mem_map.mp hm
  obtain ⟨i, hi⟩ := List.mem_iff_getElem?.mp hy
  have li := (List.getElem?_eq_some_iff.mp hi).1
  rw [List.length_take] at li
  rw [List.getElem?_take_of_lt (by omega)] at hi
  have lj := (List.getElem?_eq_some_iff.mp hz).1
  have := List.pairwise_iff_getElem.mp nd i j (by rw [List.length_map]; omega) (by rw [List.length_map]; omega) (by omega)
  refine this ?_
  rw [List.getElem_map, List.getElem_map]
  have e1 := (List.getElem?_eq_some_iff.mp hi).2
  have e2 := (List.getElem?_eq_some_iff.mp hz).2
  rw [e1, e2, e, hh]
theorem tick_end {p : Pp} {b E : Int → Int} (C : Clock p.pcs.length p.hs p.ws b E) {t : Int} {zs : List (Int × Int)} (pm : zs.Perm (wkF p.hs b E t p.hs.length)) {ats : List (Int × Int)} {left : List Int} (R : RI p.hs b E (tkU zs t zs.length) ats left) : RI p.hs b E (fun _ => t + 1) ats left := by
  refine ri_tick C R (t := t) fun h row hr => ?_
  unfold tkU
  rw [List.take_of_length_le (Nat.le_refl _)]
  by_cases hm : (h : Int) ∈ zs.map (·.1)
  · rw [if_pos hm]
    exact .inl rfl
  · rw [if_neg hm]
    refine .inr ⟨rfl, rfl, fun x hx hw => hm ?_⟩
    refine List.mem_map.mpr ⟨((h : Int), x), pm.mem_iff.mpr ((mem_wkF (Nat.le_refl _)).mpr ⟨h, row, ?_, rfl, hr, hx, hw.1, hw.2⟩), rfl⟩
    exact (List.getElem?_eq_some_iff.mp hr).1
/-! idle ticks -/
def dnF (b E : Int → Int) (x t : Int) : Int := (E x - b x) - lfF b E x t
def sumD (b E : Int → Int) (row : List Int) (t : Int) : Int := (row.map fun x => dnF b E x t).sum
def idF (b E : Int → Int) (row : List Int) (t : Int) : Int := min t (mxd 0 (row.map E)) - sumD b E row t
theorem sumD_step {b E : Int → Int} {t : Int} : ∀ {row : List Int}, (∀ x ∈ row, b x < E x) → row.Pairwise (fun x y => E x ≤ b y) → sumD b E row (t + 1) = sumD b E row t + (if row.any (awk b E t) = true then 1 else 0)
  | [], _, _ => by simp [sumD]
  | x :: row, hb, pw => by
    obtain ⟨p1, p2⟩ := List.pairwise_cons.mp pw
    have ih := sumD_step (t := t) (fun y hy => hb y (List.mem_cons_of_mem _ hy)) p2
    have hx := hb x List.mem_cons_self
    unfold sumD at ih ⊢
    simp only [List.map_cons, List.sum_cons]
    rw [ih]
    by_cases hw : awk b E t x = true
    · have hn : row.any (awk b E t) = false := by
        refine Bool.eq_false_iff.mpr fun h => ?_
        obtain ⟨y, hy, h2⟩ := List.any_eq_true.mp h
        have := p1 y hy
        have h3 := (awk_iff.mp hw).2
        have h4 := (awk_iff.mp h2).1
        omega
      have ha : (x :: row).any (awk b E t) = true := by rw [List.any_cons, hw]; rfl
      rw [if_neg (by rw [hn]; exact Bool.false_ne_true), if_pos ha]
      obtain ⟨h3, h4⟩ := awk_iff.mp hw
      unfold dnF lfF
      omega
    · have hw' : awk b E t x = false := Bool.eq_false_iff.mpr hw
      have hn : ¬ (b x ≤ t ∧ t < E x) := fun h => hw (awk_iff.mpr h)
      have ha : (x :: row).any (awk b E t) = row.any (awk b E t) := by rw [List.any_cons, hw']; rfl
      have : dnF b E x (t + 1) = dnF b E x t := by
        unfold dnF lfF
        omega
      rw [this]
      by_cases hr : row.any (awk b E t) = true
      · rw [if_pos hr, if_pos (ha.trans hr)]
        omega
      · rw [if_neg hr, if_neg (fun z => hr (ha.symm.trans z))]
        omega
theorem idF_step {b E : Int → Int} {t : Int} {row : List Int} (hb : ∀ x ∈ row, b x < E x) (pw : row.Pairwise fun x y => E x ≤ b y) :
    idF b E row (t + 1) = if t < mxd 0 (row.map E) ∧ row.any (awk b E t) = false then idF b E row t + 1 else idF b E row t := by
  unfold idF
  rw [sumD_step hb pw]
  by_cases hw : row.any (awk b E t) = true
  · obtain ⟨y, hy, h2⟩ := List.any_eq_true.mp hw
    have h3 := (awk_iff.mp h2).2
    have h4 : E y ≤ mxd 0 (row.map E) := mxd_ge (List.mem_map.mpr ⟨y, hy, rfl⟩)
    rw [if_pos hw, if_neg (fun h => by rw [hw] at h; cases h.2)]
    omega
  · have hw' : row.any (awk b E t) = false := Bool.eq_false_iff.mpr hw
    rw [if_neg hw]
    by_cases hl : t < mxd 0 (row.map E)
    · rw [if_pos ⟨hl, hw'⟩]
      omega
    · rw [if_neg (fun h => hl h.1)]
      omega
theorem idF_start {b E : Int → Int} {row : List Int} (hb : ∀ x ∈ row, b x < E x) (h0 : ∀ x ∈ row, 0 ≤ b x) : idF b E row 0 = 0 := by
  have s0 : ∀ {row : List Int}, (∀ x ∈ row, b x < E x) → (∀ x ∈ row, 0 ≤ b x) → sumD b E row 0 = 0 := by
    intro row
    induction row with
    | nil => intro _ _; rfl
    | cons x row ih =>
      intro hb h0
      have := ih (fun y hy => hb y (List.mem_cons_of_mem _ hy)) (fun y hy => h0 y (List.mem_cons_of_mem _ hy))
      unfold sumD at this ⊢
      rw [List.map_cons, List.sum_cons, this]
      have h1 := hb x List.mem_cons_self
      have h2 := h0 x List.mem_cons_self
      unfold dnF lfF
      omega
  unfold idF
  rw [s0 hb h0]
  have : 0 ≤ mxd 0 (row.map E) := by
    cases row with
    | nil => exact Int.le_refl 0
    | cons x row =>
      have h1 := hb x List.mem_cons_self
      have h2 := h0 x List.mem_cons_self
      have : E x ≤ mxd 0 ((x :: row).map E) := mxd_ge (List.mem_map.mpr ⟨x, List.mem_cons_self, rfl⟩)
      omega
  omega
theorem idF_end {b E : Int → Int} {row : List Int} {t : Int} (hb : ∀ x ∈ row, b x < E x) (h0 : 0 ≤ t) (he : ∀ x ∈ row, E x ≤ t) : idF b E row t = mxd 0 (row.map E) - (row.map fun x => E x - b x).sum := by
  have s0 : sumD b E row t = (row.map fun x => E x - b x).sum := by
    unfold sumD
    congr 1
    refine List.map_congr_left fun x hx => ?_
    have h1 := hb x hx
    have h2 := he x hx
    unfold dnF lfF
    omega
  unfold idF
  rw [s0]
  have : mxd 0 (row.map E) ≤ t := by
    cases row with
    | nil => exact h0
    | cons x row =>
      obtain ⟨y, hy, e⟩ := List.mem_map.mp (mxd_mem (d := 0) (l := (x :: row).map E) (by simp))
      rw [← e]
      exact he y hy
  omega
theorem at_wk {hs : List (List Int)} {b E : Int → Int} {t : Int} {h : Nat} {row : List Int} (hr : hs[h]? = some row) : ((h : Int) ∈ (wkF hs b E t hs.length).map (·.1)) ↔ row.any (awk b E t) = true := by
  constructor
  · intro hm
    obtain ⟨z, hz, e⟩ := List.mem_map.mp hm
    obtain ⟨h', row', _, h2, h3, h4, h5, h6⟩ := (mem_wkF (Nat.le_refl _)).mp hz
    have : h' = h := by omega
    subst this
    rw [hr] at h3
    cases h3
    exact List.any_eq_true.mpr ⟨z.2, h4, awk_iff.mpr ⟨h5, h6⟩⟩
  · intro ha
    obtain ⟨x, hx, hw⟩ := List.any_eq_true.mp ha
    obtain ⟨h5, h6⟩ := awk_iff.mp hw
    exact List.mem_map.mpr ⟨((h : Int), x), (mem_wkF (Nat.le_refl _)).mpr ⟨h, row, (List.getElem?_eq_some_iff.mp hr).1, rfl, hr, hx, h5, h6⟩, rfl⟩
/-! sums of what is left -/
theorem sum_set : ∀ {l : List Int} {i : Nat} {v : Int}, l[i]? = some v → (l.set i (v - 1)).sum = l.sum - 1
  | [], i, v, h => by simp at h
  | x :: l, 0, v, h => by
    simp only [List.getElem?_cons_zero, Option.some.injEq] at h
    subst h
    simp only [List.set_cons_zero, List.sum_cons]
    omega
  | x :: l, i + 1, v, h => by
    have := sum_set (l := l) (i := i) (by simpa using h)
    simp only [List.set_cons_succ, List.sum_cons]
    omega
theorem sum_ge0 : ∀ {l : List Int}, (∀ x ∈ l, 0 ≤ x) → 0 ≤ l.sum
  | [], _ => Int.le_refl 0
  | x :: l, h => by
    have := sum_ge0 (l := l) fun y hy => h y (List.mem_cons_of_mem _ hy)
    have := h x List.mem_cons_self
    rw [List.sum_cons]
    omega
theorem sum_lens : ∀ {l : List (List Sp2)}, (l.map fun pc => (pc.length : Int)).sum = (l.flatten.length : Int)
  | [] => rfl
  | x :: l => by
    have := sum_lens (l := l)
    simp only [List.map_cons, List.sum_cons, List.flatten_cons, List.length_append]
    omega
theorem ri_left0 {p : Pp} {b E : Int → Int} (C : Clock p.pcs.length p.hs p.ws b E) {u : Nat → Int} {ats : List (Int × Int)} {left : List Int} (ll : left.length = p.pcs.length) (R : RI p.hs b E u ats left) : 0 ≤ left.sum := by
  refine sum_ge0 fun v hv => ?_
  obtain ⟨k, hk⟩ := List.mem_iff_getElem?.mp hv
  have lk := (List.getElem?_eq_some_iff.mp hk).1
  obtain ⟨h, row, i, hr, hx⟩ := C.D.pos (x := (k : Int)) (by omega) (by omega)
  have e := R.l h row i k hr hx
  rw [Int.toNat_natCast, hk] at e
  cases e
  unfold lfF
  omega
end
section
set_option maxHeartbeats 4000000
/-! ### a deal, plainly -/
theorem filter_two {α : Type} {p q r : α → Bool} (h : ∀ x, r x = (p x || q x)) (d : ∀ x, p x = true → q x = false) : ∀ {l : List α}, (l.filter p ++ l.filter q).Perm (l.filter r)
  | [] => by simp
  | x :: l => by
    have ih := filter_two h d (l := l)
    by_cases hp : p x = true
    · have hq := d x hp
      have hr : r x = true := by rw [h, hp]; rfl
      rw [List.filter_cons_of_pos hp, List.filter_cons_of_neg (by rw [hq]; exact Bool.false_ne_true), List.filter_cons_of_pos hr]
      exact ih.cons x
    · have hp' : p x = false := Bool.eq_false_iff.mpr hp
      by_cases hq : q x = true
      · have hr : r x = true := by rw [h, hq]; simp
        rw [List.filter_cons_of_neg hp, List.filter_cons_of_pos hq, List.filter_cons_of_pos hr]
        exact List.perm_middle.trans (ih.cons x)
      · have hr : ¬ r x = true := by rw [h, hp', Bool.eq_false_iff.mpr hq]; simp
        rw [List.filter_cons_of_neg hp, List.filter_cons_of_neg hq, List.filter_cons_of_neg hr]
        exact ih
/-- the pieces of the hand h -/
def rowF (hm : List Int) (n : Nat) (h : Nat) : List Int := ((List.range n).filter fun p => decide (hm.getD p 0 = (h : Int))).map fun (p : Nat) => (p : Int)
def hsF (hm : List Int) (n m : Nat) : List (List Int) := (List.range m).map (rowF hm n)
theorem rowF_up {hm : List Int} {n h : Nat} : (rowF hm n h).Pairwise (· < ·) := by
  unfold rowF
  rw [List.pairwise_map]
  exact List.Pairwise.imp (fun h => Int.ofNat_lt.mpr h) (List.Pairwise.filter _ List.pairwise_lt_range)
theorem hsF_perm {hm : List Int} {n : Nat} (m : Nat) : ((hsF hm n m).flatten).Perm (((List.range n).filter fun p => decide (0 ≤ hm.getD p 0 ∧ hm.getD p 0 < (m : Int))).map fun (p : Nat) => (p : Int)) := by
  induction m with
  | zero =>
    have : (List.range n).filter (fun p => decide (0 ≤ hm.getD p 0 ∧ hm.getD p 0 < ((0 : Nat) : Int))) = [] := by
      rw [List.filter_eq_nil_iff]
      intro a _ h
      have := of_decide_eq_true h
      omega
    rw [this]
    exact List.Perm.refl _
  | succ m ih =>
    have e : hsF hm n (m + 1) = hsF hm n m ++ [rowF hm n m] := by simp [hsF, List.range_succ]
    rw [e, List.flatten_append]
    have e2 : [rowF hm n m].flatten = rowF hm n m := by simp
    rw [e2]
    refine (ih.append_right _).trans ?_
    unfold rowF
    rw [← List.map_append]
    refine List.Perm.map _ (filter_two (fun p => ?_) (fun p h => ?_))
    · rw [← Bool.decide_or]
      refine decide_eq_decide.mpr ?_
      omega
    · have := of_decide_eq_true h
      exact decide_eq_false (by omega)
theorem deal_hs {hm : List Int} {n m : Nat} (hl : hm.length = n) (hv : ∀ v ∈ hm, 0 ≤ v ∧ v < (m : Int)) {ws : List (Int × Int)} (wk : ∀ z ∈ ws, 0 ≤ z.2 ∧ z.2 < z.1 ∧ z.1 < n) : Deal n (hsF hm n m) ws := by
  refine ⟨fun row hr => ?_, (hsF_perm m).trans ?_, wk⟩
  · obtain ⟨h, _, rfl⟩ := List.mem_map.mp hr
    exact rowF_up
  · have : (List.range n).filter (fun p => decide (0 ≤ hm.getD p 0 ∧ hm.getD p 0 < (m : Int))) = List.range n := by
      rw [List.filter_eq_self]
      intro p hp
      rw [List.mem_range] at hp
      have e : hm[p]? = some hm[p] := List.getElem?_eq_getElem (by omega)
      rw [List.getD_eq_getElem?_getD, e, Option.getD_some]
      exact decide_eq_true (hv _ (List.mem_of_getElem? e))
    rw [this]
/-- how many of the reads lie in some pieces -/
def hitF (rd : List Sp2) (pv : List Sp2) : Nat := (rd.filter fun y => decide (y ∈ pv)).length
theorem hitF_le {rd pv : List Sp2} : hitF rd pv ≤ rd.length := List.length_filter_le _ _
theorem hitF_mono {pv pc : List Sp2} : ∀ {rd : List Sp2}, hitF rd pv ≤ hitF rd (pv ++ pc)
  | [] => Nat.le_refl _
  | y :: rd => by
    have ih := hitF_mono (pv := pv) (pc := pc) (rd := rd)
    unfold hitF at ih ⊢
    by_cases h : y ∈ pv
    · rw [List.filter_cons_of_pos (by simpa using h), List.filter_cons_of_pos (by simp [h])]
      simp only [List.length_cons]
      omega
    · rw [List.filter_cons_of_neg (by simpa using h)]
      by_cases h2 : y ∈ pc
      · rw [List.filter_cons_of_pos (by simp [h2])]
        simp only [List.length_cons]
        omega
      · rw [List.filter_cons_of_neg (by simp [h, h2])]
        exact ih
theorem hitF_step {pv pc : List Sp2} (d : ∀ y ∈ pc, y ∉ pv) : ∀ {rd : List Sp2}, (∃ y ∈ rd, y ∈ pc) → hitF rd pv + 1 ≤ hitF rd (pv ++ pc)
  | [], h => by obtain ⟨y, hy, _⟩ := h; cases hy
  | y :: rd, h => by
    have mono := hitF_mono (pv := pv) (pc := pc) (rd := rd)
    have ih := hitF_step d (rd := rd)
    unfold hitF at ih mono ⊢
    by_cases h2 : y ∈ pc
    · have h1 := d y h2
      rw [List.filter_cons_of_neg (by simpa using h1), List.filter_cons_of_pos (by simp [h2])]
      simp only [List.length_cons]
      omega
    · have hr : ∃ y ∈ rd, y ∈ pc := by
        obtain ⟨z, hz, hz2⟩ := h
        rcases List.mem_cons.mp hz with e | e
        · rw [e] at hz2; exact absurd hz2 h2
        · exact ⟨z, e, hz2⟩
      have := ih hr
      by_cases h1 : y ∈ pv
      · rw [List.filter_cons_of_pos (by simpa using h1), List.filter_cons_of_pos (by simp [h1])]
        simp only [List.length_cons]
        omega
      · rw [List.filter_cons_of_neg (by simpa using h1), List.filter_cons_of_neg (by simp [h1, h2])]
        exact this
theorem pcs_disj {pcs : List (List Sp2)} (nd : (pcs.flatten).Nodup) {q : Nat} {pc : List Sp2} (hq : pcs[q]? = some pc) : ∀ y ∈ pc, y ∉ (pcs.take q).flatten := by
  intro y hy hm
  obtain ⟨pc', h1, h2⟩ := List.mem_flatten.mp hm
  obtain ⟨i, hi⟩ := List.mem_iff_getElem?.mp h1
  have li := (List.getElem?_eq_some_iff.mp hi).1
  rw [List.length_take] at li
  rw [List.getElem?_take_of_lt (by omega)] at hi
  obtain ⟨l1, e1⟩ := List.getElem?_eq_some_iff.mp hi
  obtain ⟨l2, e2⟩ := List.getElem?_eq_some_iff.mp hq
  have := List.pairwise_iff_getElem.mp (List.pairwise_flatten.mp nd).2 i q l1 l2 (by omega)
  rw [e1, e2] at this
  exact this y h2 y hy rfl
end
section
set_option maxHeartbeats 4000000
/-! ### times_of -/
def tmF (E : Int → Int) (lens : List Int) : List (Int × Int) := (List.range lens.length).map fun (i : Nat) => (E i - lens.getD i 0, E i)
theorem bhF_take {ws : List (Int × Int)} {i : Nat} {z : Int × Int} {x : Int} (h : ws[i]? = some z) : bhF (ws.take (i + 1)) x = bhF (ws.take i) x ++ (if z.1 = x then [z.2] else []) := by
  rw [List.take_add_one, h]
  unfold bhF
  by_cases e : z.1 = x
  · simp [e]
  · simp [e]
/-- the dict of waits under way: its lists are new, each key has its own -/
def BhG (H0 H : Hp) (d : Addr) (n : Nat) (bh : Int → List Int) : Prop := ∃ kvs : List (Key × V), H d = some (.dK kvs) ∧ kvs.length ≤ n ∧ (∀ p, valV kvs (Sum.inl p : Key) = none → bh p = []) ∧
  (∀ p v, valV kvs (Sum.inl p : Key) = some v → ∃ l, v = .ref l ∧ H0 l = none ∧ H l = some (.lst ((bh p).map V.int))) ∧ ∀ p p' l, valV kvs (Sum.inl p : Key) = some (.ref l) → valV kvs (Sum.inl p' : Key) = some (.ref l) → p = p'
theorem BhG.bhA {H0 H : Hp} {d : Addr} {n : Nat} {bh : Int → List Int} (h : BhG H0 H d n bh) : BhA H d bh := by
  obtain ⟨kvs, h1, h2, h3, h4, h5⟩ := h
  exact ⟨kvs, h1, h3, fun p v e => by obtain ⟨l, a, b, c⟩ := h4 p v e; exact ⟨l, a, c⟩⟩
/-- the state of the walk: G is the heap ahead of it -/
structure TsG (G H : Hp) (bd ed ll cl : Addr) (las : List Addr) (hs : List (List Int)) (lens : List Int) (E : Int → Int) (ix : List Nat) (en : Int → Option Int) : Prop where
  s : Same G H
  il : ix.length = hs.length
  hll : H ll = some (.lst (las.map V.ref))
  hla : ∀ (h : Nat) (a : Addr) (row : List Int) (i : Nat), las[h]? = some a → hs[h]? = some row → ix[h]? = some i → i ≤ row.length ∧ H a = some (.lst ((row.drop i).map V.int))
  hcl : ∃ cs : List Int, cs.length = hs.length ∧ H cl = some (.lst (cs.map V.int)) ∧ ∀ (h : Nat) (row : List Int) (i : Nat), hs[h]? = some row → ix[h]? = some i → cs[h]? = some (clkF E row i)
  hbd : ∃ kb : List (Key × V), H bd = some (.dK kb) ∧ kb.length + remF hs ix ≤ lens.length ∧ ∀ (h : Nat) (row : List Int) (i j : Nat) (x : Int), hs[h]? = some row → ix[h]? = some i → row[j]? = some x → j < i → valV kb (Sum.inl x : Key) = some (.int (E x - lens.getD x.toNat 0))
  hed : ∃ ke : List (Key × V), H ed = some (.dK ke) ∧ ke.length + remF hs ix = lens.length ∧ (∀ p, valV ke (Sum.inl p : Key) = (en p).map V.int)
  hen : ∀ (h : Nat) (row : List Int) (i j : Nat) (x : Int), hs[h]? = some row → ix[h]? = some i → row[j]? = some x → en x = if j < i then some (E x) else none
theorem TsG.ext {G H H' : Hp} {bd ed ll cl : Addr} {las : List Addr} {hs : List (List Int)} {lens : List Int} {E : Int → Int} {ix : List Nat} {en : Int → Option Int} (t : TsG G H bd ed ll cl las hs lens E ix en) (e : Same H H') : TsG G H' bd ed ll cl las hs lens E ix en :=
  ⟨t.s.trans e, t.il, e _ _ t.hll, fun h a row i x y z => ⟨(t.hla h a row i x y z).1, e _ _ (t.hla h a row i x y z).2⟩, by obtain ⟨cs, a, b, c⟩ := t.hcl; exact ⟨cs, a, e _ _ b, c⟩,
    by obtain ⟨kb, a, b, c⟩ := t.hbd; exact ⟨kb, e _ _ a, b, c⟩, by obtain ⟨kb, a, b, c⟩ := t.hed; exact ⟨kb, e _ _ a, b, c⟩, t.hen⟩
theorem remF_all0 : ∀ {hs : List (List Int)} {ix : List Nat}, remF hs ix = 0 → ∀ {h : Nat} {row : List Int} {i : Nat}, hs[h]? = some row → ix[h]? = some i → row.length ≤ i
  | [], _, _, h, row, i, e, _ => by simp at e
  | _ :: _, [], _, h, row, i, _, e => by simp at e
  | r :: hs, j :: ix, e, 0, row, i, h1, h2 => by
    simp only [List.getElem?_cons_zero, Option.some.injEq] at h1 h2
    subst h1 h2
    simp only [remF] at e
    omega
  | r :: hs, j :: ix, e, h + 1, row, i, h1, h2 => by
    simp only [remF] at e
    exact remF_all0 (hs := hs) (ix := ix) (by omega) (by simpa using h1) (by simpa using h2)
/-- the places of the state that change -/
structure TsN (G : Hp) (bd ed ll cl : Addr) (las : List Addr) : Prop where
  nb : G bd = none
  ne : G ed = none
  nc : G cl = none
  na : ∀ a ∈ las, G a = none ∧ a ≠ ll ∧ a ≠ cl
  nd : las.Nodup
  be : bd ≠ ed
  lc : ll ≠ cl
theorem rep0 {n h i : Nat} (e : (List.replicate n 0)[h]? = some i) : i = 0 := (List.mem_replicate.mp (List.mem_of_getElem? e)).2
/-- a piece is done -/
theorem TsG.put {G H H1 H2 H3 H4 : Hp} {bd ed ll cl : Addr} {las : List Addr} {hs : List (List Int)} {lens : List Int} {E : Int → Int} {ix : List Nat} {en : Int → Option Int} {n : Nat} {ws : List (Int × Int)} (D : Deal n hs ws)
    (t : TsG G H bd ed ll cl las hs lens E ix en) (N : TsN G bd ed ll cl las) (ll1 : las.length = hs.length) {j : Nat} {row : List Int} {i : Nat} {x : Int} {a : Addr} (hrow : hs[j]? = some row) (hi : ix[j]? = some i) (hx : row[i]? = some x) (ha : las[j]? = some a) {kb ke : List (Key × V)} {cs : List Int}
    (hkb : H bd = some (.dK kb)) (hke : H ed = some (.dK ke)) (hcs : H cl = some (.lst (cs.map V.int)))
    (k1 : Keep [a] H H1) (h1 : H1 a = some (.lst ((row.drop (i + 1)).map V.int))) (k2 : Keep [bd] H1 H2) (h2 : H2 bd = some (.dK (putK kb (Sum.inl x : Key) (.int (E x - lens.getD x.toNat 0)))))
    (k3 : Keep [ed] H2 H3) (h3 : H3 ed = some (.dK (putK ke (Sum.inl x : Key) (.int (E x))))) (k4 : Keep [cl] H3 H4) (h4 : H4 cl = some (.lst ((cs.map V.int).set j (V.int (E x))))) :
    TsG G H4 bd ed ll cl las hs lens E (ix.set j (i + 1)) (fun y => if y = x then some (E x) else en y) := by
  have hjl := (List.getElem?_eq_some_iff.mp hrow).1
  have hil := (List.getElem?_eq_some_iff.mp hx).1
  have am := List.mem_of_getElem? ha
  obtain ⟨ga, gl, gc⟩ := N.na a am
  obtain ⟨_, hla⟩ := t.hla j a row i ha hrow hi
  have hr := remF_set hrow hi hil
  have nab : a ≠ bd := ne_of hla hkb (fun z => nomatch z)
  have nae : a ≠ ed := ne_of hla hke (fun z => nomatch z)
  have nlb : ll ≠ bd := ne_of t.hll hkb (fun z => nomatch z)
  have nle : ll ≠ ed := ne_of t.hll hke (fun z => nomatch z)
  have ncb : cl ≠ bd := ne_of hcs hkb (fun z => nomatch z)
  have nce : cl ≠ ed := ne_of hcs hke (fun z => nomatch z)
  have up : ∀ b o, H b = some o → b ≠ a → b ≠ bd → b ≠ ed → b ≠ cl → H4 b = some o := fun b o e n1 n2 n3 n4 => k4 _ _ (k3 _ _ (k2 _ _ (k1 _ _ e (nin1 n1)) (nin1 n2)) (nin1 n3)) (nin1 n4)
  have ixs : ∀ (h' i' : Nat), (ix.set j (i + 1))[h']? = some i' → (h' = j ∧ i' = i + 1) ∨ (h' ≠ j ∧ ix[h']? = some i') := fun h' i' e => by
    rw [List.getElem?_set] at e
    by_cases hh : j = h'
    · subst hh
      rw [if_pos rfl] at e
      split at e
      · cases e; exact .inl ⟨rfl, rfl⟩
      · cases e
    · rw [if_neg hh] at e
      exact .inr ⟨fun z => hh z.symm, e⟩
  -- a done piece: the new one or an old one
  have old : ∀ (h' : Nat) (row' : List Int) (i' j' : Nat) (y : Int), hs[h']? = some row' → (ix.set j (i + 1))[h']? = some i' → row'[j']? = some y → y ≠ x → ∃ i0, ix[h']? = some i0 ∧ (j' < i' ↔ j' < i0) := fun h' row' i' j' y e1 e2 e3 hy => by
    rcases ixs h' i' e2 with ⟨q1, q2⟩ | ⟨q1, q2⟩
    · subst q1
      rw [hrow] at e1
      cases e1
      refine ⟨i, hi, ?_⟩
      have : j' ≠ i := fun z => by rw [z, hx] at e3; cases e3; exact hy rfl
      omega
    · exact ⟨i', q2, Iff.rfl⟩
  have new : ∀ (h' : Nat) (row' : List Int) (i' j' : Nat), hs[h']? = some row' → (ix.set j (i + 1))[h']? = some i' → row'[j']? = some x → j' < i' := fun h' row' i' j' e1 e2 e3 => by
    obtain ⟨rfl, rfl, rfl⟩ := D.uniq hrow hx e1 e3
    rcases ixs j i' e2 with ⟨q1, q2⟩ | ⟨q1, q2⟩
    · omega
    · exact absurd rfl q1
  refine ⟨same_of_new (same_of_new (same_of_new (same_of_new t.s ga k1) N.nb k2) N.ne k3) N.nc k4, by rw [List.length_set]; exact t.il, up _ _ t.hll (fun z => gl z.symm) nlb nle N.lc, fun h' a' row' i' e1 e2 e3 => ?_, ⟨cs.set j (E x), ?_, by rw [List.map_set]; exact h4, fun h' row' i' e1 e2 => ?_⟩, ?_, ?_, fun h' row' i' j' y e1 e2 e3 => ?_⟩
  · rcases ixs h' i' e3 with ⟨q1, q2⟩ | ⟨q1, q2⟩
    · subst q1
      rw [ha] at e1
      cases e1
      rw [hrow] at e2
      cases e2
      subst q2
      exact ⟨by omega, k4 _ _ (k3 _ _ (k2 _ _ h1 (nin1 nab)) (nin1 nae)) (nin1 gc)⟩
    · obtain ⟨g1, g2⟩ := t.hla h' a' row' i' e1 e2 q2
      have naa : a' ≠ a := fun z => by
        subst z
        obtain ⟨l1, x1⟩ := List.getElem?_eq_some_iff.mp e1
        obtain ⟨l2, x2⟩ := List.getElem?_eq_some_iff.mp ha
        rcases Nat.lt_trichotomy h' j with y | y | y
        · exact List.pairwise_iff_getElem.mp N.nd h' j l1 l2 y (x1.trans x2.symm)
        · exact q1 y
        · exact List.pairwise_iff_getElem.mp N.nd j h' l2 l1 y (x2.trans x1.symm)
      exact ⟨g1, up _ _ g2 naa (ne_of g2 hkb (fun z => nomatch z)) (ne_of g2 hke (fun z => nomatch z)) (N.na a' (List.mem_of_getElem? e1)).2.2⟩
  · obtain ⟨cs', c1, c2, c3⟩ := t.hcl
    rw [List.length_set]
    have e : cs.map V.int = cs'.map V.int := by
      have := hcs.symm.trans c2
      simpa using this
    have := congrArg List.length e
    simp only [List.length_map] at this
    omega
  · obtain ⟨cs', c1, c2, c3⟩ := t.hcl
    have e : cs = cs' := by
      have := hcs.symm.trans c2
      have : cs.map V.int = cs'.map V.int := by simpa using this
      exact (List.map_inj_right (fun a b h => by cases h; rfl)).mp this
    subst e
    rw [List.getElem?_set]
    rcases ixs h' i' e2 with ⟨q1, q2⟩ | ⟨q1, q2⟩
    · subst q1
      rw [hrow] at e1
      cases e1
      subst q2
      rw [if_pos rfl, if_pos (by omega)]
      simp [clkF, hx]
    · rw [if_neg (fun z => q1 z.symm)]
      exact c3 h' row' i' e1 q2
  · obtain ⟨kb', b1, b2, b3⟩ := t.hbd
    have e : kb = kb' := by
      have := hkb.symm.trans b1
      simpa using this
    subst e
    refine ⟨_, k4 _ _ (k3 _ _ h2 (nin1 N.be)) (nin1 ncb.symm), ?_, fun h' row' i' j' y e1 e2 e3 hlt => ?_⟩
    · have := length_putK kb (Sum.inl x : Key) (V.int (E x - lens.getD x.toNat 0))
      omega
    · rw [valV_put]
      by_cases hy : y = x
      · rw [hy, if_pos rfl]
      · rw [if_neg (fun z => hy (by cases z; rfl))]
        obtain ⟨i0, q1, q2⟩ := old h' row' i' j' y e1 e2 e3 hy
        exact b3 h' row' i0 j' y e1 q1 e3 (q2.mp hlt)
  · obtain ⟨ke', b1, b2, b3⟩ := t.hed
    have e : ke = ke' := by
      have := hke.symm.trans b1
      simpa using this
    subst e
    have hn : valV ke (Sum.inl x : Key) = none := by
      rw [b3 x, t.hen j row i i x hrow hi hx, if_neg (by omega)]
      rfl
    refine ⟨_, k4 _ _ h3 (nin1 nce.symm), ?_, fun y => ?_⟩
    · rw [putK_new _ hn, List.length_append]
      simp only [List.length_cons, List.length_nil]
      omega
    · rw [valV_put]
      by_cases hy : y = x
      · rw [hy, if_pos rfl]
        simp
      · rw [if_neg (fun z => hy (by cases z; rfl)), b3 y]
        simp [hy]
  · by_cases hy : y = x
    · subst hy
      simp only [if_true]
      rw [if_pos (new h' row' i' j' e1 e2 e3)]
    · obtain ⟨i0, q1, q2⟩ := old h' row' i' j' y e1 e2 e3 hy
      rw [if_neg hy, t.hen h' row' i0 j' y e1 q1 e3]
      by_cases hj : j' < i'
      · rw [if_pos hj, if_pos (q2.mp hj)]
      · rw [if_neg hj, if_neg (fun z => hj (q2.mpr z))]
def TsW (l p r d bd ed ll cl : Addr) (b c : Option V) (G : Hp) (las : List Addr) (hs : List (List Int)) (lens : List Int) (E : Int → Int) (m : Nat) (σ : L2.St) (H : Hp) : Prop := ∃ (ix : List Nat) (en : Int → Option Int) (mv : Bool) (x1 x2 x3 : Option V), TsG G H bd ed ll cl las hs lens E ix en ∧
  m = 2 * remF hs ix + (if mv = true then 1 else 0) ∧ (mv = false → remF hs ix = 0) ∧ σ = [some (.ref l), some (.ref p), some (.ref r), some (.ref d), b, c, some (.ref bd), some (.ref ed), some (.ref ll), some (.ref cl), some (.bl mv), x1, x2, x3, none]
section
variable {P : Program} {w : World} {K : PySem.W.Frag} {mg : Str → Option Value} {base : Heap}
def spTimes : Sp := fun vs H Q _ => ∃ (l p r : Addr) (lens : List Int) (hs : List (List Int)) (ws : List (Int × Int)) (E : Int → Int), vs = [.ref l, .ref p, .ref r] ∧ LIn H l lens ∧ LO PrA H p ws ∧ LO LIn H r hs ∧ lens.length ≤ 60 ∧ ws.length ≤ 400 ∧ hs.length ≤ 4 ∧
  Deal lens.length hs ws ∧ TimesOk (fun x => lens.getD x.toNat 0) hs ws E ∧ ∀ H' f, Same H H' → H f = none → LO PrA H' f (tmF E lens) → Q (.ref f) H'
theorem sc1 : FnScope ["lasts", "pairs", "rows", "behind", "one", "other", "begins", "ends", "left", "clocks", "moved", "hand", "begin", "piece", "row"] ["lasts", "pairs", "rows"] (C8.fnScope st1) := C8.fnScope_by (by decide +kernel)
theorem ok_times_of (T : Txt K mg) : C8.Cal P w K mg base 2 "times_of" spTimes [] := by
  refine cal_by (k := 1) (T.df 1 _ rfl) (g_times_of T) sc1 (fun _ _ _ _ us hl => match us, hl with | [_, _, _], _ => rfl) (fun vs H Q E h => ?_) (fun A outer s H vs Q E0 hr o h => ?_)
  · obtain ⟨l, p, r, lens, hs, ws, E, rfl, _⟩ := h
    rfl
  · obtain ⟨l, p, r, lens, hs, ws, E, rfl, hlens, ⟨as, a1, a2, a3⟩, ⟨bs, b1, b2, b3⟩, hn, hw, hh, D, TO, q⟩ := h
    have hln : H l = some (.lst (lens.map V.int)) := hlens
    refine ⟨_, (pss_cons (ps_set (i := 3) (sc1).nd rfl (by first | exact Or.inl rfl | exact Or.inr rfl) pe_dnewK)
      (pss_cons (ps_for PassesOwn.never rfl (pi_listZ o (pv 1)) (pg_tupZ (n := 2) o (pgs_cons (pg_name (i := 4) (sc1).nd (by rfl) (by first | exact Or.inl rfl | exact Or.inr rfl)) (pgs_cons (pg_name (i := 5) (sc1).nd (by rfl) (by first | exact Or.inl rfl | exact Or.inr rfl)) pgs_nil))) (pss_one (ps_expr (pe_bmZ o PySem.F.plainAttrs_list PySem.F.slot_list_append PySem.F.type_list_append (mt_self o) (pe_mn (pe_dsetd (pe_mn (pv 3)) (pe_mn (pv 4)) (pe_mn (pe_lst (pa_mn pa_nil))) ⟨rfl, rfl, rfl, rfl⟩)) (pa_cons (pv 5) pa_nil)))))
      (pss_cons (ps_set (i := 6) (sc1).nd rfl (by first | exact Or.inl rfl | exact Or.inr rfl) pe_dnewK)
      (pss_cons (ps_set (i := 7) (sc1).nd rfl (by first | exact Or.inl rfl | exact Or.inr rfl) pe_dnewK)
      (pss_cons (ps_setLc (i := 8) (own := [("row", 14)]) rfl (sc1).nd rfl rfl (sw_true rfl rfl rfl (by decide +kernel)) (pi_listZ o (pv 2)) (blkOk_by (own := [("row", 14)]) (by kernel_rfl)) (fun _ _ _ _ _ => pg_mn (pg_name (i := 14) (sc1).nd (by rfl) (by first | exact Or.inl rfl | exact Or.inr rfl))) (fun _ _ _ _ _ => pts_mn pts_nil) (fun _ _ _ _ _ => pe_mn (pe_callTy (cr_self o.blk) (by rfl) (z_list T) b_list (pa_cons (pv 14) pa_nil))))
      (pss_cons (ps_setLc (i := 9) (own := [("row", 14)]) rfl (sc1).nd rfl rfl (sw_true rfl rfl rfl (by decide +kernel)) (pi_listZ o (pv 2)) (blkOk_by (own := [("row", 14)]) (by kernel_rfl)) (fun _ _ _ _ _ => pg_mn (pg_name (i := 14) (sc1).nd (by rfl) (by first | exact Or.inl rfl | exact Or.inr rfl))) (fun _ _ _ _ _ => pts_mn pts_nil) (fun _ _ _ _ _ => pe_mn pe_int))
      (pss_cons (ps_set (i := 10) (sc1).nd rfl (by first | exact Or.inl rfl | exact Or.inr rfl) pe_bl)
      (pss_cons (ps_while PassesOwn.never (pt_val (pv 10)) (pss_cons (ps_set (i := 10) (sc1).nd rfl (by first | exact Or.inl rfl | exact Or.inr rfl) pe_bl)
      (pss_one (ps_for PassesOwn.never rfl (pi_range1 (by rfl) (z_range T) (pa_cons (pe_callB (cr_self o) (by rfl) (z_len T) b_len (pa_cons (pv 8) pa_nil)) pa_nil)) (pg_name (i := 11) (sc1).nd (by rfl) (by first | exact Or.inl rfl | exact Or.inr rfl)) (pss_cons (ps_set (i := 12) (sc1).nd rfl (by first | exact Or.inl rfl | exact Or.inr rfl) pe_non)
      (pss_cons (ps_if (pt_cmpR (op_self o) (pe_ix (ix_self o) (pv 8) (pv 11) (fun _ _ => rfl)) (pe_lst (pa_mn pa_nil)) (nomark _)) (pss_one (ps_set (i := 12) (sc1).nd rfl (by first | exact Or.inl rfl | exact Or.inr rfl) (C8.pe_c (ok_next_begin (P := P) (w := w) T) hr (by decide) (by rfl) (pa_cons (pe_ix (ix_self o) (pe_ix (ix_self o) (pv 8) (pv 11) (fun _ _ => rfl)) pe_int (fun _ _ => rfl)) (pa_cons (pv 3) (pa_cons (pv 7) (pa_cons (pe_ix (ix_self o) (pv 9) (pv 11) (fun _ _ => rfl)) pa_nil))))))) pss_nil)
      (pss_one (ps_if (pt_cmpR (op_self o) (pv 12) pe_non (nomark _)) (pss_cons (ps_set (i := 13) (sc1).nd rfl (by first | exact Or.inl rfl | exact Or.inr rfl) (pe_bmZ o PySem.F.plainAttrs_list PySem.F.slot_list_pop PySem.F.type_list_pop (mt_self o) (pe_mn (pe_ix (ix_self o) (pv 8) (pv 11) (fun _ _ => rfl))) (pa_cons pe_int pa_nil)))
      (pss_cons (ps_asg (pv 12) (pg_sub (pv 6) (pv 13) (set_self o)))
      (pss_cons (ps_asg (pe_op (op_self o) (pv 12) (pe_ix (ix_self o) (pv 0) (pv 13) (fun _ _ => rfl))) (pg_sub (pv 7) (pv 13) (set_self o)))
      (pss_cons (ps_asg (pe_dget o.hu1 (pv 7) (pv 13) (fun _ _ => rfl)) (pg_sub (pv 9) (pv 11) (set_self o)))
      (pss_one (ps_set (i := 10) (sc1).nd rfl (by first | exact Or.inl rfl | exact Or.inr rfl) pe_bl)))))) pss_nil))))))))
      (pss_cons (ps_if (pt_cmpR (op_self o) (pe_callB (cr_self o) (by rfl) (z_len T) b_len (pa_cons (pv 7) pa_nil)) (pe_callB (cr_self o) (by rfl) (z_len T) b_len (pa_cons (pv 0) pa_nil)) (nomark _)) (pss_one ps_never) pss_nil)
      (pss_one (ps_ret (pe_lc (own := [("piece", 13)]) rfl (sc1).nd (pi_range1 (by rfl) (z_range T) (pa_cons (pe_callB (cr_self o) (by rfl) (z_len T) b_len (pa_cons (pv 0) pa_nil)) pa_nil)) (blkOk_by (own := [("piece", 13)]) (by kernel_rfl)) (fun _ _ _ _ _ => pg_mn (pg_name (i := 13) (sc1).nd (by rfl) (by first | exact Or.inl rfl | exact Or.inr rfl))) (fun _ _ _ _ _ => pts_mn pts_nil) (fun _ _ _ _ _ => pe_mn (pe_tup (pa_mn (pa_cons (pe_dget o.blk.hu1 (pv 6) (pv 13) (fun _ _ => rfl)) (pa_cons (pe_dget o.blk.hu1 (pv 7) (pv 13) (fun _ _ => rfl)) pa_nil))))))))))))))))), ?_⟩
    walk_at "go"
    refine fun d H1 n1 s1 h1 => ?_
    have a1' := s1 _ _ a1
    walk_at "go"
    refine forL (a := p) (xs := as.map V.ref) (fun i σ H' => Same H H' ∧ BhG H H' d i (bhF (ws.take i)) ∧ ∃ b c : Option V, σ = [some (.ref l), some (.ref p), some (.ref r), some (.ref d), b, c, none, none, none, none, none, none, none, none, none]) ⟨s1, ⟨[], h1, Nat.le_refl _, fun _ _ => rfl, fun _ _ e => (by cases e), fun _ _ _ e => (by cases e)⟩, none, none, rfl⟩ (fun i σ H' hi ⟨e, _⟩ => e _ _ a1) (fun i x σ H2 hx ⟨s2, hb, b, c, es⟩ => ?_) (fun σ H2 ⟨s2, hb, b, c, es⟩ => ?_)
    · subst es
      obtain ⟨a, ha, rfl⟩ := map_at hx
      have hi := (List.getElem?_eq_some_iff.mp ha).1
      obtain ⟨z, hz⟩ : ∃ z, ws[i]? = some z := ⟨_, List.getElem?_eq_getElem (by omega)⟩
      have hza : H2 a = some (.tup [.int z.1, .int z.2]) := s2 _ _ (a3 i a z ha hz)
      obtain ⟨kvs, hd2, hkl, k0, k1, k2⟩ := hb
      walk_at "go"
      refine ⟨d, kvs, rfl, hd2, ?_⟩
      walk_at "go"
      refine ⟨len0, fun e0 H3 n3 s3 h3 => ?_⟩
      have hd3 := s3 _ _ hd2
      refine ⟨d, kvs, Sum.inl z.1, rfl, hd3, rfl, small1000 (by omega), fun v hv => ?_, fun hv => ?_⟩
      · obtain ⟨lv, rfl, nlv, hlv⟩ := k1 _ _ hv
        have hlv3 := s3 _ _ hlv
        walk_at "go"
        refine v_app hlv3 (small1000 ?_) fun H4 k4 h4 => ?_
        · rw [List.length_map]
          unfold bhF
          rw [List.length_map]
          exact Nat.le_trans (List.length_filter_le _ _) (by rw [List.length_take]; omega)
        walk_at "go"
        refine ⟨same_of_new (s2.trans s3) nlv k4, ⟨kvs, k4 _ _ hd3 (nin1 (ne_of hd3 hlv3 (fun z => nomatch z))), by omega, fun p' hp' => ?_, fun p' v' hp' => ?_, k2⟩, _, _, rfl⟩
        · rw [bhF_take hz, k0 p' hp', if_neg (fun e => by rw [e, hp'] at hv; cases hv)]
          rfl
        · obtain ⟨l', rfl, nl', hl'⟩ := k1 _ _ hp'
          refine ⟨l', rfl, nl', ?_⟩
          rw [bhF_take hz]
          by_cases e : z.1 = p'
          · subst e
            rw [hv] at hp'
            cases hp'
            rw [if_pos rfl, h4]
            simp
          · rw [if_neg e, List.append_nil]
            refine k4 _ _ (s3 _ _ hl') (nin1 fun e2 => e ?_)
            subst e2
            exact k2 _ _ _ hv hp'
      · have kd : Keep [d] H3 (L2.upd H3 d (.dK (putK kvs (Sum.inl z.1 : Key) (.ref e0)))) := Keep.upd (List.mem_singleton.mpr rfl)
        have ed : e0 ≠ d := fun z => by rw [z, hd2] at n3; cases n3
        have e0' := kd _ _ h3 (nin1 ed)
        have hd' : L2.upd H3 d (.dK (putK kvs (Sum.inl z.1 : Key) (.ref e0))) d = some (.dK (putK kvs (Sum.inl z.1 : Key) (.ref e0))) := upd_same
        generalize L2.upd H3 d (.dK (putK kvs (Sum.inl z.1 : Key) (.ref e0))) = H3' at kd e0' hd' ⊢
        have s3' : Same H H3' := same_of_new (s2.trans s3) n1 kd
        walk_at "go"
        refine v_app e0' (small1000 (by simp)) fun H4 k4 h4 => ?_
        walk_at "go"
        refine ⟨same_of_new s3' (s2.free n3) k4, ⟨_, k4 _ _ hd' (nin1 ed.symm), Nat.le_trans (length_putK _ _ _) (by omega), fun p' hp' => ?_, fun p' v' hp' => ?_, fun p' p'' l' e1 e2 => ?_⟩, _, _, rfl⟩
        · rw [valV_put] at hp'
          split at hp'
          · cases hp'
          · rename_i hne
            rw [bhF_take hz, k0 p' hp', if_neg (fun e => hne (by rw [e]))]
            rfl
        · rw [valV_put] at hp'
          rw [bhF_take hz]
          split at hp'
          · rename_i he
            cases hp'
            cases he
            refine ⟨e0, rfl, s2.free n3, ?_⟩
            rw [k0 _ hv, if_pos rfl, h4]
            rfl
          · rename_i hne
            obtain ⟨l', rfl, nl', hl'⟩ := k1 _ _ hp'
            refine ⟨l', rfl, nl', ?_⟩
            rw [if_neg (fun e => hne (by rw [e])), List.append_nil]
            exact k4 _ _ (kd _ _ (s3 _ _ hl') (nin1 (ne_of hl' hd2 (fun z => nomatch z)))) (nin1 (ne_of_none hl' n3))
        · rw [valV_put] at e1 e2
          split at e1
          · rename_i h1
            split at e2
            · rename_i h2
              cases h1
              cases h2
              rfl
            · cases e1
              obtain ⟨l', e3, nl', hl'⟩ := k1 _ _ e2
              cases e3
              rw [hl'] at n3
              cases n3
          · split at e2
            · cases e2
              obtain ⟨l', e3, nl', hl'⟩ := k1 _ _ e1
              cases e3
              rw [hl'] at n3
              cases n3
            · exact k2 _ _ _ e1 e2
    · subst es
      rw [List.length_map, a2, List.take_of_length_le (Nat.le_refl _)] at hb
      have BH := hb.bhA
      walk_at "go"
      refine fun bd H3 n3 s3 h3 => ?_
      walk_at "go"
      refine fun ed H4 n4 s4 h4 => ?_
      have s24 := s3.trans s4
      have b1' := (s2.trans s24) _ _ b1
      have hl0 := remF_zero (hs := hs)
      have hl1 := D.hp.length_eq
      rw [List.length_map, List.length_range] at hl1
      walk_at "go"
      refine lcL (a := r) (xs := bs.map V.ref) [] (fun D' i acc H' => ∃ rs : List Addr, acc = rs.map V.ref ∧ rs.length = i ∧ rs.Nodup ∧ (∀ a ∈ rs, H4 a = none ∧ H' a ≠ none ∧ a ≠ D') ∧ ∀ (i : Nat) (a : Addr) (z : List Int), rs[i]? = some a → hs[i]? = some z → LIn H' a z) (by rw [List.length_map]; omega) b1' (by simp) (fun D' H' nD sD hD => ⟨[], rfl, rfl, List.nodup_nil, by simp, by simp⟩) (fun D' i v acc H5 nD hx' hlj k5 hD ⟨rs, ea, el, nd, hrn, hrs⟩ => ?_) (fun D' acc H5 nD hl5 k5 hD ⟨rs, ea, el, nd, hrn, hrs⟩ => ?_)
      · have s5 := keep0 k5
        obtain ⟨a, ha, rfl⟩ := map_at hx'
        have hi := (List.getElem?_eq_some_iff.mp ha).1
        obtain ⟨row, hrow⟩ : ∃ row, hs[i]? = some row := ⟨_, List.getElem?_eq_getElem (by omega)⟩
        have hka : H5 a = some (.lst (row.map V.int)) := s5 _ _ (s24 _ _ (s2 _ _ (b3 i a row ha hrow)))
        walk_at "go"
        refine v_listL hka fun c H6 n6 s6 h6 => ?_
        have cD : c ≠ D' := fun z => by rw [z, hD] at n6; cases n6
        have hD6 := s6 _ _ hD
        refine ⟨hD6, same_k0 (s5.trans s6), fun H7 k7 h7 => ⟨rs ++ [c], by rw [ea]; simp, by simp [el], ?_, fun a' ha' => ?_, fun i' a' z e1 e2 => ?_⟩⟩
        · rw [List.nodup_append]
          refine ⟨nd, by simp, fun x hx y hy => ?_⟩
          rw [List.mem_singleton.mp hy]
          exact fun z => (hrn x hx).2.1 (by rw [z]; exact n6)
        · rcases List.mem_append.mp ha' with z1 | z1
          · obtain ⟨g1, g2, g3⟩ := hrn a' z1
            obtain ⟨o', ho'⟩ := Option.ne_none_iff_exists'.mp g2
            exact ⟨g1, by rw [k7 _ _ (s6 _ _ ho') (nin1 g3)]; simp, g3⟩
          · rw [List.mem_singleton.mp z1]
            exact ⟨s5.free n6, by rw [k7 _ _ h6 (nin1 cD)]; simp, cD⟩
        · rcases app_at e1 with q1 | ⟨q1, q2⟩
          · exact k7 _ _ (s6 _ _ (hrs i' a' z q1 e2)) (nin1 (hrn a' (List.mem_of_getElem? q1)).2.2)
          · subst q2
            rw [q1, el, hrow] at e2
            cases e2
            exact k7 _ _ h6 (nin1 cD)
      · have s5 := keep0 k5
        rw [List.length_map, b2] at el
        have b5 := s5 _ _ b1'
        rw [ea] at hD
        walk_at "go"
        refine lcL (a := r) (xs := bs.map V.ref) [] (fun D2 i acc H' => acc = (List.replicate i (0 : Int)).map V.int) (by rw [List.length_map]; omega) b5 (by simp) (fun D2 H' nD sD hD => rfl) (fun D2 i v acc H6 nD2 hx' hlj k6 hD2 ea2 => ?_) (fun D2 acc H6 nD2 hl6 k6 hD2 ea2 => ?_)
        · obtain ⟨a, ha, rfl⟩ := map_at hx'
          walk_at "go"
          refine ⟨hD2, k6, fun H7 k7 h7 => ?_⟩
          rw [ea2, List.replicate_succ']
          simp
        · have s6 := keep0 k6
          rw [List.length_map, b2] at ea2
          rw [ea2] at hD2
          have s26 := s24.trans (s5.trans s6)
          have ebd := (s4.trans (s5.trans s6)) _ _ h3
          have eed := (s5.trans s6) _ _ h4
          have N : TsN H2 bd ed D' D2 rs := ⟨n3, s3.free n4, s24.free (s5.free nD2), fun a ha => ⟨s24.free (hrn a ha).1, (hrn a ha).2.2, fun z => (hrn a ha).2.1 (by rw [z]; exact nD2)⟩, nd, ne_of_none h3 n4, ne_of_none hD nD2⟩
          have t0 : TsG H2 H6 bd ed D' D2 rs hs lens E (List.replicate hs.length 0) (fun _ => none) := by
            refine ⟨s26, by simp, s6 _ _ hD, fun h a row i e1 e2 e3 => ?_, ⟨List.replicate hs.length 0, by simp, hD2, fun h row i e1 e2 => ?_⟩, ⟨[], ebd, by simp; omega, fun h row i j x e1 e2 e3 e4 => ?_⟩, ⟨[], eed, by simp; omega, fun p => rfl⟩, fun h row i j x e1 e2 e3 => ?_⟩
            · rw [rep0 e3]
              exact ⟨by omega, s6 _ _ (hrs h a row e1 e2)⟩
            · rw [rep0 e2, List.getElem?_replicate, if_pos (List.getElem?_eq_some_iff.mp e1).1]
              rfl
            · have := rep0 e2
              omega
            · rw [rep0 e2, if_neg (by omega)]
          walk_at "go"
          refine whileZ (TsW l p r d bd ed D' D2 b c H2 rs hs lens E) (2 * remF hs (List.replicate hs.length 0) + 1) ⟨_, _, true, none, none, none, t0, by simp, by simp, rfl⟩ (fun m σ H7 ⟨ix, en, mv, x1, x2, x3, t, em, hmv, es⟩ => ?_)
          subst es
          walk_at "go"
          cases mv with
          | true =>
            rw [if_pos rfl]
            refine ⟨fun σ' H' => ∃ m', m' < m ∧ TsW l p r d bd ed D' D2 b c H2 rs hs lens E m' σ' H', fun _ _ h => h, ?_⟩
            have hll := t.hll
            walk_at "go"
            refine forR (n := hs.length) (by rw [List.length_map, el]) (by omega) (fun j σ H' => ∃ (ix' : List Nat) (en' : Int → Option Int) (mv : Bool) (x1 x2 x3 : Option V), TsG H2 H' bd ed D' D2 rs hs lens E ix' en' ∧
              ((mv = true ∧ remF hs ix' < remF hs ix) ∨ (mv = false ∧ ix' = ix ∧ en' = en ∧ ∀ (h : Nat) (row : List Int) (i : Nat) (x : Int), h < j → hs[h]? = some row → ix[h]? = some i → row[i]? = some x → nextB en (bhF ws x) (clkF E row i) = none)) ∧
              σ = [some (.ref l), some (.ref p), some (.ref r), some (.ref d), b, c, some (.ref bd), some (.ref ed), some (.ref D'), some (.ref D2), some (.bl mv), x1, x2, x3, none]) ⟨ix, en, false, x1, x2, x3, t, .inr ⟨rfl, rfl, rfl, fun h row i x hh => absurd hh (Nat.not_lt_zero _)⟩, rfl⟩ (fun j σ H8 hj ⟨ix', en', mv', y1, y2, y3, t', hc, es⟩ => ?_) (fun σ H8 ⟨ix', en', mv', y1, y2, y3, t', hc, es⟩ => ?_)
            · subst es
              obtain ⟨row, hrow⟩ : ∃ row, hs[j]? = some row := ⟨_, List.getElem?_eq_getElem hj⟩
              obtain ⟨i, hi⟩ : ∃ i, ix'[j]? = some i := ⟨_, List.getElem?_eq_getElem (by rw [t'.il]; exact hj)⟩
              obtain ⟨a, ha⟩ : ∃ a, rs[j]? = some a := ⟨_, List.getElem?_eq_getElem (by rw [el]; exact hj)⟩
              obtain ⟨hile, hla⟩ := t'.hla j a row i ha hrow hi
              obtain ⟨cs, c1, c2, c3⟩ := t'.hcl
              have hcj := c3 j row i hrow hi
              have hll' := t'.hll
              have atl : (rs.map V.ref)[j]? = some (V.ref a) := by rw [List.getElem?_map, ha]; rfl
              have atc : (cs.map V.int)[j]? = some (V.int (clkF E row i)) := by rw [List.getElem?_map, hcj]; rfl
              have blk : ∀ (z : Bool), ((∃ x, row[i]? = some x ∧ nextB en' (bhF ws x) (clkF E row i) ≠ none) → False) → (mv' = true ∧ remF hs ix' < remF hs ix) ∨ (mv' = false ∧ ix' = ix ∧ en' = en ∧ ∀ (h : Nat) (row : List Int) (i : Nat) (x : Int), h < j + 1 → hs[h]? = some row → ix[h]? = some i → row[i]? = some x → nextB en (bhF ws x) (clkF E row i) = none) := fun _ hno => by
                rcases hc with z | ⟨z1, z2, z3, z4⟩
                · exact .inl z
                · refine .inr ⟨z1, z2, z3, fun h row' i' x' hh e1 e2 e3 => ?_⟩
                  rcases Nat.lt_succ_iff_lt_or_eq.mp hh with y | y
                  · exact z4 h row' i' x' y e1 e2 e3
                  · subst y
                    rw [hrow] at e1
                    cases e1
                    rw [← z2, hi] at e2
                    cases e2
                    rw [← z3]
                    exact Classical.byContradiction fun q => hno ⟨x', e3, q⟩
              walk_at "go"
              refine ⟨len0, fun e0 H9 n9 s9 h9 => ?_⟩
              have hla9 := s9 _ _ hla
              refine v_neI (ns := row.drop i) (ms := []) hla9 h9 ?_
              walk_at "go"
              refine iteND (fun hne => ?_) (fun heq => ?_)
              · have hil : i < row.length := by
                  refine Classical.byContradiction fun z => hne ?_
                  exact List.drop_eq_nil_of_le (by omega)
                obtain ⟨x, hx⟩ : ∃ x, row[i]? = some x := ⟨_, List.getElem?_eq_getElem hil⟩
                have ed1 : row.drop i = x :: row.drop (i + 1) := by
                  have := (List.getElem?_eq_some_iff.mp hx).2
                  rw [← this]
                  exact List.drop_eq_getElem_cons hil
                rw [ed1, List.map_cons] at hla9
                have hll9 := s9 _ _ hll'
                have c29 := s9 _ _ c2
                obtain ⟨kb, b1k, b2k, b3k⟩ := id t'.hbd
                obtain ⟨ke, e1k, e2k, e3k⟩ := id t'.hed
                have BH9 := BH.same (t'.s.trans s9)
                walk_at "go"
                refine ⟨d, ed, x, clkF E row i, bhF ws, en', rfl, BH9, ⟨ke, s9 _ _ e1k, e3k⟩, ?_, fun H10 s10 => ?_⟩
                · unfold bhF
                  rw [List.length_map]
                  exact Nat.le_trans (List.length_filter_le _ _) (by omega)
                have s810 := s9.trans s10
                cases hnb : nextB en' (bhF ws x) (clkF E row i) with
                | none =>
                  rw [show optV none = V.non from rfl]
                  walk_at "go"
                  refine ⟨ix', en', mv', _, _, _, t'.ext s810, blk true fun ⟨x', e1, e2⟩ => ?_, rfl⟩
                  rw [hx] at e1
                  cases e1
                  exact e2 hnb
                | some bv =>
                  rw [show optV (some bv) = V.int bv from rfl]
                  have hbv : bv = E x - lens.getD x.toNat 0 := by
                    have v1 := nextB_val (E := E) (fun q hq u hu => by
                      obtain ⟨q0, q1, q2⟩ := D.wk _ (mem_bhF.mp hq)
                      obtain ⟨h', row', j', hr', hx'⟩ := D.pos q0 (show q < lens.length by simp only at q1 q2; omega)
                      obtain ⟨i', hi'⟩ : ∃ i', ix'[h']? = some i' := ⟨_, List.getElem?_eq_getElem (by rw [t'.il]; exact (List.getElem?_eq_some_iff.mp hr').1)⟩
                      rw [t'.hen h' row' i' j' q hr' hi' hx'] at hu
                      split at hu
                      · cases hu; rfl
                      · cases hu) hnb
                    have v2 : E x = begF E ws row i x + lens.getD x.toNat 0 := TO j row i x hrow hx
                    unfold begF at v2
                    omega
                  have hla10 := s10 _ _ hla9
                  have hll10 := s810 _ _ hll'
                  have c210 := s810 _ _ c2
                  have kb10 := s810 _ _ b1k
                  have ke10 := s810 _ _ e1k
                  have t10 := t'.ext s810
                  obtain ⟨x0, x1'⟩ := D.mem hrow hx
                  have hl10 : H10 l = some (.lst (lens.map V.int)) := (s2.trans (t'.s.trans s810)) _ _ hln
                  obtain ⟨gl, gal, gac⟩ := N.na a (List.mem_of_getElem? ha)
                  have remle : remF hs ix' ≤ lens.length := by omega
                  walk_at "go"
                  refine v_pop0 hla10 fun H11 k11 h11 => ?_
                  have kb11 := k11 _ _ kb10 (nin1 (ne_of kb10 hla10 (fun z => nomatch z)))
                  have ke11 := k11 _ _ ke10 (nin1 (ne_of ke10 hla10 (fun z => nomatch z)))
                  have c211 := k11 _ _ c210 (nin1 gac.symm)
                  have nl : l ≠ a := fun z => by rw [← z, s2 _ _ hln] at gl; cases gl
                  have hl11 := k11 _ _ hl10 (nin1 nl)
                  walk_at "go"
                  refine v_setK kb11 (small1000 (by omega)) fun H12 k12 h12 => ?_
                  have ke12 := k12 _ _ ke11 (nin1 N.be.symm)
                  have c212 := k12 _ _ c211 (nin1 (ne_of c211 kb11 (fun z => nomatch z)))
                  have hl12 := k12 _ _ hl11 (nin1 (ne_of hl11 kb11 (fun z => nomatch z)))
                  obtain ⟨lv, hlv⟩ : ∃ lv, lens[x.toNat]? = some lv := ⟨_, List.getElem?_eq_getElem (by omega)⟩
                  have elv : lens.getD x.toNat 0 = lv := by rw [List.getD_eq_getElem?_getD, hlv]; rfl
                  have atx : atI (lens.map V.int) x = some (V.int lv) := by
                    have e : x = ((x.toNat : Nat) : Int) := by omega
                    rw [e]
                    exact atI_nat (by rw [List.getElem?_map, hlv]; rfl)
                  walk_at "go"
                  refine v_setK ke12 (small1000 (by omega)) fun H13 k13 h13 => ?_
                  have c213 := k13 _ _ c212 (nin1 (ne_of c212 ke12 (fun z => nomatch z)))
                  have ebl : bv + lv = E x := by omega
                  rw [ebl] at h13
                  walk_at "go"
                  refine dgV h13 (v := .int (E x)) (by rw [valV_put, if_pos rfl]) ?_
                  walk_at "go"
                  refine v_setL c213 (ixN_n (by rw [List.length_map, c1]; exact hj)) fun H14 k14 h14 => ?_
                  walk_at "go"
                  rw [hbv] at h12
                  have tn := TsG.put D t10 N el hrow hi hx ha kb10 ke10 c210 k11 h11 k12 h12 k13 h13 k14 h14
                  have hrem := remF_set hrow hi hil
                  refine ⟨_, _, true, _, _, _, tn, .inl ⟨rfl, ?_⟩, rfl⟩
                  rcases hc with ⟨_, z⟩ | ⟨_, z, _⟩
                  · omega
                  · rw [z] at hrem ⊢
                    omega
              · walk_at "go"
                refine ⟨ix', en', mv', _, _, _, t'.ext s9, blk true fun ⟨x', e1, e2⟩ => ?_, rfl⟩
                have h1 := (List.getElem?_eq_some_iff.mp e1).1
                have h2 := congrArg List.length heq
                rw [List.length_drop] at h2
                simp only [List.length_nil] at h2
                omega
            · subst es
              rw [if_pos rfl] at em
              rcases hc with ⟨z1, z2⟩ | ⟨z1, z2, z3, z4⟩
              · subst z1
                exact ⟨2 * remF hs ix' + 1, by omega, ix', en', true, y1, y2, y3, t', by simp, by simp, rfl⟩
              · subst z1 z2 z3
                have done := all_done D t'.il t'.hen fun h row i x e1 e2 e3 => z4 h row i x (List.getElem?_eq_some_iff.mp e1).1 e1 e2 e3
                have r0 := remF_done done
                exact ⟨0, by omega, ix', en', false, y1, y2, y3, t', by simp [r0], fun _ => r0, rfl⟩
          | false =>
            rw [if_neg Bool.false_ne_true]
            have r0 := hmv rfl
            obtain ⟨kb, b1k, b2k, b3k⟩ := id t.hbd
            obtain ⟨ke, e1k, e2k, e3k⟩ := id t.hed
            have hl7 : H7 l = some (.lst (lens.map V.int)) := (s2.trans t.s) _ _ hln
            have kel : ke.length = lens.length := by omega
            have done : ∀ (x : Int), 0 ≤ x → x < lens.length → valV kb (Sum.inl x : Key) = some (.int (E x - lens.getD x.toNat 0)) ∧ valV ke (Sum.inl x : Key) = some (.int (E x)) := fun x x0 x1 => by
              obtain ⟨h, row, j, hr', hx'⟩ := D.pos x0 x1
              obtain ⟨i, hi⟩ : ∃ i, ix[h]? = some i := ⟨_, List.getElem?_eq_getElem (by rw [t.il]; exact (List.getElem?_eq_some_iff.mp hr').1)⟩
              have hji : j < i := by
                have := remF_all0 r0 hr' hi
                have := (List.getElem?_eq_some_iff.mp hx').1
                omega
              refine ⟨b3k h row i j x hr' hi hx' hji, ?_⟩
              rw [e3k x, t.hen h row i j x hr' hi hx', if_pos hji]
              rfl
            walk_at "go"
            refine lcR (n := lens.length) (by rw [List.length_map]) [] (fun D3 i acc H' => ∃ rs : List Addr, acc = rs.map V.ref ∧ rs.length = i ∧ ∀ (k : Nat) (a : Addr), rs[k]? = some a → H' a = some (.tup [.int (E k - lens.getD k 0), .int (E k)])) (by omega) (fun D3 H' nD sD hD => ⟨[], rfl, rfl, by simp⟩) (fun D3 i acc H8 nD3 hi hlj k8 hD3 ⟨ts, ea3, el3, hts⟩ => ?_) (fun D3 acc H8 nD3 hl8 k8 hD3 ⟨ts, ea3, el3, hts⟩ => ?_)
            · have s8 := keep0 k8
              obtain ⟨d1, d2⟩ := done i (by omega) (by omega)
              have kb8 := s8 _ _ b1k
              have ke8 := s8 _ _ e1k
              walk_at "go"
              refine dgV kb8 d1 ?_
              walk_at "go"
              refine dgV ke8 d2 ?_
              walk_at "go"
              refine ⟨len2, fun tp H9 n9 s9 h9 => ?_⟩
              refine ⟨s9 _ _ hD3, same_k0 (s8.trans s9), fun H10 k10 h10 => ⟨ts ++ [tp], by rw [ea3]; simp, by simp [el3], fun k a e1 => ?_⟩⟩
              have tt := (k10.nolL (s9 _ _ hD3)).tups
              rcases app_at e1 with q1 | ⟨q1, q2⟩
              · exact tt _ _ (s9 _ _ (hts k a q1))
              · rw [q1, q2, el3]
                rw [Int.toNat_natCast] at h9
                exact tt _ _ h9
            · have s8 := keep0 k8
              refine q H8 D3 (s2.trans (t.s.trans s8)) ((s2.trans t.s).free nD3) ⟨ts, by rw [← ea3]; exact hD3, by simp [tmF, el3], fun k a z e1 e2 => ?_⟩
              have lk := (List.getElem?_eq_some_iff.mp e1).1
              have : z = (E k - lens.getD k 0, E k) := by
                unfold tmF at e2
                rw [List.getElem?_map, List.getElem?_range (by omega)] at e2
                exact (Option.some.inj e2).symm
              rw [this]
              exact hts k a e1
end
end
section
set_option maxHeartbeats 4000000
/-! ### walk_times, walk_end, walk_idle -/
def lensF (p : Pp) : List Int := p.pcs.map fun pc => (pc.length : Int)
theorem lensF_len {p : Pp} : (lensF p).length = p.pcs.length := by simp [lensF]
/-- the paper goes by the times E -/
structure PaT (p : Pp) (E : Int → Int) : Prop where
  D : Deal p.pcs.length p.hs p.ws
  T : TimesOk (fun x => (lensF p).getD x.toNat 0) p.hs p.ws E
def bE (p : Pp) (E : Int → Int) (x : Int) : Int := E x - (lensF p).getD x.toNat 0
theorem lens_at {p : Pp} {x : Nat} {pc : List Sp2} (h : p.pcs[x]? = some pc) : (lensF p).getD x 0 = pc.length := by
  rw [List.getD_eq_getElem?_getD]
  unfold lensF
  rw [List.getElem?_map, h]
  rfl
theorem bE_len {p : Pp} {E : Int → Int} {x : Nat} {pc : List Sp2} (h : p.pcs[x]? = some pc) : E x - bE p E x = pc.length := by
  unfold bE
  rw [Int.toNat_natCast, lens_at h]
  omega
theorem PaT.clock {p : Pp} {E : Int → Int} (t : PaT p E) (ok : p.Ok) : Clock p.pcs.length p.hs p.ws (bE p E) E := by
  refine clock_of t.D t.T fun x h0 h1 => ?_
  obtain ⟨pc, hpc⟩ : ∃ pc, p.pcs[x.toNat]? = some pc := ⟨_, List.getElem?_eq_getElem (by omega)⟩
  rw [lens_at hpc]
  obtain ⟨g1, g2, _⟩ := ok.pc pc (List.mem_of_getElem? hpc)
  have := List.length_pos_iff.mpr g1
  omega
theorem row_le {α : Type} : ∀ {hs : List (List α)} {row : List α}, row ∈ hs → row.length ≤ hs.flatten.length
  | r :: hs, row, h => by
    rw [List.flatten_cons, List.length_append]
    rcases List.mem_cons.mp h with e | e
    · rw [e]; omega
    · have := row_le e; omega
theorem tm_at {p : Pp} {E : Int → Int} {x : Int} (h0 : 0 ≤ x) (h1 : x < p.pcs.length) : (tmF E (lensF p))[x.toNat]? = some (bE p E x, E x) := by
  unfold tmF
  rw [List.getElem?_map, List.getElem?_range (by rw [lensF_len]; omega)]
  have e : ((x.toNat : Nat) : Int) = x := by omega
  simp only [Option.map_some, bE, e]
theorem tmA_at {H : Hp} {f : Addr} {p : Pp} {E : Int → Int} (h : LO PrA H f (tmF E (lensF p))) {x : Int} (h0 : 0 ≤ x) (h1 : x < p.pcs.length) : ∃ (a : Addr) (as : List Addr), H f = some (.lst (as.map V.ref)) ∧ atI (as.map V.ref) x = some (V.ref a) ∧ H a = some (.tup [.int (bE p E x), .int (E x)]) := by
  obtain ⟨as, a1, a2, a3⟩ := h
  have hl : (tmF E (lensF p)).length = p.pcs.length := by simp [tmF, lensF_len]
  obtain ⟨a, ha⟩ : ∃ a, as[x.toNat]? = some a := ⟨_, List.getElem?_eq_getElem (by omega)⟩
  refine ⟨a, as, a1, ?_, a3 _ a _ ha (tm_at h0 h1)⟩
  have e : x = ((x.toNat : Nat) : Int) := by omega
  rw [e]
  exact atI_nat (by rw [List.getElem?_map, ha]; rfl)
section
variable {P : Program} {w : World} {K : PySem.W.Frag} {mg : Str → Option Value} {base : Heap}
def spWT (P : Program) (w : World) : Sp := fun vs H Q _ => ∃ (a : Addr) (p : Pp) (E : Int → Int), vs = [.ref a] ∧ PaperA P w H a p ∧ PaT p E ∧ ∀ H' f, Same H H' → H f = none → LO PrA H' f (tmF E (lensF p)) → Q (.ref f) H'
theorem sc2 : FnScope ["paper", "piece"] ["paper"] (C8.fnScope st2) := C8.fnScope_by (by decide +kernel)
theorem ok_walk_times (T : Txt K mg) : C8.Cal P w K mg base 3 "walk_times" (spWT P w) [] := by
  refine cal_by (k := 2) (T.df 2 _ rfl) (g_walk_times T) sc2 (fun _ _ _ _ us hl => match us, hl with | [_], _ => rfl) (fun vs H Q E h => ?_) (fun A outer s H vs Q E0 hr o h => ?_)
  · obtain ⟨a, p, E, rfl, _⟩ := h
    rfl
  · obtain ⟨a, p, E, rfl, PA, pt, q⟩ := h
    obtain ⟨pok, pdx, pj, lp, lh, lw, pd, plx, hpa, J, ⟨cs, c1, c2, c3⟩, hlh, hlw, hsl⟩ := id PA
    refine ⟨_, (pss_one (ps_ret (C8.pe_c (ok_times_of (P := P) (w := w) T) hr (by decide) (by rfl) (pa_cons (pe_lc (own := [("piece", 1)]) rfl (sc2).nd (pi_listZ o (pe_fldZ o (pv 0) rfl)) (blkOk_by (own := [("piece", 1)]) (by kernel_rfl)) (fun _ _ _ _ _ => pg_mn (pg_name (i := 1) (sc2).nd (by rfl) (by first | exact Or.inl rfl | exact Or.inr rfl))) (fun _ _ _ _ _ => pts_mn pts_nil) (fun _ _ _ _ _ => pe_mn (pe_callB (cr_self o.blk) (by rfl) (z_len T) b_len (pa_cons (pv 1) pa_nil)))) (pa_cons (pe_fldZ o (pv 0) rfl) (pa_cons (pe_fldZ o (pv 0) rfl) pa_nil)))))), ?_⟩
    walk_at "go"
    refine lcL (a := lp) (xs := cs.map V.ref) [] (fun D i acc H' => acc = ((lensF p).take i).map V.int) (by rw [List.length_map]; have := pok.pl; omega) c1 (by simp) (fun D H' nD sD hD => rfl) (fun D i v acc H1 nD hx' hlj k1 hD ea => ?_) (fun D acc H1 nD hl1 k1 hD ea => ?_)
    · have s1 := keep0 k1
      obtain ⟨a, ha, rfl⟩ := map_at hx'
      have hi := (List.getElem?_eq_some_iff.mp ha).1
      obtain ⟨pc, hpc⟩ : ∃ pc, p.pcs[i]? = some pc := ⟨_, List.getElem?_eq_getElem (by omega)⟩
      obtain ⟨ks, hks, hz⟩ := c3 i a pc ha hpc
      have hk1 := s1 _ _ hks.1
      walk_at "go"
      refine ⟨hD, k1, fun H2 k2 h2 => ?_⟩
      have e : (lensF p)[i]? = some (ks.vs.length : Int) := by
        unfold lensF
        rw [List.getElem?_map, hpc, ← hz]
        simp [SpL.vs, SpL.zs]
      rw [ea, List.take_add_one, e]
      simp
    · have s1 := keep0 k1
      rw [List.length_map, c2, ← lensF_len, List.take_of_length_le (Nat.le_refl _)] at ea
      rw [ea] at hD
      have hpa1 := s1 _ _ hpa
      walk_at "go"
      exact ⟨D, lw, lh, lensF p, p.hs, p.ws, E, rfl, hD, lop_same hlw s1, loi_same hlh s1, by rw [lensF_len]; exact pok.pl, pok.wl, pok.hl.2, by rw [lensF_len]; exact pt.D, pt.T, fun H2 f s2 nf hf => q H2 f (s1.trans s2) (s1.free nf) hf⟩
def endF (p : Pp) (E : Int → Int) : Int := mxd 0 ((tmF E (lensF p)).map (·.2))
def spWE (P : Program) (w : World) : Sp := fun vs H Q _ => ∃ (a : Addr) (p : Pp) (E : Int → Int), vs = [.ref a] ∧ PaperA P w H a p ∧ PaT p E ∧ ∀ H', Same H H' → Q (.int (endF p E)) H'
theorem sc3 : FnScope ["paper", "begin", "end"] ["paper"] (C8.fnScope st3) := C8.fnScope_by (by decide +kernel)
theorem ok_walk_end (T : Txt K mg) : C8.Cal P w K mg base 4 "walk_end" (spWE P w) [] := by
  refine cal_by (k := 3) (T.df 3 _ rfl) (g_walk_end T) sc3 (fun _ _ _ _ us hl => match us, hl with | [_], _ => rfl) (fun vs H Q E h => ?_) (fun A outer s H vs Q E0 hr o h => ?_)
  · obtain ⟨a, p, E, rfl, _⟩ := h
    rfl
  · obtain ⟨a, p, E, rfl, PA, pt, q⟩ := h
    have tl : (tmF E (lensF p)).length = p.pcs.length := by simp [tmF, lensF_len]
    have pl := PA.d.pl
    refine ⟨_, (pss_one (ps_ret (pe_callBK (cr_maxDZ o) (by rfl) (z_max T) b_max (pa_cons (pe_lc (own := [("begin", 1), ("end", 2)]) rfl (sc3).nd (pi_listZ o (C8.pe_c (ok_walk_times (P := P) (w := w) T) hr (by decide) (by rfl) (pa_cons (pv 0) pa_nil))) (blkOk_by (own := [("begin", 1), ("end", 2)]) (by kernel_rfl)) (fun _ _ _ _ _ => pg_mn (pg_tupZ (n := 2) o.blk (pgs_cons (pg_name (i := 1) (sc3).nd (by rfl) (by first | exact Or.inl rfl | exact Or.inr rfl)) (pgs_cons (pg_name (i := 2) (sc3).nd (by rfl) (by first | exact Or.inl rfl | exact Or.inr rfl)) pgs_nil)))) (fun _ _ _ _ _ => pts_mn pts_nil) (fun _ _ _ _ _ => pe_mn (pv 2))) pa_nil) (pk_cons pe_int pk_nil)))), ?_⟩
    walk_at "go"
    refine ⟨a, p, E, rfl, PA, pt, fun H1 f s1 nf hf => ?_⟩
    obtain ⟨as, a1, a2, a3⟩ := hf
    walk_at "go"
    refine lcL (a := f) (xs := as.map V.ref) [] (fun D i acc H' => acc = (((tmF E (lensF p)).take i).map (·.2)).map V.int) (by rw [List.length_map]; omega) a1 (by simp) (fun D H' nD sD hD => rfl) (fun D i v acc H2 nD hx' hlj k2 hD ea => ?_) (fun D acc H2 nD hl2 k2 hD ea => ?_)
    · have s2 := keep0 k2
      obtain ⟨c, hc, rfl⟩ := map_at hx'
      have hi := (List.getElem?_eq_some_iff.mp hc).1
      obtain ⟨z, hz⟩ : ∃ z, (tmF E (lensF p))[i]? = some z := ⟨_, List.getElem?_eq_getElem (by omega)⟩
      have hcz : H2 c = some (.tup [.int z.1, .int z.2]) := s2 _ _ (a3 i c z hc hz)
      walk_at "go"
      refine ⟨hD, k2, fun H3 k3 h3 => ?_⟩
      rw [ea, List.take_add_one, hz]
      simp
    · have s2 := keep0 k2
      rw [List.length_map, a2, List.take_of_length_le (Nat.le_refl _)] at ea
      rw [ea] at hD
      walk_at "go"
      exact v_maxD hD (q H2 (s1.trans s2))
def idleF (p : Pp) (E : Int → Int) : List Int := p.hs.map fun row => mxd 0 (row.map E) - (row.map fun x => E x - bE p E x).sum
def spWI (P : Program) (w : World) : Sp := fun vs H Q _ => ∃ (a : Addr) (p : Pp) (E : Int → Int), vs = [.ref a] ∧ PaperA P w H a p ∧ PaT p E ∧ ∀ H' f, Same H H' → H f = none → LIn H' f (idleF p E) → Q (.ref f) H'
theorem sc4 : FnScope ["paper", "times", "found", "hand", "work", "piece"] ["paper"] (C8.fnScope st4) := C8.fnScope_by (by decide +kernel)
theorem ok_walk_idle (T : Txt K mg) : C8.Cal P w K mg base 4 "walk_idle" (spWI P w) [] := by
  refine cal_by (k := 3) (T.df 4 _ rfl) (g_walk_idle T) sc4 (fun _ _ _ _ us hl => match us, hl with | [_], _ => rfl) (fun vs H Q E h => ?_) (fun A outer s H vs Q E0 hr o h => ?_)
  · obtain ⟨a, p, E, rfl, _⟩ := h
    rfl
  · obtain ⟨a, p, E, rfl, PA, pt, q⟩ := h
    obtain ⟨pok, pdx, pj, lp, lh, lw, pd, plx, hpa, J, hlp, ⟨bs, b1, b2, b3⟩, hlw, hsl⟩ := id PA
    have hfew : ∀ row ∈ p.hs, row.length ≤ 60 := fun row hr => by
      have h1 := pok.hp.length_eq
      rw [List.length_map, List.length_range] at h1
      have h3 := row_le hr
      have := pok.pl
      omega
    refine ⟨_, (pss_cons (ps_set (i := 1) (sc4).nd rfl (by first | exact Or.inl rfl | exact Or.inr rfl) (C8.pe_c (ok_walk_times (P := P) (w := w) T) hr (by decide) (by rfl) (pa_cons (pv 0) pa_nil)))
      (pss_cons (ps_set (i := 2) (sc4).nd rfl (by first | exact Or.inl rfl | exact Or.inr rfl) (pe_lst (pa_mn pa_nil)))
      (pss_cons (ps_for PassesOwn.never rfl (pi_listZ o (pe_fldZ o (pv 0) rfl)) (pg_name (i := 3) (sc4).nd (by rfl) (by first | exact Or.inl rfl | exact Or.inr rfl)) (pss_cons (ps_set (i := 4) (sc4).nd rfl (by first | exact Or.inl rfl | exact Or.inr rfl) (pe_callB (cr_self o) (by rfl) (z_sum T) b_sum (pa_cons (pe_lc (own := [("piece", 5)]) rfl (sc4).nd (pi_listZ o (pv 3)) (blkOk_by (own := [("piece", 5)]) (by kernel_rfl)) (fun _ _ _ _ _ => pg_mn (pg_name (i := 5) (sc4).nd (by rfl) (by first | exact Or.inl rfl | exact Or.inr rfl))) (fun _ _ _ _ _ => pts_mn pts_nil) (fun _ _ _ _ _ => pe_mn (pe_op (op_self o.blk) (pe_ix (ix_self o.blk) (pe_ix (ix_self o.blk) (pv 1) (pv 5) (fun _ _ => rfl)) pe_int (fun _ _ => rfl)) (pe_ix (ix_self o.blk) (pe_ix (ix_self o.blk) (pv 1) (pv 5) (fun _ _ => rfl)) pe_int (fun _ _ => rfl))))) pa_nil)))
      (pss_one (ps_expr (pe_bmZ o PySem.F.plainAttrs_list PySem.F.slot_list_append PySem.F.type_list_append (mt_self o) (pe_mn (pv 2)) (pa_cons (pe_op (op_self o) (pe_callBK (cr_maxDZ o) (by rfl) (z_max T) b_max (pa_cons (pe_lc (own := [("piece", 5)]) rfl (sc4).nd (pi_listZ o (pv 3)) (blkOk_by (own := [("piece", 5)]) (by kernel_rfl)) (fun _ _ _ _ _ => pg_mn (pg_name (i := 5) (sc4).nd (by rfl) (by first | exact Or.inl rfl | exact Or.inr rfl))) (fun _ _ _ _ _ => pts_mn pts_nil) (fun _ _ _ _ _ => pe_mn (pe_ix (ix_self o.blk) (pe_ix (ix_self o.blk) (pv 1) (pv 5) (fun _ _ => rfl)) pe_int (fun _ _ => rfl)))) pa_nil) (pk_cons pe_int pk_nil)) (pv 4)) pa_nil))))))
      (pss_one (ps_ret (pv 2)))))), ?_⟩
    walk_at "go"
    refine ⟨a, p, E, rfl, PA, pt, fun H1 f s1 nf hf => ?_⟩
    walk_at "go"
    refine ⟨len0, fun g H2 n2 s2 h2 => ?_⟩
    have s02 := s1.trans s2
    have hpa2 := s02 _ _ hpa
    have b1' := s02 _ _ b1
    have hf2 := lop_same hf s2
    have ng : H g = none := s1.free n2
    walk_at "go"
    refine forL (a := lh) (xs := bs.map V.ref) (fun i σ H' => Same H H' ∧ LO PrA H' f (tmF E (lensF p)) ∧ LIn H' g ((idleF p E).take i) ∧ ∃ b c : Option V, σ = [some (.ref a), some (.ref f), some (.ref g), b, c, none]) ⟨s02, hf2, h2, none, none, rfl⟩ (fun i σ H' hi ⟨e, _⟩ => e _ _ b1) (fun i x σ H3 hx ⟨s3, hf3, hg3, b, c, es⟩ => ?_) (fun σ H3 ⟨s3, hf3, hg3, b, c, es⟩ => ?_)
    · subst es
      obtain ⟨ra, hra, rfl⟩ := map_at hx
      have hi := (List.getElem?_eq_some_iff.mp hra).1
      obtain ⟨row, hrow⟩ : ∃ row, p.hs[i]? = some row := ⟨_, List.getElem?_eq_getElem (by omega)⟩
      have hra3 : H3 ra = some (.lst (row.map V.int)) := (b3 i ra row hra hrow).same s3
      have rl := hfew row (List.mem_of_getElem? hrow)
      have hm : ∀ x ∈ row, 0 ≤ x ∧ x < p.pcs.length := fun x hx => by
        obtain ⟨j, hj⟩ := List.mem_iff_getElem?.mp hx
        exact pt.D.mem hrow hj
      have hg3' : H3 g = some (.lst (((idleF p E).take i).map V.int)) := hg3
      walk_at "go"
      refine lcL (a := ra) (xs := row.map V.int) [] (fun D j acc H' => acc = ((row.take j).map fun x => E x - bE p E x).map V.int) (by rw [List.length_map]; omega) hra3 (by simp) (fun D H' nD sD hD => rfl) (fun D j v acc H4 nD hx' hlj k4 hD ea => ?_) (fun D acc H4 nD hl4 k4 hD ea => ?_)
      · have s4 := keep0 k4
        obtain ⟨y, hy, rfl⟩ := map_at hx'
        obtain ⟨y0, y1⟩ := hm y (List.mem_of_getElem? hy)
        obtain ⟨c, cs, q1, q2, q3⟩ := tmA_at (lop_same hf3 s4) y0 y1
        walk_at "go"
        refine ⟨hD, k4, fun H5 k5 h5 => ?_⟩
        rw [ea, List.take_add_one, hy]
        simp
      · have s4 := keep0 k4
        rw [List.length_map, List.take_of_length_le (Nat.le_refl _)] at ea
        rw [ea] at hD
        refine v_sum hD ?_
        have hg4 := s4 _ _ hg3'
        have hra4 := s4 _ _ hra3
        walk_at "go"
        refine lcL (a := ra) (xs := row.map V.int) [] (fun D j acc H' => acc = ((row.take j).map E).map V.int) (by rw [List.length_map]; omega) hra4 (by simp) (fun D H' nD sD hD => rfl) (fun D2 j v acc2 H5 nD2 hx' hlj k5 hD2 ea2 => ?_) (fun D2 acc2 H5 nD2 hl5 k5 hD2 ea2 => ?_)
        · have s5 := keep0 k5
          obtain ⟨y, hy, rfl⟩ := map_at hx'
          obtain ⟨y0, y1⟩ := hm y (List.mem_of_getElem? hy)
          obtain ⟨c, cs, q1, q2, q3⟩ := tmA_at (lop_same hf3 (s4.trans s5)) y0 y1
          walk_at "go"
          refine ⟨hD2, k5, fun H6 k6 h6 => ?_⟩
          rw [ea2, List.take_add_one, hy]
          simp
        · have s5 := keep0 k5
          rw [List.length_map, List.take_of_length_le (Nat.le_refl _)] at ea2
          rw [ea2] at hD2
          have hg5 := s5 _ _ hg4
          walk_at "go"
          refine v_maxD hD2 ?_
          walk_at "go"
          have il : (idleF p E).length = p.hs.length := by simp [idleF]
          have hl4 := pok.hl.2
          refine v_app hg5 (small1000 (by rw [List.length_map, List.length_take]; omega)) fun H6 k6 h6 => ?_
          walk_at "go"
          have s46 := s4.trans s5
          obtain ⟨fs, f1, f2, f3⟩ := lop_same hf3 s46
          have gf : f ≠ g := fun z => by rw [z] at hf; obtain ⟨_, x1, _⟩ := hf; rw [n2] at x1; cases x1
          refine ⟨same_of_new (s3.trans s46) ng k6, ⟨fs, k6 _ _ f1 (nin1 gf), f2, fun i' a' z' e1 e2 => k6.nolL hg5 _ _ (f3 i' a' z' e1 e2) rfl⟩, ?_, _, _, rfl⟩
          show H6 g = _
          have e : (idleF p E)[i]? = some (mxd 0 (row.map E) - (row.map fun x => E x - bE p E x).sum) := by
            unfold idleF
            rw [List.getElem?_map, hrow]
            rfl
          rw [h6, List.take_add_one, e]
          simp
    · subst es
      walk_at "go"
      rw [List.length_map, b2] at hg3
      have il : (idleF p E).length = p.hs.length := by simp [idleF]
      rw [← il, List.take_of_length_le (Nat.le_refl _)] at hg3
      exact q H3 g s3 ng hg3
end
end
section
set_option maxHeartbeats 4000000
section
variable {P : Program} {w : World} {K : PySem.W.Frag} {mg : Str → Option Value} {base : Heap}
/-! ### _law_dealt -/
theorem lin_new {H H' : Hp} {a D : Addr} {ns : List Int} (k : Keep [D] H H') (h : LIn H a ns) (n : a ≠ D) : LIn H' a ns := k _ _ h (nin1 n)
theorem lo_app {H H' : Hp} {l a : Addr} {as : List Addr} {ws : List (Int × Int)} {z : Int × Int} (a2 : as.length = ws.length) (a3 : ∀ (i : Nat) (a : Addr) (z : Int × Int), as[i]? = some a → ws[i]? = some z → PrA H a z) (t : Tups H H') (h : H' l = some (.lst (as.map V.ref ++ [V.ref a]))) (ha : PrA H a z) : LO PrA H' l (ws ++ [z]) := by
  refine ⟨as ++ [a], by rw [h]; simp, by simp [a2], fun i b y e1 e2 => ?_⟩
  rcases app_at e1 with q1 | ⟨q1, q2⟩
  · rw [List.getElem?_append_left (by have := (List.getElem?_eq_some_iff.mp q1).1; omega)] at e2
    exact t _ _ (a3 i b y q1 e2)
  · rw [q1, a2, List.getElem?_append_right (Nat.le_refl _)] at e2
    simp at e2
    rw [q2, ← e2]
    exact t _ _ ha
def spDealt : Sp := fun vs H Q _ => ∃ (p l t : Addr) (sz : List Int) (tk : List Sp2) (R : Nat) (pcs : List (List Sp2)), vs = [.ref p, .ref l, .ref t] ∧ WorldA H p sz tk R ∧ LO LSz H l pcs ∧ pcs.length ≤ 30 ∧ H t = some (TapeO t) ∧ (∀ pc ∈ pcs, pc.length ≤ 4 ∧ ∀ z ∈ pc, SpOk R sz z) ∧ (pcs.flatten).Nodup ∧
  ∀ H' u lh lw (hs : List (List Int)) (ws : List (Int × Int)), Same H H' → H' u = some (.tup [.ref lh, .ref lw]) → LO LIn H' lh hs → LO PrA H' lw ws → 1 ≤ hs.length → hs.length ≤ 4 → Deal pcs.length hs ws → ws.length ≤ 400 → Q (.ref u) H'
theorem sc82 : FnScope ["_law_world_here", "_law_pieces_here", "_law_tape_here", "_law_many", "_law_homes", "_law_hands", "_law_waits", "_law_p", "_law_reads", "_law_spot", "_law_q", "_law_leans_here", "_law_piece", "_law_hand", "_law_one"] ["_law_world_here", "_law_pieces_here", "_law_tape_here"] (C8.fnScope st82) := C8.fnScope_by (by decide +kernel)
theorem ok_law_dealt (T : Txt K mg) : C8.Cal P w K mg base 3 "_law_dealt" spDealt [] := by
  refine cal_by (k := 2) (T.df 82 _ rfl) (g_law_dealt T) sc82 (fun _ _ _ _ us hl => match us, hl with | [_, _, _], _ => rfl) (fun vs H Q E h => ?_) (fun A outer s H vs Q E hr o h => ?_)
  · obtain ⟨p, l, t, sz, tk, R, pcs, rfl, _⟩ := h
    rfl
  · obtain ⟨p, l, t, sz, tk, R, pcs, rfl, W, ⟨cs, c1, c2, c3⟩, hfew, ht, hpc, hnd, q⟩ := h
    refine ⟨_, (pss_cons (ps_set (i := 3) (sc82).nd rfl (by first | exact Or.inl rfl | exact Or.inr rfl) (pe_op (op_self o) pe_int (C8.pe_c (ok_law_draw (P := P) (w := w) T) hr (by decide) (by rfl) (pa_cons (pv 2) (pa_cons pe_int pa_nil)))))
      (pss_cons (ps_set (i := 4) (sc82).nd rfl (by first | exact Or.inl rfl | exact Or.inr rfl) (pe_lc (own := [("_law_piece", 12)]) rfl (sc82).nd (pi_listZ o (pv 1)) (blkOk_by (own := [("_law_piece", 12)]) (by kernel_rfl)) (fun _ _ _ _ _ => pg_mn (pg_name (i := 12) (sc82).nd (by rfl) (by first | exact Or.inl rfl | exact Or.inr rfl))) (fun _ _ _ _ _ => pts_mn pts_nil) (fun _ _ _ _ _ => pe_mn (C8.pe_c (ok_law_draw (P := P) (w := w) T) hr (by decide) (by rfl) (pa_cons (pv 2) (pa_cons (pv 3) pa_nil))))))
      (pss_cons (ps_setLc (i := 5) (own := [("_law_hand", 13)]) rfl (sc82).nd rfl rfl (sw_true rfl rfl rfl (by decide +kernel)) (pi_range1 (by rfl) (z_range T) (pa_cons (pv 3) pa_nil)) (blkOk_by (own := [("_law_hand", 13)]) (by kernel_rfl)) (fun _ _ _ _ _ => pg_mn (pg_name (i := 13) (sc82).nd (by rfl) (by first | exact Or.inl rfl | exact Or.inr rfl))) (fun _ _ _ _ _ => pts_mn pts_nil) (fun _ _ _ _ _ => pe_mn (pe_lc (own := [("_law_p", 7)]) rfl (sc82).nd (pi_range1 (by rfl) (z_range T) (pa_cons (pe_callB (cr_self o.blk) (by rfl) (z_len T) b_len (pa_cons (pv 1) pa_nil)) pa_nil)) (blkOk_by (own := [("_law_p", 7)]) (by kernel_rfl)) (fun _ _ _ _ _ => pg_mn (pg_name (i := 7) (sc82).nd (by rfl) (by first | exact Or.inl rfl | exact Or.inr rfl))) (fun _ _ _ _ _ => pts_mn (pts_one (pt_cmpR (op_self o.blk.blk) (pe_ix (ix_self o.blk.blk) (pv 4) (pv 7) (fun _ _ => rfl)) (pv 13) (nomark _)))) (fun _ _ _ _ _ => pe_mn (pv 7)))))
      (pss_cons (ps_set (i := 6) (sc82).nd rfl (by first | exact Or.inl rfl | exact Or.inr rfl) (pe_lst (pa_mn pa_nil)))
      (pss_cons (ps_for PassesOwn.never rfl (pi_range1 (by rfl) (z_range T) (pa_cons (pe_callB (cr_self o) (by rfl) (z_len T) b_len (pa_cons (pv 1) pa_nil)) pa_nil)) (pg_name (i := 7) (sc82).nd (by rfl) (by first | exact Or.inl rfl | exact Or.inr rfl)) (pss_cons (ps_set (i := 8) (sc82).nd rfl (by first | exact Or.inl rfl | exact Or.inr rfl) (pe_lst (pa_mn pa_nil)))
      (pss_cons (ps_for PassesOwn.never rfl (pi_listZ o (pe_ix (ix_self o) (pv 1) (pv 7) (fun _ _ => rfl))) (pg_name (i := 9) (sc82).nd (by rfl) (by first | exact Or.inl rfl | exact Or.inr rfl)) (pss_one (ps_set (i := 8) (sc82).nd rfl (by first | exact Or.inl rfl | exact Or.inr rfl) (pe_op (op_self o) (pv 8) (C8.pe_c (ok_law_leans (P := P) (w := w) T) hr (by decide) (by rfl) (pa_cons (pv 0) (pa_cons (pv 9) pa_nil)))))))
      (pss_one (ps_for PassesOwn.never rfl (pi_range1 (by rfl) (z_range T) (pa_cons (pv 7) pa_nil)) (pg_name (i := 10) (sc82).nd (by rfl) (by first | exact Or.inl rfl | exact Or.inr rfl)) (pss_cons (ps_set (i := 11) (sc82).nd rfl (by first | exact Or.inl rfl | exact Or.inr rfl) (pe_and (pe_cmpR (op_self o) (pe_ix (ix_self o) (pv 4) (pv 10) (fun _ _ => rfl)) (pe_ix (ix_self o) (pv 4) (pv 7) (fun _ _ => rfl)) (nomark _)) (pe_one (pe_cmpR (op_self o) (pe_lc (own := [("_law_one", 14)]) rfl (sc82).nd (pi_listZ o (pv 8)) (blkOk_by (own := [("_law_one", 14)]) (by kernel_rfl)) (fun _ _ _ _ _ => pg_mn (pg_name (i := 14) (sc82).nd (by rfl) (by first | exact Or.inl rfl | exact Or.inr rfl))) (fun _ _ _ _ _ => pts_mn (pts_one (pt_cmpR (op_self o.blk) (pv 14) (pe_ix (ix_self o.blk) (pv 1) (pv 10) (fun _ _ => rfl)) (by rfl)))) (fun _ _ _ _ _ => pe_mn (pv 14))) (pe_lst (pa_mn pa_nil)) (nomark _)))))
      (pss_one (ps_if (PW.pt (pw_or (pt_val (pv 11)) (pw_or1 (PW.pt (pw_and (pt_cmpR (op_self o) (C8.pe_c (ok_law_draw (P := P) (w := w) T) hr (by decide) (by rfl) (pa_cons (pv 2) (pa_cons pe_int pa_nil))) pe_int (nomark _)) (pw_and1 (pt_cmpR (op_self o) (pe_callB (cr_self o) (by rfl) (z_len T) b_len (pa_cons (pv 6) pa_nil)) pe_int (nomark _)))))))) (pss_one (ps_expr (pe_bmZ o PySem.F.plainAttrs_list PySem.F.slot_list_append PySem.F.type_list_append (mt_self o) (pe_mn (pv 6)) (pa_cons (pe_tup (pa_mn (pa_cons (pv 7) (pa_cons (pv 10) pa_nil)))) pa_nil)))) pss_nil))))))))
      (pss_one (ps_ret (pe_tup (pa_mn (pa_cons (pv 5) (pa_cons (pv 6) pa_nil))))))))))), ?_⟩
    walk_at "go"
    refine ⟨t, 4, rfl, ht, by omega, by omega, fun H1 m m0 m1 s1 => ?_⟩
    have ht1 := s1 _ _ ht
    have c11 := s1 _ _ c1
    walk_at "go"
    refine lcL (a := l) (xs := cs.map V.ref) [] (fun D i acc H' => ∃ hm : List Int, acc = hm.map V.int ∧ hm.length = i ∧ ∀ v ∈ hm, 0 ≤ v ∧ v < 1 + m) (by rw [List.length_map]; omega) c11 (by simp) (fun D H' nD sD hD => ⟨[], rfl, rfl, by simp⟩) (fun D i v acc H2 nD hx' hlj k2 hD ⟨hm, ea, el, hv⟩ => ?_) (fun D acc H2 nD hl2 k2 hD ⟨hm, ea, el, hv⟩ => ?_)
    · have s2 := keep0 k2
      obtain ⟨a, ha, rfl⟩ := map_at hx'
      have ht2 := s2 _ _ ht1
      walk_at "go"
      refine ⟨t, 1 + m, rfl, ht2, by omega, by omega, fun H3 v v0 v1 s3 => ?_⟩
      refine ⟨s3 _ _ hD, same_k0 (s2.trans s3), fun H4 k4 h4 => ⟨hm ++ [v], by rw [ea]; simp, by simp [el], fun u hu => ?_⟩⟩
      rcases List.mem_append.mp hu with z1 | z1
      · exact hv u z1
      · rw [List.mem_singleton.mp z1]
        exact ⟨v0, v1⟩
    · have s2 := keep0 k2
      rw [List.length_map, c2] at el
      rw [ea] at hD
      have s02 := s1.trans s2
      have ht2 := s02 _ _ ht
      have c12 := s02 _ _ c1
      obtain ⟨M, hM⟩ : ∃ M : Nat, 1 + m = (M : Int) := ⟨(1 + m).toNat, by omega⟩
      walk_at "go"
      refine lcR (n := M) hM [] (fun D2 i acc H' => ∃ rs : List Addr, acc = rs.map V.ref ∧ rs.length = i ∧ ∀ (k : Nat) (r : Addr), rs[k]? = some r → r ≠ D2 ∧ LIn H' r (rowF hm pcs.length k)) (by omega) (fun D2 H' nD2 sD2 hD2 => ⟨[], rfl, rfl, by simp⟩) (fun D2 i acc H3 nD2 hi hlj k3 hD2 ⟨rs, ea2, el2, hrs⟩ => ?_) (fun D2 acc H3 nD2 hl3 k3 hD2 ⟨rs, ea2, el2, hrs⟩ => ?_)
      · have s3 := keep0 k3
        have c13 := s3 _ _ c12
        walk_at "go"
        refine lcR (n := pcs.length) (by rw [List.length_map, c2]) [] (fun D3 j acc H' => acc = (((List.range j).filter fun p => decide (hm.getD p 0 = (i : Int))).map fun (p : Nat) => (p : Int)).map V.int) (by omega) (fun D3 H' nD3 sD3 hD3 => rfl) (fun D3 j acc3 H4 nD3 hj hlj3 k4 hD3 ea3 => ?_) (fun D3 acc3 H4 nD3 hl4 k4 hD3 ea3 => ?_)
        · have s4 := keep0 k4
          obtain ⟨hv, hhv⟩ : ∃ hv, hm[j]? = some hv := ⟨_, List.getElem?_eq_getElem (by omega)⟩
          have hD4 := s4 _ _ (s3 _ _ hD)
          have athv : (hm.map V.int)[j]? = some (V.int hv) := by rw [List.getElem?_map, hhv]; rfl
          have egd : hm.getD j 0 = hv := by rw [List.getD_eq_getElem?_getD, hhv]; rfl
          walk_at "go"
          by_cases hb : hv = (i : Int)
          · rw [decide_eq_true hb, if_pos rfl]
            walk_at "go"
            refine ⟨hD3, k4, fun H6 k6 h6 => ?_⟩
            rw [ea3, List.range_succ, List.filter_append]
            simp [hb, hhv]
          · rw [decide_eq_false hb, if_neg Bool.false_ne_true]
            refine ⟨hD3, k4, ?_⟩
            rw [ea3, List.range_succ, List.filter_append]
            simp [hb, hhv]
        · have s4 := keep0 k4
          rw [ea3] at hD3
          have D32 : D3 ≠ D2 := fun z => by rw [z, hD2] at nD3; cases nD3
          refine ⟨s4 _ _ hD2, same_k0 (s3.trans s4), fun H6 k6 h6 => ⟨rs ++ [D3], by rw [ea2]; simp, by simp [el2], fun k r e1 => ?_⟩⟩
          rcases app_at e1 with q1 | ⟨q1, q2⟩
          · obtain ⟨g1, g2⟩ := hrs k r q1
            exact ⟨g1, lin_new k6 (g2.same s4) g1⟩
          · rw [q1, q2, el2]
            exact ⟨D32, lin_new k6 hD3 D32⟩
      · have s3 := keep0 k3
        rw [ea2] at hD2
        have s03 := s02.trans s3
        have hDh3 := s3 _ _ hD
        have ht3 := s03 _ _ ht
        have c13 := s03 _ _ c1
        have hml : (hm.map V.int).length = pcs.length := by rw [List.length_map, el]
        walk_at "go"
        refine ⟨len0, fun lw H4 n4 s4 h4 => ?_⟩
        have c14 := s4 _ _ c13
        have hD4 := s4 _ _ hDh3
        have tail0 : ∀ (kr : SpL) (z : Int × Int), True := fun _ _ => trivial
        walk_at "go"
        refine forR (n := pcs.length) (by rw [List.length_map, c2]) (by omega) (fun i σ H' => Same H3 H' ∧ ∃ (ws : List (Int × Int)) (x7 x8 x9 x10 x11 : Option V), LO PrA H' lw ws ∧ (∀ z ∈ ws, 0 ≤ z.2 ∧ z.2 < z.1 ∧ z.1 < pcs.length) ∧ ws.length ≤ 20 + 12 * i ∧
          σ = [some (.ref p), some (.ref l), some (.ref t), some (.int (1 + m)), some (.ref D), some (.ref D2), some (.ref lw), x7, x8, x9, x10, x11, none, none, none]) ⟨s4, [], none, none, none, none, none, ⟨[], h4, rfl, by simp⟩, by simp, by simp, rfl⟩ (fun i σ H5 hi ⟨s5, ws, x7, x8, x9, x10, x11, hws, wk, wl, es⟩ => ?_) (fun σ H5 ⟨s5, ws, x7, x8, x9, x10, x11, hws, wk, wl, es⟩ => ?_)
        · subst es
          obtain ⟨ca, hca⟩ : ∃ ca, cs[i]? = some ca := ⟨_, List.getElem?_eq_getElem (by omega)⟩
          obtain ⟨pc, hpci⟩ : ∃ pc, pcs[i]? = some pc := ⟨_, List.getElem?_eq_getElem hi⟩
          obtain ⟨ks, hks, hz⟩ := c3 i ca pc hca hpci
          obtain ⟨pl4, pok⟩ := hpc pc (List.mem_of_getElem? hpci)
          have ksl : ks.length = pc.length := by rw [← hz]; simp [SpL.zs]
          have atca : (cs.map V.ref)[i]? = some (V.ref ca) := by rw [List.getElem?_map, hca]; rfl
          have s05 := s03.trans s5
          have c15 := s05 _ _ c1
          walk_at "go"
          refine ⟨len0, fun lr0 H6 n6 s6 h6 => ?_⟩
          have c16 := s6 _ _ c15
          have s06 := s05.trans s6
          have hk6 := (hks.same s06).1
          walk_at "go"
          refine forL (a := ca) (xs := ks.vs) (fun j σ H' => Same H6 H' ∧ ∃ (lr : Addr) (kr : SpL) (b : Option V), LSp H' lr kr ∧ H5 lr = none ∧ kr.length ≤ 3 * j ∧ σ = [some (.ref p), some (.ref l), some (.ref t), some (.int (1 + m)), some (.ref D), some (.ref D2), some (.ref lw), some (.int i), some (.ref lr), b, x10, x11, none, none, none]) ⟨Same.refl _, lr0, [], x9, ⟨h6, by simp⟩, n6, by simp, rfl⟩ (fun j σ H' hj ⟨e, _⟩ => e _ _ hk6) (fun j x σ H7 hx ⟨s7, lr, kr, b, hlr, nlr, krl, es⟩ => ?_) (fun σ H7 ⟨s7, lr, kr, b, hlr, nlr, krl, es⟩ => ?_)
          · subst es
            obtain ⟨kp, hkp, rfl⟩ := map_at hx
            have kpm := List.mem_of_getElem? hkp
            have jl := (List.getElem?_eq_some_iff.mp hkp).1
            have s07 := s06.trans s7
            have zm : kp.2 ∈ pc := by rw [← hz]; exact List.mem_map.mpr ⟨kp, kpm, rfl⟩
            walk_at "go"
            refine ⟨p, kp.1, sz, tk, R, kp.2, rfl, W.same s07, (hks.2 kp kpm).same s07, pok _ zm, fun H8 le ke s8 nle hle hlok hlf => ?_⟩
            have hlr8 := (hlr.same s8).1
            walk_at "go"
            refine v_cat hlr8 hle.1 (bigL (by simp only [SpL.vs, List.length_map]; omega)) fun lr2 H9 n9 s9 h9 => ?_
            walk_at "go"
            refine ⟨s7.trans (s8.trans s9), lr2, kr ++ ke, _, ⟨by rw [h9]; simp [SpL.vs], fun p' hp' => ?_⟩, (s6.trans (s7.trans s8)).free n9, by rw [List.length_append]; omega, rfl⟩
            rcases List.mem_append.mp hp' with z1 | z1
            · exact (hlr.2 p' z1).same (s8.trans s9)
            · exact (hle.2 p' z1).same s9
          · subst es
            have kvl : ks.vs.length = ks.length := by simp [SpL.vs]
            rw [kvl] at krl
            have s57 := s6.trans s7
            walk_at "go"
            refine forR (n := i) rfl (by omega) (fun j σ H' => Same H3 H' ∧ LSp H' lr kr ∧ ∃ (ws : List (Int × Int)) (x10 x11 : Option V), LO PrA H' lw ws ∧ (∀ z ∈ ws, 0 ≤ z.2 ∧ z.2 < z.1 ∧ z.1 < pcs.length) ∧ ws.length ≤ 20 + 12 * i + hitF kr.zs (pcs.take j).flatten ∧
              σ = [some (.ref p), some (.ref l), some (.ref t), some (.int (1 + m)), some (.ref D), some (.ref D2), some (.ref lw), some (.int i), some (.ref lr), b, x10, x11, none, none, none]) ⟨s5.trans s57, hlr, ws, x10, x11, lop_same hws s57, wk, by omega, rfl⟩ (fun j σ H8 hj ⟨s8, hlr8, ws, x10, x11, hws8, wk, wl, es⟩ => ?_) (fun σ H8 ⟨s8, hlr8, ws, x10, x11, hws8, wk, wl, es⟩ => ?_)
            · subst es
              obtain ⟨as, a1, a2, a3⟩ := id hws8
              obtain ⟨cb, hcb⟩ : ∃ cb, cs[j]? = some cb := ⟨_, List.getElem?_eq_getElem (by omega)⟩
              obtain ⟨pd, hpd⟩ : ∃ pd, pcs[j]? = some pd := ⟨_, List.getElem?_eq_getElem (by omega)⟩
              obtain ⟨kd, hkd, hzd⟩ := c3 j cb pd hcb hpd
              have atcb : (cs.map V.ref)[j]? = some (V.ref cb) := by rw [List.getElem?_map, hcb]; rfl
              obtain ⟨v1, hv1⟩ : ∃ v, hm[j]? = some v := ⟨_, List.getElem?_eq_getElem (by omega)⟩
              obtain ⟨v2, hv2⟩ : ∃ v, hm[i]? = some v := ⟨_, List.getElem?_eq_getElem (by omega)⟩
              have athv1 : (hm.map V.int)[j]? = some (V.int v1) := by rw [List.getElem?_map, hv1]; rfl
              have athv2 : (hm.map V.int)[i]? = some (V.int v2) := by rw [List.getElem?_map, hv2]; rfl
              have s08 := s03.trans s8
              have hD8 := s8 _ _ hDh3
              have krn : kr.length ≤ 12 := by omega
              have hitle := hitF_le (rd := kr.zs) (pv := (pcs.take j).flatten)
              have krz : kr.zs.length = kr.length := by simp [SpL.zs]
              have tk1 : (pcs.take (j + 1)).flatten = (pcs.take j).flatten ++ pd := by rw [List.take_add_one, hpd]; simp
              have lrw : lr ≠ lw := fun z => by obtain ⟨x, y, _⟩ := hws; rw [z, y] at nlr; cases nlr
              have ahl : as.length ≤ 500 := by omega
              -- the end of a step: with a new wait, without one
              have fin1 : ∀ (H9 H10 : Hp) (tp : Addr) (y10 y11 : Option V), Same H8 H9 → H9 tp = some (.tup [.int i, .int j]) → Keep [lw] H9 H10 → H10 lw = some (.lst (as.map V.ref ++ [V.ref tp])) → ws.length + 1 ≤ 20 + 12 * i + hitF kr.zs (pcs.take (j + 1)).flatten →
                  (Same H3 H10 ∧ LSp H10 lr kr ∧ ∃ (ws : List (Int × Int)) (x10 x11 : Option V), LO PrA H10 lw ws ∧ (∀ z ∈ ws, 0 ≤ z.2 ∧ z.2 < z.1 ∧ z.1 < pcs.length) ∧ ws.length ≤ 20 + 12 * i + hitF kr.zs (pcs.take (j + 1)).flatten ∧
                    [some (V.ref p), some (.ref l), some (.ref t), some (.int (1 + m)), some (.ref D), some (.ref D2), some (.ref lw), some (.int i), some (.ref lr), b, y10, y11, none, none, none] = [some (V.ref p), some (.ref l), some (.ref t), some (.int (1 + m)), some (.ref D), some (.ref D2), some (.ref lw), some (.int i), some (.ref lr), b, x10, x11, none, none, none]) := fun H9 H10 tp y10 y11 s9 htp k10 h10 hle => by
                have a19 := s9 _ _ a1
                have nl10 : Nol H9 H10 := k10.nolL a19
                refine ⟨same_of_new (s8.trans s9) n4 k10, LSp.keep (D := 0) (hlr8.same s9) nl10 (k10 _ _ (hlr8.same s9).1 (nin1 lrw)), ws ++ [((i : Int), (j : Int))], _, _, lo_app a2 (fun i' a z x y => (a3 i' a z x y).same s9) nl10.tups h10 htp, fun z hz => ?_, by rw [List.length_append]; exact hle, rfl⟩
                rcases List.mem_append.mp hz with z1 | z1
                · exact wk z z1
                · rw [List.mem_singleton.mp z1]
                  exact ⟨by show (0 : Int) ≤ j; omega, by show (j : Int) < i; omega, by show (i : Int) < pcs.length; omega⟩
              have fin2 : ∀ (H9 : Hp) (y10 y11 : Option V), Same H8 H9 →
                  (Same H3 H9 ∧ LSp H9 lr kr ∧ ∃ (ws : List (Int × Int)) (x10 x11 : Option V), LO PrA H9 lw ws ∧ (∀ z ∈ ws, 0 ≤ z.2 ∧ z.2 < z.1 ∧ z.1 < pcs.length) ∧ ws.length ≤ 20 + 12 * i + hitF kr.zs (pcs.take (j + 1)).flatten ∧
                    [some (V.ref p), some (.ref l), some (.ref t), some (.int (1 + m)), some (.ref D), some (.ref D2), some (.ref lw), some (.int i), some (.ref lr), b, y10, y11, none, none, none] = [some (V.ref p), some (.ref l), some (.ref t), some (.int (1 + m)), some (.ref D), some (.ref D2), some (.ref lw), some (.int i), some (.ref lr), b, x10, x11, none, none, none]) := fun H9 y10 y11 s9 => by
                refine ⟨s8.trans s9, hlr8.same s9, ws, _, _, lop_same hws8 s9, wk, ?_, rfl⟩
                rw [tk1]
                have := hitF_mono (rd := kr.zs) (pv := (pcs.take j).flatten) (pc := pd)
                omega
              walk_at "go"
              refine iteND (fun hne => ?_) (fun heq => ?_)
              · have hlr81 := hlr8.1
                walk_at "go"
                refine lcL (a := lr) (xs := kr.vs) [] (fun D5 n acc H' => ∃ k6 : SpL, acc = k6.vs ∧ (∀ p ∈ k6, SpA H' p.1 p.2) ∧ ∀ y ∈ k6.zs, y ∈ kr.zs ∧ y ∈ pd) (by simp only [SpL.vs, List.length_map]; omega) hlr81 (by simp) (fun D5 H' nD sD hD => ⟨[], rfl, by simp, by simp [SpL.zs]⟩) (fun D5 n x acc H9 nD5 hx hlj k9 hD5 ⟨kb, eb, hsb, hbn⟩ => ?_) (fun D5 acc H9 nD5 hl9 k9 hD5 ⟨kb, eb, hsb, hbn⟩ => ?_)
                · have s9 := keep0 k9
                  obtain ⟨kq, hkq, rfl⟩ := map_at hx
                  have kqm := List.mem_of_getElem? hkq
                  have hkq9 : SpA H9 kq.1 kq.2 := (hlr8.2 kq kqm).same s9
                  have s09 := s08.trans s9
                  have c19 := s09 _ _ c1
                  have hkd9 := hkd.same s09
                  walk_at "go"
                  refine v_inS hkq9 hkd9 ?_
                  by_cases hb : kq.2 ∈ kd.zs
                  · rw [decide_eq_true hb]
                    walk_at "go"
                    refine ⟨hD5, k9, fun H10 k10 h10 => ⟨kb ++ [kq], by rw [eb, spL_app]; rfl, fun p' hp' => ?_, fun y hy => ?_⟩⟩
                    · rcases List.mem_append.mp hp' with z1 | z1
                      · exact (hsb p' z1).nol (k10.nolL hD5)
                      · rw [List.mem_singleton.mp z1]
                        exact hkq9.nol (k10.nolL hD5)
                    · rw [spL_zapp] at hy
                      rcases List.mem_append.mp hy with z1 | z1
                      · exact hbn y z1
                      · have : y = kq.2 := by simpa [SpL.zs] using z1
                        rw [this]
                        exact ⟨List.mem_map.mpr ⟨kq, kqm, rfl⟩, by rw [← hzd]; exact hb⟩
                  · rw [decide_eq_false hb]
                    walk_at "go"
                    exact ⟨hD5, k9, kb, eb, hsb, hbn⟩
                · have s9 := keep0 k9
                  walk_at "go"
                  refine ⟨len0, fun e1 H9b n9b s9b h9b => ?_⟩
                  have hD9 : H9b D5 = some (.lst kb.vs) := by rw [← eb]; exact s9b _ _ hD5
                  refine v_neE (ks := kb) ⟨hD9, fun p' hp' => (hsb p' hp').same s9b⟩ h9b ?_
                  have s89 := s9.trans s9b
                  cases hbe : kb.isEmpty with
                  | true =>
                    walk_at "go"
                    have ht9 := (s08.trans s89) _ _ ht
                    walk_at "go"
                    refine ⟨t, 12, rfl, ht9, by omega, by omega, fun H10 v v0 v1 s10 => ?_⟩
                    have a110 := (s89.trans s10) _ _ a1
                    walk_at "go"
                    refine iteD (fun hb => ?_) (fun hb => ?_)
                    · walk_at "go"
                      refine iteD (fun hb2 => ?_) (fun hb2 => ?_)
                      · rw [List.length_map] at hb2
                        walk_at "go"
                        refine ⟨len2, fun tp H11 n11 s11 h11 => ?_⟩
                        have a111 := s11 _ _ a110
                        walk_at "go"
                        refine v_app a111 (small1000 (by rw [List.length_map]; omega)) fun H12 k12 h12 => ?_
                        walk_at "go"
                        exact fin1 _ _ tp _ _ (s89.trans (s10.trans s11)) h11 k12 h12 (by omega)
                      · walk_at "go"
                        exact fin2 _ _ _ (s89.trans s10)
                    · walk_at "go"
                      exact fin2 _ _ _ (s89.trans s10)
                  | false =>
                    have hne' : kb ≠ [] := by simpa using hbe
                    obtain ⟨b0, kb', rfl⟩ := List.exists_cons_of_ne_nil hne'
                    have hit : ∃ y ∈ kr.zs, y ∈ pd := ⟨b0.2, hbn b0.2 (by simp [SpL.zs])⟩
                    have hst := hitF_step (pv := (pcs.take j).flatten) (pcs_disj hnd hpd) hit
                    rw [← tk1] at hst
                    have a19 := s89 _ _ a1
                    walk_at "go"
                    refine ⟨len2, fun tp H11 n11 s11 h11 => ?_⟩
                    have a111 := s11 _ _ a19
                    walk_at "go"
                    refine v_app a111 (small1000 (by rw [List.length_map]; omega)) fun H12 k12 h12 => ?_
                    walk_at "go"
                    exact fin1 _ _ tp _ _ (s89.trans s11) h11 k12 h12 (by omega)
              · have s88 : Same H8 H8 := Same.refl _
                walk_at "go"
                have ht9 := (s08.trans s88) _ _ ht
                walk_at "go"
                refine ⟨t, 12, rfl, ht9, by omega, by omega, fun H10 v v0 v1 s10 => ?_⟩
                have a110 := (s88.trans s10) _ _ a1
                walk_at "go"
                refine iteD (fun hb => ?_) (fun hb => ?_)
                · walk_at "go"
                  refine iteD (fun hb2 => ?_) (fun hb2 => ?_)
                  · rw [List.length_map] at hb2
                    walk_at "go"
                    refine ⟨len2, fun tp H11 n11 s11 h11 => ?_⟩
                    have a111 := s11 _ _ a110
                    walk_at "go"
                    refine v_app a111 (small1000 (by rw [List.length_map]; omega)) fun H12 k12 h12 => ?_
                    walk_at "go"
                    exact fin1 _ _ tp _ _ (s88.trans (s10.trans s11)) h11 k12 h12 (by omega)
                  · walk_at "go"
                    exact fin2 _ _ _ (s88.trans s10)
                · walk_at "go"
                  exact fin2 _ _ _ (s88.trans s10)
            · subst es
              walk_at "go"
              have hitle := hitF_le (rd := kr.zs) (pv := (pcs.take i).flatten)
              have krz : kr.zs.length = kr.length := by simp [SpL.zs]
              exact ⟨s8, ws, _, _, _, _, _, hws8, wk, by omega, rfl⟩
        · subst es
          walk_at "go"
          refine ⟨len2, fun u H6 n6 s6 h6 => ?_⟩
          have hMl : (hsF hm pcs.length M).length = M := by simp [hsF]
          refine q H6 u D2 lw (hsF hm pcs.length M) ws (s03.trans (s5.trans s6)) h6 ⟨rs, s6 _ _ (s5 _ _ hD2), by rw [el2, hMl], fun k r z e1 e2 => ?_⟩ (lop_same hws s6) (by omega) (by omega) (deal_hs el (fun v hv' => by have := hv v hv'; omega) wk) (by omega)
          have : z = rowF hm pcs.length k := by
            unfold hsF at e2
            rw [List.getElem?_map, List.getElem?_range (by have := (List.getElem?_eq_some_iff.mp e1).1; omega)] at e2
            exact (Option.some.inj e2).symm
          rw [this]
          exact ((hrs k r e1).2.same s5).same s6
end
end
section
set_option maxHeartbeats 4000000
theorem len_le_flat {α : Type} : ∀ {pcs : List (List α)}, (∀ pc ∈ pcs, pc ≠ []) → pcs.length ≤ pcs.flatten.length
  | [], _ => Nat.le_refl _
  | pc :: pcs, h => by
    have := len_le_flat (pcs := pcs) fun x hx => h x (List.mem_cons_of_mem _ hx)
    have := List.length_pos_iff.mpr (h pc List.mem_cons_self)
    rw [List.flatten_cons, List.length_append, List.length_cons]
    omega
section
variable {P : Program} {w : World} {K : PySem.W.Frag} {mg : Str → Option Value} {base : Heap}
/-! ### _law_made -/
def spMade (K : PySem.W.Frag) : Sp := fun vs H Q _ => ∃ (a : Addr) (ns : List Int), vs = [.ref a] ∧ SqL K H a (ns.map V.int) ∧ (∀ H', Same H H' → SqL K H' a (ns.map V.int)) ∧
  ∀ H' u wd j lr pt lwn lp lh lw (sz : List Int) (R : Nat) (ks : SpL) (pcs : List (List Sp2)) (hs : List (List Int)) (ws : List (Int × Int)) (wn : List Sp2), Same H H' → H' u = some (.tup [.ref wd, .ref j, .ref lr, .ref pt, .ref lwn]) → H' pt = some (.tup [.ref lp, .ref lh, .ref lw]) →
    SzOk sz → R ≤ 5 → JobA H' j sz R → LSp H' lr ks → (ks.zs).Perm (spotsF R sz) → ks.length ≤ 30 → LO LSz H' lp pcs → pcs.flatten = ks.zs → (∀ pc ∈ pcs, pc ≠ [] ∧ pc.length ≤ 4) → LO LIn H' lh hs → LO PrA H' lw ws → 1 ≤ hs.length → hs.length ≤ 4 → Deal pcs.length hs ws → ws.length ≤ 400 →
    LSz H' lwn wn → wn.length ≤ 30 → wn.Nodup → (∀ z ∈ wn, SpOk R sz z) → Q (.ref u) H'
theorem sc83 : FnScope ["_law_script", "_law_world_here", "_law_tape_here", "_law_job_here", "_law_row_here", "_law_pieces_here", "_law_hands", "_law_waits", "_law_wanted", "_law_spot"] ["_law_script"] (C8.fnScope st83) := C8.fnScope_by (by decide +kernel)
theorem ok_law_made (T : Txt K mg) : C8.Cal P w K mg base 13 "_law_made" (spMade K) [] := by
  refine cal_by (k := 12) (T.df 83 _ rfl) (g_law_made T) sc83 (fun _ _ _ _ us hl => match us, hl with | [_], _ => rfl) (fun vs H Q E h => ?_) (fun A outer s H vs Q E hr o h => ?_)
  · obtain ⟨a, ns, rfl, _⟩ := h
    rfl
  · obtain ⟨a, ns, rfl, hsq, hsq', q⟩ := h
    refine ⟨_, (pss_cons (ps_set (i := 1) (sc83).nd rfl (by first | exact Or.inl rfl | exact Or.inr rfl) (C8.pe_c (ok_law_world (P := P) (w := w) T) hr (by decide) (by rfl) (pa_cons (C8.pe_c (ok_law_tape (P := P) (w := w) T) hr (by decide) (by rfl) (pa_cons (C8.pe_c (ok_law_cell_at (P := P) (w := w) T) hr (by decide) (by rfl) (pa_cons (pv 0) (pa_cons pe_int pa_nil))) pa_nil)) pa_nil)))
      (pss_cons (ps_set (i := 2) (sc83).nd rfl (by first | exact Or.inl rfl | exact Or.inr rfl) (C8.pe_c (ok_law_tape (P := P) (w := w) T) hr (by decide) (by rfl) (pa_cons (C8.pe_c (ok_law_cell_at (P := P) (w := w) T) hr (by decide) (by rfl) (pa_cons (pv 0) (pa_cons pe_int pa_nil))) pa_nil)))
      (pss_cons (ps_set (i := 3) (sc83).nd rfl (by first | exact Or.inl rfl | exact Or.inr rfl) (C8.pe_c (ok_law_job (P := P) (w := w) T) hr (by decide) (by rfl) (pa_cons (pv 1) (pa_cons (pv 2) pa_nil))))
      (pss_cons (ps_set (i := 4) (sc83).nd rfl (by first | exact Or.inl rfl | exact Or.inr rfl) (C8.pe_c (ok_law_row (P := P) (w := w) T) hr (by decide) (by rfl) (pa_cons (pv 1) (pa_cons (pv 2) pa_nil))))
      (pss_cons (ps_set (i := 5) (sc83).nd rfl (by first | exact Or.inl rfl | exact Or.inr rfl) (C8.pe_c (ok_law_pieces (P := P) (w := w) T) hr (by decide) (by rfl) (pa_cons (pv 4) (pa_cons (pv 2) pa_nil))))
      (pss_cons (ps_asg (C8.pe_c (ok_law_dealt (P := P) (w := w) T) hr (by decide) (by rfl) (pa_cons (pv 1) (pa_cons (pv 5) (pa_cons (pv 2) pa_nil)))) (pg_tupZ (n := 2) o (pgs_cons (pg_name (i := 6) (sc83).nd (by rfl) (by first | exact Or.inl rfl | exact Or.inr rfl)) (pgs_cons (pg_name (i := 7) (sc83).nd (by rfl) (by first | exact Or.inl rfl | exact Or.inr rfl)) pgs_nil))))
      (pss_cons (ps_setLc (i := 8) (own := [("_law_spot", 9)]) rfl (sc83).nd rfl rfl (sw_true rfl rfl rfl (by decide +kernel)) (pi_listZ o (pv 4)) (blkOk_by (own := [("_law_spot", 9)]) (by kernel_rfl)) (fun _ _ _ _ _ => pg_mn (pg_name (i := 9) (sc83).nd (by rfl) (by first | exact Or.inl rfl | exact Or.inr rfl))) (fun _ _ _ _ _ => pts_mn (pts_one (pt_cmpR (op_self o.blk) (C8.pe_c (ok_law_draw (P := P) (w := w) T) hr (by decide) (by rfl) (pa_cons (pv 2) (pa_cons pe_int pa_nil))) pe_int (nomark _)))) (fun _ _ _ _ _ => pe_mn (pv 9)))
      (pss_one (ps_ret (pe_tup (pa_mn (pa_cons (pv 1) (pa_cons (pv 3) (pa_cons (pv 4) (pa_cons (pe_tup (pa_mn (pa_cons (pv 5) (pa_cons (pv 6) (pa_cons (pv 7) pa_nil))))) (pa_cons (pv 8) pa_nil)))))))))))))))), ?_⟩
    walk_at "go"
    refine ⟨a, ns, 0, rfl, hsq, by omega, fun c0 => ?_⟩
    walk_at "go"
    refine ⟨c0, rfl, fun H1 t0 n1 s1 ht0 => ?_⟩
    walk_at "go"
    refine ⟨t0, rfl, ht0, fun H2 p sz tk R s2 W => ?_⟩
    walk_at "go"
    refine ⟨a, ns, 1, rfl, hsq' _ (s1.trans s2), by omega, fun c1 => ?_⟩
    walk_at "go"
    refine ⟨c1, rfl, fun H3 t n3 s3 ht => ?_⟩
    walk_at "go"
    have W3 := W.same s3
    refine ⟨p, t, sz, tk, R, rfl, W3, ht, fun H4 j s4 J => ?_⟩
    walk_at "go"
    have W4 := W3.same s4
    have ht4 := s4 _ _ ht
    refine ⟨p, t, sz, tk, R, rfl, W4, ht4, fun H5 lr ks s5 nlr hlr hperm => ?_⟩
    have wok := W.ok
    have h30 : (spotsF R sz).length ≤ 30 := by
      rw [spotsF_len]
      calc R * (placesF sz).length ≤ 5 * 6 := Nat.mul_le_mul W.hR (places_len wok).1
        _ = 30 := rfl
    have kl : ks.length = ks.zs.length := by simp [SpL.zs]
    have kle := hperm.length_eq
    have knd : (ks.zs).Nodup := hperm.nodup_iff.mpr (spotsF_nodup wok)
    have kok : ∀ z ∈ ks.zs, SpOk R sz z := fun z hz => mem_spotsF.mp (hperm.mem_iff.mp hz)
    walk_at "go"
    refine ⟨lr, t, ks, rfl, hlr, by omega, s5 _ _ ht4, fun H6 lp pcs s6 nlp hlp hfl hpc => ?_⟩
    have pfl := len_le_flat fun pc hp => (hpc pc hp).1
    rw [hfl] at pfl
    have W6 := (W4.same s5).same s6
    have ht6 := s6 _ _ (s5 _ _ ht4)
    walk_at "go"
    refine ⟨p, lp, t, sz, tk, R, pcs, rfl, W6, hlp, by omega, ht6, fun pc hp => ⟨(hpc pc hp).2, fun z hz => kok z (by rw [← hfl]; exact List.mem_flatten.mpr ⟨pc, hp, hz⟩)⟩, by rw [hfl]; exact knd, fun H7 u lh lw hs ws s7 hu hlh hlw h1 h4 Dl wl => ?_⟩
    walk_at "go"
    have hlr7 := (hlr.same s6).same s7
    have lr71 := hlr7.1
    walk_at "go"
    refine lcL (a := lr) (xs := ks.vs) [] (fun D i acc H' => ∃ k6 : SpL, acc = k6.vs ∧ (k6.zs).Sublist ((ks.zs).take i) ∧ ∀ p ∈ k6, SpA H' p.1 p.2) (by simp only [SpL.vs, List.length_map]; omega) lr71 (by simp) (fun D H' nD sD hD => ⟨[], rfl, by simp [SpL.zs], by simp⟩) (fun D i x acc H8 nD hx hlj k8 hD ⟨kb, eb, hsub, hsb⟩ => ?_) (fun D acc H8 nD hl8 k8 hD ⟨kb, eb, hsub, hsb⟩ => ?_)
    · have s8 := keep0 k8
      obtain ⟨kp, hkp, rfl⟩ := map_at hx
      have kpm := List.mem_of_getElem? hkp
      have ezi : (ks.zs)[i]? = some kp.2 := by simp [SpL.zs, hkp]
      have ht8 := s8 _ _ (s7 _ _ ht6)
      have hkp8 : SpA H8 kp.1 kp.2 := (hlr7.2 kp kpm).same s8
      walk_at "go"
      refine ⟨t, 3, rfl, ht8, by omega, by omega, fun H9 v v0 v1 s9 => ?_⟩
      walk_at "go"
      have hD9 := s9 _ _ hD
      by_cases hb : v = 0
      · rw [decide_eq_true hb]
        walk_at "go"
        try rw [if_pos rfl]
        walk_at "go"
        refine ⟨hD9, same_k0 (s8.trans s9), fun H10 k10 h10 => ⟨kb ++ [kp], by rw [eb, spL_app]; rfl, ?_, fun p' hp' => ?_⟩⟩
        · rw [spL_zapp, List.take_add_one, ezi]
          exact hsub.append (List.Sublist.refl _)
        · rcases List.mem_append.mp hp' with z1 | z1
          · exact ((hsb p' z1).same s9).nol (k10.nolL hD9)
          · rw [List.mem_singleton.mp z1]
            exact (hkp8.same s9).nol (k10.nolL hD9)
      · rw [decide_eq_false hb]
        walk_at "go"
        try rw [if_neg Bool.false_ne_true]
        refine ⟨hD9, same_k0 (s8.trans s9), kb, eb, ?_, fun p' hp' => (hsb p' hp').same s9⟩
        rw [List.take_add_one, ezi]
        exact hsub.trans (List.sublist_append_left _ _)
    · have s8 := keep0 k8
      have vl : ks.vs.length = ks.zs.length := by simp [SpL.vs, SpL.zs]
      rw [vl, List.take_of_length_le (Nat.le_refl _)] at hsub
      walk_at "go"
      refine ⟨len3, fun pt H9 n9 s9 h9 => ?_⟩
      walk_at "go"
      refine ⟨len5, fun u' H10 n10 s10 h10 => ?_⟩
      have s810 := s9.trans s10
      have s710 := s8.trans s810
      have s57 := s6.trans s7
      exact q H10 u' p j lr pt D lp lh lw sz R ks pcs hs ws kb.zs (s1.trans (s2.trans (s3.trans (s4.trans (s5.trans (s57.trans s710)))))) h10 (s10 _ _ h9) wok W.hR (J.same (s5.trans (s57.trans s710))) (hlr.same (s57.trans s710)) hperm (by omega) (los_same hlp (s7.trans s710)) hfl hpc (loi_same hlh s710) (lop_same hlw s710) h1 h4 Dl wl
        ⟨kb, ⟨by rw [← eb]; exact s810 _ _ hD, fun p' hp' => (hsb p' hp').same s810⟩, rfl⟩ (by have := hsub.length_le; omega) (knd.sublist hsub) (fun z hz => kok z (hsub.subset hz))
/-! ### _law_at_work -/
def spAW : Sp := fun vs H Q _ => ∃ (lh lt : Addr) (t : Int) (p : Pp) (E : Int → Int), vs = [.ref lh, .ref lt, .int t] ∧ LO LIn H lh p.hs ∧ p.Ok ∧ PaT p E ∧ LO PrA H lt (tmF E (lensF p)) ∧ ∀ H' f, Same H H' → H f = none → LO PrA H' f (wkF p.hs (bE p E) E t p.hs.length) → Q (.ref f) H'
theorem sc84 : FnScope ["_law_hands", "_law_times", "_law_now", "_law_found", "_law_hand", "_law_row_here", "_law_piece"] ["_law_hands", "_law_times", "_law_now"] (C8.fnScope st84) := C8.fnScope_by (by decide +kernel)
theorem ok_law_at_work (T : Txt K mg) : C8.Cal P w K mg base 1 "_law_at_work" spAW [] := by
  refine cal_by (k := 0) (T.df 84 _ rfl) (g_law_at_work T) sc84 (fun _ _ _ _ us hl => match us, hl with | [_, _, _], _ => rfl) (fun vs H Q E h => ?_) (fun A outer s H vs Q E0 hr o h => ?_)
  · obtain ⟨lh, lt, t, p, E, rfl, _⟩ := h
    rfl
  · obtain ⟨lh, lt, t, p, E, rfl, ⟨bs, b1, b2, b3⟩, pok, pt, hlt, q⟩ := h
    have C := pt.clock pok
    have hl4 := pok.hl.2
    have hfew : ∀ row ∈ p.hs, row.length ≤ 60 := fun row hr => by
      have h1 := pok.hp.length_eq
      rw [List.length_map, List.length_range] at h1
      have h3 := row_le hr
      have := pok.pl
      omega
    refine ⟨_, (pss_cons (ps_set (i := 3) (sc84).nd rfl (by first | exact Or.inl rfl | exact Or.inr rfl) (pe_lst (pa_mn pa_nil)))
      (pss_cons (ps_for PassesOwn.never rfl (pi_enumZ o (by rfl) (z_enumerate T) (pa_cons (pv 0) pa_nil)) (pg_tupZ (n := 2) o (pgs_cons (pg_name (i := 4) (sc84).nd (by rfl) (by first | exact Or.inl rfl | exact Or.inr rfl)) (pgs_cons (pg_name (i := 5) (sc84).nd (by rfl) (by first | exact Or.inl rfl | exact Or.inr rfl)) pgs_nil))) (pss_one (ps_expr (pe_bmZ o PySem.F.plainAttrs_list PySem.F.slot_list_extend PySem.F.type_list_extend (mt_self o) (pe_mn (pv 3)) (pa_cons (pe_lc (own := [("_law_piece", 6)]) rfl (sc84).nd (pi_listZ o (pv 5)) (blkOk_by (own := [("_law_piece", 6)]) (by kernel_rfl)) (fun _ _ _ _ _ => pg_mn (pg_name (i := 6) (sc84).nd (by rfl) (by first | exact Or.inl rfl | exact Or.inr rfl))) (fun _ _ _ _ _ => pts_mn (pts_one (PW.pt (pw_and (pt_cmpR (op_self o.blk) (pe_ix (ix_self o.blk) (pe_ix (ix_self o.blk) (pv 1) (pv 6) (fun _ _ => rfl)) pe_int (fun _ _ => rfl)) (pv 2) (nomark _)) (pw_and1 (pt_cmpR (op_self o.blk) (pv 2) (pe_ix (ix_self o.blk) (pe_ix (ix_self o.blk) (pv 1) (pv 6) (fun _ _ => rfl)) pe_int (fun _ _ => rfl)) (nomark _))))))) (fun _ _ _ _ _ => pe_mn (pe_tup (pa_mn (pa_cons (pv 4) (pa_cons (pv 6) pa_nil)))))) pa_nil)))))
      (pss_one (ps_ret (pv 3))))), ?_⟩
    walk_at "go"
    refine ⟨len0, fun f H1 n1 s1 h1 => ?_⟩
    have b1' := s1 _ _ b1
    walk_at "go"
    refine forZ we (fun i σ H' => Same H H' ∧ LO PrA H' f (wkF p.hs (bE p E) E t i) ∧ ∃ (x y : Option V), σ = [some (.ref lh), some (.ref lt), some (.int t), some (.ref f), x, y, none]) ⟨s1, ⟨[], h1, rfl, by simp⟩, none, none, rfl⟩ (fun i σ H' hi ⟨e, _⟩ => e _ _ b1) (fun i x σ H2 H3 hi ⟨s2, hf, x1, y1, es⟩ y => ?_) (fun σ H2 ⟨s2, hf, x1, y1, es⟩ => ?_)
    · subst es
      obtain ⟨Tt, u1, u2, rfl, nT, rfl, hu1, hu2⟩ := y
      cases hu1
      obtain ⟨ra, hra, rfl⟩ := map_at hu2
      have hil : i < p.hs.length := by rw [List.length_map] at hi; omega
      obtain ⟨row, hrow⟩ : ∃ row, p.hs[i]? = some row := ⟨_, List.getElem?_eq_getElem hil⟩
      have rl := hfew row (List.mem_of_getElem? hrow)
      have hm : ∀ x ∈ row, 0 ≤ x ∧ x < p.pcs.length := fun x hx => by
        obtain ⟨j, hj⟩ := List.mem_iff_getElem?.mp hx
        exact pt.D.mem hrow hj
      have hT : upd H2 Tt (.tup [V.int (i : Nat), V.ref ra]) Tt = some (.tup [V.int (i : Nat), V.ref ra]) := upd_same
      have sT : Same H2 (upd H2 Tt (.tup [V.int (i : Nat), V.ref ra])) := same_new nT
      generalize upd H2 Tt (.tup [V.int (i : Nat), V.ref ra]) = H3 at hT sT ⊢
      have s3 := s2.trans sT
      obtain ⟨fs, f1, f2, f3⟩ := lop_same hf sT
      have hra3 : H3 ra = some (.lst (row.map V.int)) := (b3 i ra row hra hrow).same s3
      have wl := wkF_len (t := t) (m := i) (by omega) C.up
      have wl2 := wkF_len (t := t) (m := i + 1) (by omega) C.up
      have egd : p.hs.getD i [] = row := by rw [List.getD_eq_getElem?_getD, hrow]; rfl
      walk_at "go"
      refine lcL (a := ra) (xs := row.map V.int) [] (fun D j acc H' => ∃ rs : List Addr, acc = rs.map V.ref ∧ rs.length = ((row.take j).filter (awk (bE p E) E t)).length ∧ ∀ (k : Nat) (a : Addr) (x : Int), rs[k]? = some a → ((row.take j).filter (awk (bE p E) E t))[k]? = some x → H' a = some (.tup [.int i, .int x])) (by rw [List.length_map]; omega) hra3 (by simp) (fun D H' nD sD hD => ⟨[], rfl, rfl, by simp⟩) (fun D j v acc H4 nD hx' hlj k4 hD ⟨rs, ea, el, hrs⟩ => ?_) (fun D acc H4 nD hl4' k4 hD ⟨rs, ea, el, hrs⟩ => ?_)
      · have s4 := keep0 k4
        obtain ⟨y, hy, rfl⟩ := map_at hx'
        obtain ⟨y0, y1⟩ := hm y (List.mem_of_getElem? hy)
        obtain ⟨c, cs, q1, q2, q3⟩ := tmA_at (lop_same hlt (s3.trans s4)) y0 y1
        have tk1 : (row.take (j + 1)).filter (awk (bE p E) E t) = (row.take j).filter (awk (bE p E) E t) ++ (if awk (bE p E) E t y = true then [y] else []) := by
          rw [List.take_add_one, hy, List.filter_append]
          by_cases h : awk (bE p E) E t y = true
          · simp [h]
          · simp [h]
        have no : ¬ (bE p E y ≤ t ∧ t < E y) → H4 D = some (.lst acc) ∧ Keep [] H3 H4 ∧ ∃ rs : List Addr, acc = rs.map V.ref ∧ rs.length = ((row.take (j + 1)).filter (awk (bE p E) E t)).length ∧ ∀ (k : Nat) (a : Addr) (x : Int), rs[k]? = some a → ((row.take (j + 1)).filter (awk (bE p E) E t))[k]? = some x → H4 a = some (.tup [.int i, .int x]) := fun h => by
          rw [tk1, if_neg (fun z => h (awk_iff.mp z)), List.append_nil]
          exact ⟨hD, k4, rs, ea, el, hrs⟩
        walk_at "go"
        by_cases hb : bE p E y ≤ t
        · rw [decide_eq_true hb]
          walk_at "go"
          by_cases hb2 : t < E y
          · rw [decide_eq_true hb2]
            walk_at "go"
            try rw [if_pos rfl]
            walk_at "go"
            refine ⟨len2, fun tp H5 n5 s5 h5 => ?_⟩
            refine ⟨s5 _ _ hD, same_k0 (s4.trans s5), fun H6 k6 h6 => ⟨rs ++ [tp], by rw [ea]; simp, ?_, fun k a x e1 e2 => ?_⟩⟩
            · rw [tk1, if_pos (awk_iff.mpr ⟨hb, hb2⟩)]
              simp [el]
            · have tt := (k6.nolL (s5 _ _ hD)).tups
              rw [tk1, if_pos (awk_iff.mpr ⟨hb, hb2⟩)] at e2
              rcases app_at e1 with z1 | ⟨z1, z2⟩
              · rw [List.getElem?_append_left (by have := (List.getElem?_eq_some_iff.mp z1).1; omega)] at e2
                exact tt _ _ (s5 _ _ (hrs k a x z1 e2))
              · rw [z1, el, List.getElem?_append_right (Nat.le_refl _)] at e2
                simp at e2
                rw [z2, ← e2]
                exact tt _ _ h5
          · rw [decide_eq_false hb2]
            walk_at "go"
            try rw [if_neg Bool.false_ne_true]
            exact no (fun z => hb2 z.2)
        · rw [decide_eq_false hb]
          walk_at "go"
          try rw [if_neg Bool.false_ne_true]
          exact no (fun z => hb z.1)
      · have s4 := keep0 k4
        rw [List.length_map, List.take_of_length_le (Nat.le_refl _)] at el hrs
        rw [ea] at hD
        have f14 := s4 _ _ f1
        have sn : wkF p.hs (bE p E) E t (i + 1) = wkF p.hs (bE p E) E t i ++ (row.filter (awk (bE p E) E t)).map fun x => ((i : Int), x) := by rw [wkF_snoc, egd]
        walk_at "go"
        refine v_ext f14 hD (bigL (by rw [List.length_map, List.length_map, f2, el]; rw [sn, List.length_append, List.length_map] at wl2; omega)) fun H5 k5 h5 => ?_
        walk_at "go"
        have tt := (k5.nolL f14).tups
        refine ⟨same_of_new (s3.trans s4) n1 k5, ⟨fs ++ rs, by rw [h5]; simp, by rw [sn]; simp [f2, el], fun k a z e1 e2 => ?_⟩, _, _, rfl⟩
        rw [sn] at e2
        by_cases hk : k < fs.length
        · rw [List.getElem?_append_left hk] at e1
          rw [List.getElem?_append_left (by omega)] at e2
          exact tt _ _ (s4 _ _ (f3 k a z e1 e2))
        · rw [List.getElem?_append_right (by omega)] at e1
          rw [List.getElem?_append_right (by omega), List.getElem?_map] at e2
          rw [← f2] at e2
          cases hx : (row.filter (awk (bE p E) E t))[k - fs.length]? with
          | none => rw [hx] at e2; cases e2
          | some x =>
            rw [hx] at e2
            cases e2
            exact tt _ _ (hrs _ a x e1 hx)
    · subst es
      walk_at "go"
      rw [List.length_map, b2] at hf
      exact q H2 f s2 n1 hf
end
end
section
set_option maxHeartbeats 4000000
open LamX NdefX
theorem inV_int {i : Int} : ∀ {ns : List Int}, inV (.int i) (ns.map V.int) = decide (i ∈ ns)
  | [] => rfl
  | n :: ns => by
    have ih := inV_int (i := i) (ns := ns)
    unfold inV at ih ⊢
    rw [List.map_cons, List.any_cons, ih]
    by_cases h : n = i
    · subst h
      simp [eqV]
    · have h' : ¬ i = n := fun z => h z.symm
      simp [eqV, h, h']
theorem flat_ints : ∀ {ns : List Int}, (ns.map V.int).all flatV = true
  | [] => rfl
  | n :: ns => by
    rw [List.map_cons, List.all_cons, flat_ints]
    rfl
theorem v_ninI {P : Program} {w : World} {K : PySem.W.Frag} {H : Hp} {Q : VK} {l : Addr} {i : Int} {ns : List Int} (hl : H l = some (.lst (ns.map V.int))) (q : Q (.bl (!decide (i ∈ ns))) H) : OpV P w K (compareOp .NotIn) (.int i) (.ref l) H Q := by
  intro X o
  obtain ⟨rfl, rfl, rfl, hc, hu⟩ := o
  refine ⟨_, op_notIn_seq, ⟨l, _, rfl, .inl (SqL.of hl), rfl, flat_ints, ?_⟩⟩
  rw [inV_int]
  exact q
/-! ### the run in its heap -/
section
variable {P : Program} {w : World} {F H H' : Hp} {r pa la ll lm lo lx : Addr} {p : Pp} {ats : List (Int × Int)} {left : List Int} {k : Nat}
theorem RunF.keep1 {li : Addr} {xs : List V} (h : RunF P w F H r pa la ll lm lo lx p ats left k) (hli : H li = some (.lst xs)) (nF : F li = none) (ni : li ∉ RunS la ll lm lo lx) (kk : Keep [li] H H') : RunF P w F H' r pa la ll lm lo lx p ats left k := by
  simp only [RunS, List.mem_cons, List.mem_nil_iff, or_false, not_or] at ni
  obtain ⟨n1, n2, n3, n4, n5, n6, n7⟩ := ni
  have nl := kk.nolL hli
  exact { h with
    sF := same_of_new h.sF nF kk
    ha := by obtain ⟨as, a1, a2, a3⟩ := h.ha; exact ⟨as, kk _ _ a1 (nin1 (Ne.symm n1)), a2, fun i a z x y => nl _ _ (a3 i a z x y) rfl⟩
    hl := kk _ _ h.hl (nin1 (Ne.symm n2))
    hm := h.hm.keep nl.tups fun kvs e => kk _ _ e (nin1 (Ne.symm n3))
    ho := by obtain ⟨od, a, b⟩ := h.ho; exact ⟨od, kk _ _ a (nin1 (Ne.symm n4)), b⟩
    hx := by obtain ⟨od, a, b⟩ := h.hx; exact ⟨od, kk _ _ a (nin1 (Ne.symm n5)), b⟩
    ht := fun pr hp => by
      obtain ⟨ps, b1, b2, b3⟩ := h.ht pr hp
      refine ⟨ps, kk _ _ b1 (nin1 (ne_of b1 hli (fun z => nomatch z))), b2, fun p' cv hcv => ?_⟩
      obtain ⟨c0, d1, d2⟩ := b3 p' cv hcv
      exact ⟨c0, d1, kk _ _ d2 (nin1 (ne_of d2 hli (fun z => by unfold CodeO at z; cases z)))⟩ }
theorem RunF.tupS {a : Addr} {xs : List V} (h : RunF P w F H r pa la ll lm lo lx p ats left k) (ha : H a = some (.tup xs)) : a ∉ RunS la ll lm lo lx := by
  obtain ⟨as, a1, _⟩ := h.ha
  obtain ⟨kv, a2, _⟩ := h.hm
  obtain ⟨od, a3, _⟩ := h.ho
  obtain ⟨am, a4, _⟩ := h.hx
  have a5 : H ll = _ := h.hl
  obtain ⟨p1, b1, _⟩ := h.ht _ (List.mem_cons_self)
  obtain ⟨p2, b2, _⟩ := h.ht _ (List.mem_cons_of_mem _ List.mem_cons_self)
  simp only [RunS, List.mem_cons, List.mem_nil_iff, or_false, not_or]
  exact ⟨ne_of ha a1 (fun z => nomatch z), ne_of ha a5 (fun z => nomatch z), ne_of ha a2 (fun z => nomatch z), ne_of ha a3 (fun z => nomatch z), ne_of ha a4 (fun z => nomatch z), ne_of ha b1 (fun z => nomatch z), ne_of ha b2 (fun z => nomatch z)⟩
theorem RunF.newS {a : Addr} (h : RunF P w F H r pa la ll lm lo lx p ats left k) (ha : H a = none) : a ∉ RunS la ll lm lo lx := fun m => h.occ a m ha
theorem keep_tab {H0 : Hp} (k : Keep [534, 732] H0 H) (kk : Keep (RunS la ll lm lo lx) H H') (n1 : H0 la = none) (n2 : H0 ll = none) (n3 : H0 lm = none) (n4 : H0 lo = none) (n5 : H0 lx = none) : Keep [534, 732] H0 H' := fun b o e n => by
  refine kk b o (k b o e n) ?_
  simp only [List.mem_cons, List.mem_nil_iff, or_false, not_or] at n
  simp only [RunS, List.mem_cons, List.mem_nil_iff, or_false, not_or]
  exact ⟨ne_of_none e n1, ne_of_none e n2, ne_of_none e n3, ne_of_none e n4, ne_of_none e n5, n.1, n.2⟩
end
/-! ### the last end -/
theorem ends_eq {p : Pp} {E : Int → Int} : (tmF E (lensF p)).map (·.2) = (List.range p.pcs.length).map fun (i : Nat) => E i := by
  simp [tmF, lensF_len]
theorem end_ge {p : Pp} {E : Int → Int} {x : Int} (h0 : 0 ≤ x) (h1 : x < p.pcs.length) : E x ≤ endF p E := by
  unfold endF
  rw [ends_eq]
  exact mxd_ge (List.mem_map.mpr ⟨x.toNat, by rw [List.mem_range]; omega, by rw [show ((x.toNat : Nat) : Int) = x by omega]⟩)
theorem end_lt {p : Pp} {E : Int → Int} {t : Int} (h0 : 0 ≤ t) (h : t < endF p E) : ∃ x : Int, 0 ≤ x ∧ x < p.pcs.length ∧ t < E x := by
  unfold endF at h
  rw [ends_eq] at h
  by_cases hn : (List.range p.pcs.length).map (fun (i : Nat) => E i) = []
  · rw [hn] at h
    exact absurd h (by show ¬ t < 0; omega)
  · obtain ⟨i, hi, e⟩ := List.mem_map.mp (mxd_mem (d := 0) hn)
    rw [List.mem_range] at hi
    exact ⟨i, by omega, by omega, by rw [e]; exact h⟩
theorem end_b {p : Pp} {E : Int → Int} (C : Clock p.pcs.length p.hs p.ws (bE p E) E) : 0 ≤ endF p E ∧ endF p E ≤ 1000 * p.pcs.length := by
  constructor
  · unfold endF
    rw [ends_eq]
    by_cases hn : (List.range p.pcs.length).map (fun (i : Nat) => E i) = []
    · rw [hn]; exact Int.le_refl 0
    · obtain ⟨i, hi, e⟩ := List.mem_map.mp (mxd_mem (d := 0) hn)
      rw [List.mem_range] at hi
      rw [← e]
      have h1 := C.lt i (by omega) (by omega)
      have h2 := C.b0 i (by omega) (by omega)
      omega
  · unfold endF
    rw [ends_eq]
    refine mxd_le (by omega) fun x hx => ?_
    obtain ⟨i, hi, e⟩ := List.mem_map.mp hx
    rw [List.mem_range] at hi
    have := C.le i (by omega) (by omega)
    omega
section
variable {P : Program} {w : World} {K : PySem.W.Frag} {mg : Str → Option Value} {base : Heap}
def spTicks (P : Program) (w : World) : Sp := fun vs H Q _ => ∃ (F : Hp) (pa lt t : Addr) (p : Pp) (E : Int → Int), vs = [.ref pa, .ref lt, .ref t] ∧ Same F H ∧ F 534 = none ∧ F 732 = none ∧ Tabs Tt H ∧ PaperA P w F pa p ∧ PaT p E ∧ (p.pcs.flatten).length ≤ 100 ∧ LO PrA F lt (tmF E (lensF p)) ∧ F t = some (TapeO t) ∧
  ∀ H', Keep [534, 732] H H' → Tabs Tt H' → Q (.bl true) H'
theorem sc86 : FnScope ["_law_paper", "_law_times", "_law_tape_here", "_law_run", "_law_idle", "_law_now", "_law_work", "_law_hand", "_law_piece", "_law_due", "_law_row_here", "_law_last", "_law_one"] ["_law_paper", "_law_times", "_law_tape_here"] (C8.fnScope st86) := C8.fnScope_by (by decide +kernel)
theorem ok_law_ticks_right (T : Txt K mg) (TB0 : TabB base mg 538 534) (TB1 : TabB base mg 736 732) : C8.Cal P w K mg base 11 "_law_ticks_right" (spTicks P w) [] := by
  refine cal_by (k := 10) (T.df 86 _ rfl) (g_law_ticks_right T) sc86 (fun _ _ _ _ us hl => match us, hl with | [_, _, _], _ => rfl) (fun vs H Q E h => ?_) (fun A outer s H vs Q E0 hr o h => ?_)
  · obtain ⟨F, pa, lt, t, p, E, rfl, _⟩ := h
    rfl
  · obtain ⟨F, pa, lt, t, p, E, rfl, sF, n5, n7, hT, PA, pt, htot, hlt, ht, q⟩ := h
    have pok := PA.d
    have C := pt.clock pok
    have hpl := pok.pl
    obtain ⟨e0, e1⟩ := end_b C
    refine ⟨_, (pss_cons (ps_set (i := 3) (sc86).nd rfl (by first | exact Or.inl rfl | exact Or.inr rfl) (C8.pe_mk (ok_mk_Run (P := P) (w := w) T) hr (by decide) (by rfl) (pa_mn (pa_cons (pv 0) pa_nil))))
      (pss_cons (ps_setLc (i := 4) (own := [("_law_row_here", 10)]) rfl (sc86).nd rfl rfl (sw_true rfl rfl rfl (by decide +kernel)) (pi_listZ o (pe_fldZ o (pv 0) rfl)) (blkOk_by (own := [("_law_row_here", 10)]) (by kernel_rfl)) (fun _ _ _ _ _ => pg_mn (pg_name (i := 10) (sc86).nd (by rfl) (by first | exact Or.inl rfl | exact Or.inr rfl))) (fun _ _ _ _ _ => pts_mn pts_nil) (fun _ _ _ _ _ => pe_mn pe_int))
      (pss_cons (ps_for PassesOwn.never rfl (pi_range1 (by rfl) (z_range T) (pa_cons (C8.pe_c (ok_walk_end (P := P) (w := w) T) hr (by decide) (by rfl) (pa_cons (pv 0) pa_nil)) pa_nil)) (pg_name (i := 5) (sc86).nd (by rfl) (by first | exact Or.inl rfl | exact Or.inr rfl)) (pss_cons (ps_if (pt_val (C8.pe_mt0 (ok_Run_is_over (P := P) (w := w) T) hr (by decide) (pv 3))) (pss_one (ps_ret pe_bl)) pss_nil)
      (pss_cons (ps_set (i := 6) (sc86).nd rfl (by first | exact Or.inl rfl | exact Or.inr rfl) (C8.pe_c (ok_law_at_work (P := P) (w := w) T) hr (by decide) (by rfl) (pa_cons (pe_fldZ o (pv 0) rfl) (pa_cons (pv 1) (pa_cons (pv 5) pa_nil)))))
      (pss_cons (ps_for PassesOwn.never rfl (pi_listZ o (C8.pe_c (ok_law_turned (P := P) (w := w) T) hr (by decide) (by rfl) (pa_cons (pv 6) (pa_cons (pv 2) pa_nil)))) (pg_tupZ (n := 2) o (pgs_cons (pg_name (i := 7) (sc86).nd (by rfl) (by first | exact Or.inl rfl | exact Or.inr rfl)) (pgs_cons (pg_name (i := 8) (sc86).nd (by rfl) (by first | exact Or.inl rfl | exact Or.inr rfl)) pgs_nil))) (pss_cons (ps_set (i := 9) (sc86).nd rfl (by first | exact Or.inl rfl | exact Or.inr rfl) (pe_ix (ix_self o) (pe_ix (ix_self o) (pe_fldZ o (pv 0) rfl) (pv 8) (fun _ _ => rfl)) (pe_op (op_self o) (pv 5) (pe_ix (ix_self o) (pe_ix (ix_self o) (pv 1) (pv 8) (fun _ _ => rfl)) pe_int (fun _ _ => rfl))) (fun _ _ => rfl)))
      (pss_cons (ps_if (PW.pt (pw_or (pt_cmpR (op_self o) (pv 7) (C8.pe_mt0 (ok_Run_ready (P := P) (w := w) T) hr (by decide) (pv 3)) (by rfl)) (pw_or1 (pt_cmpR (op_self o) (C8.pe_mt (ok_Run_next_spot (P := P) (w := w) T) hr (by decide) (pv 3) (pa_cons (pv 7) pa_nil)) (pv 9) (nomark _))))) (pss_one (ps_ret pe_bl)) pss_nil)
      (pss_one (ps_expr (C8.pe_mt (ok_Run_step (P := P) (w := w) T TB0 TB1) hr (by decide) (pv 3) (pa_cons (pv 7) pa_nil)))))))
      (pss_one (ps_for PassesOwn.never rfl (pi_enumZ o (by rfl) (z_enumerate T) (pa_cons (pe_fldZ o (pv 0) rfl) pa_nil)) (pg_tupZ (n := 2) o (pgs_cons (pg_name (i := 7) (sc86).nd (by rfl) (by first | exact Or.inl rfl | exact Or.inr rfl)) (pgs_cons (pg_name (i := 10) (sc86).nd (by rfl) (by first | exact Or.inl rfl | exact Or.inr rfl)) pgs_nil))) (pss_cons (ps_set (i := 11) (sc86).nd rfl (by first | exact Or.inl rfl | exact Or.inr rfl) (pe_callBK (cr_maxDZ o) (by rfl) (z_max T) b_max (pa_cons (pe_lc (own := [("_law_piece", 8)]) rfl (sc86).nd (pi_listZ o (pv 10)) (blkOk_by (own := [("_law_piece", 8)]) (by kernel_rfl)) (fun _ _ _ _ _ => pg_mn (pg_name (i := 8) (sc86).nd (by rfl) (by first | exact Or.inl rfl | exact Or.inr rfl))) (fun _ _ _ _ _ => pts_mn pts_nil) (fun _ _ _ _ _ => pe_mn (pe_ix (ix_self o.blk) (pe_ix (ix_self o.blk) (pv 1) (pv 8) (fun _ _ => rfl)) pe_int (fun _ _ => rfl)))) pa_nil) (pk_cons pe_int pk_nil)))
      (pss_one (ps_if (PW.pt (pw_and (pt_cmpR (op_self o) (pv 5) (pv 11) (nomark _)) (pw_and1 (pt_cmpR (op_self o) (pv 7) (pe_lc (own := [("_law_one", 12), ("_law_piece", 8)]) rfl (sc86).nd (pi_listZ o (pv 6)) (blkOk_by (own := [("_law_one", 12), ("_law_piece", 8)]) (by kernel_rfl)) (fun _ _ _ _ _ => pg_mn (pg_tupZ (n := 2) o.blk (pgs_cons (pg_name (i := 12) (sc86).nd (by rfl) (by first | exact Or.inl rfl | exact Or.inr rfl)) (pgs_cons (pg_name (i := 8) (sc86).nd (by rfl) (by first | exact Or.inl rfl | exact Or.inr rfl)) pgs_nil)))) (fun _ _ _ _ _ => pts_mn pts_nil) (fun _ _ _ _ _ => pe_mn (pv 12))) (by rfl))))) (pss_one (ps_asg (pe_op (op_self o) (pe_ix (ix_self o) (pv 4) (pv 7) (fun _ _ => rfl)) pe_int) (pg_sub (pv 4) (pv 7) (set_self o)))) pss_nil)))))))))
      (pss_one (ps_ret (pe_and (C8.pe_mt0 (ok_Run_is_over (P := P) (w := w) T) hr (by decide) (pv 3)) (pe_and (pe_cmpR (op_self o) (C8.pe_c (ok_walk_idle (P := P) (w := w) T) hr (by decide) (by rfl) (pa_cons (pv 0) pa_nil)) (pv 4) (nomark _)) (pe_one (pe_cmpR (op_self o) (C8.pe_mt0 (ok_Run_ready (P := P) (w := w) T) hr (by decide) (pv 3)) (pe_lst (pa_mn pa_nil)) (nomark _)))))))))), ?_⟩
    walk_at "go"
    intro r rdx H1 nr nrd rne s1 hr1 hrd1
    have sF1 := sF.trans s1
    have nFr : F r = none := sF.free nr
    refine ⟨F, r, rdx, pa, p, rfl, hr1, sF1, nFr, PA, fun H2 la ll lm lo lx k2 hr2 hla _ hll hlm hlo hlx na nl nm no nx dal dao dax dlo dlx dox => ⟨rfl, ?_⟩⟩
    have hr2' : H2 r = some (o_Run rdx (.ref pa) (.ref la) (.ref ll) (.ref lm) (.ref lo) (.ref lx)) := hr2
    have rn : ∀ {b : Addr}, H1 b = none → b ≠ r := fun hb z => by rw [z, hr1] at hb; cases hb
    have H0n : ∀ {b : Addr}, H1 b = none → H b = none := fun hb => s1.free hb
    have F2n : ∀ {b : Addr}, H1 b = none → upd F r (o_Run rdx (.ref pa) (.ref la) (.ref ll) (.ref lm) (.ref lo) (.ref lx)) b = none := fun hb => by
      rw [upd_ne (rn hb)]
      exact sF1.free hb
    have F2s : Same F (upd F r (o_Run rdx (.ref pa) (.ref la) (.ref ll) (.ref lm) (.ref lo) (.ref lx))) := same_new nFr
    have F2r : upd F r (o_Run rdx (.ref pa) (.ref la) (.ref ll) (.ref lm) (.ref lo) (.ref lx)) r = some (o_Run rdx (.ref pa) (.ref la) (.ref ll) (.ref lm) (.ref lo) (.ref lx)) := upd_same
    have F22 : Same (upd F r (o_Run rdx (.ref pa) (.ref la) (.ref ll) (.ref lm) (.ref lo) (.ref lx))) H2 := fun b o' e => by
      by_cases hb : b = r
      · subst hb
        rw [F2r] at e
        rw [← e]
        exact hr2'
      · rw [upd_ne hb] at e
        exact k2 _ _ (sF1 _ _ e) (nin1 hb)
    have tb : ∀ {a : Addr} {q : Str}, (a, q) ∈ Tt → a ≠ r := fun {a q} m z => by
      obtain ⟨ps, b1, _⟩ := hT _ m
      exact absurd (show H a = _ from b1) (by rw [z, nr]; simp)
    have F25 : upd F r (o_Run rdx (.ref pa) (.ref la) (.ref ll) (.ref lm) (.ref lo) (.ref lx)) 534 = none := by rw [upd_ne (tb (q := QW) List.mem_cons_self)]; exact n5
    have F27 : upd F r (o_Run rdx (.ref pa) (.ref la) (.ref ll) (.ref lm) (.ref lo) (.ref lx)) 732 = none := by rw [upd_ne (tb (q := QG) (List.mem_cons_of_mem _ List.mem_cons_self))]; exact n7
    have Fna := F2n na
    have Fnl := F2n nl
    have Fnm := F2n nm
    have Fno := F2n no
    have Fnx := F2n nx
    generalize upd F r (o_Run rdx (.ref pa) (.ref la) (.ref ll) (.ref lm) (.ref lo) (.ref lx)) = F2 at F2s F2r F22 F25 F27 Fna Fnl Fnm Fno Fnx
    have hT2 : Tabs Tt H2 := fun pr hp => by
      obtain ⟨ps, b1, b2, b3⟩ := hT.ext s1 pr hp
      have nrr : ∀ {b : Addr} {o' : HO}, H b = some o' → b ≠ r := fun e => ne_of_none e nr
      refine ⟨ps, k2 _ _ b1 (nin1 (tb (q := pr.2) hp)), b2, fun p' cv hcv => ?_⟩
      obtain ⟨c0, d1, d2⟩ := b3 p' cv hcv
      exact ⟨c0, d1, k2 _ _ d2 (nin1 (ne_of d2 hr1 (fun z => by unfold CodeO at z; cases z)))⟩
    have PA2 := PA.same F2s
    have hlt2 := lop_same hlt F2s
    have ht2 := F2s _ _ ht
    have KH2 : Keep [534, 732] H H2 := fun b o' e _ => k2 _ _ (s1 _ _ e) (nin1 (ne_of_none e nr))
    have rep_len : (List.replicate p.hs.length ((0 : Int), (0 : Int))).length = p.hs.length := by simp
    have RF2 : RunF P w F2 H2 r pa la ll lm lo lx p (List.replicate p.hs.length (0, 0)) (p.pcs.map fun pc => (pc.length : Int)) 0 :=
      ⟨F22, ⟨rdx, F2r⟩, PA2, Fna, Fnl, Fnm, Fno, Fnx, F25, F27, dal, dao, dax, dlo, dlx, dox, ⟨rep_len, fun h row z e1 e2 => by
        have ez : z = (0, 0) := (List.mem_replicate.mp (List.mem_of_getElem? e2)).2
        rw [ez]
        exact ⟨Int.le_refl 0, by show (0 : Int) ≤ _; omega, Int.le_refl 0⟩, by rw [List.length_map]⟩, hla, hll, ⟨[], hlm, by simp, by simp⟩, ⟨[], hlo, by simp⟩, ⟨[], hlx, by simp⟩, hT2⟩
    have RI2 := ri_start C (fun x pc hx => bE_len hx)
    obtain ⟨_, pdx, pj, lp, lh, lw, pd, plx, hpa, J, hlp, ⟨bs, b1, b2, b3⟩, hlw, hsl⟩ := id PA2
    have hl4 := pok.hl.2
    have hpa2 := F22 _ _ hpa
    have b12 := F22 _ _ b1
    walk_at "go"
    refine lcL (a := lh) (xs := bs.map V.ref) [] (fun D i acc H' => acc = (List.replicate i (0 : Int)).map V.int) (by rw [List.length_map]; omega) b12 (by simp) (fun D H' nD sD hD => rfl) (fun D i v acc H3 nD hx' hlj k3 hD ea => ?_) (fun li acc H3 nli hl3 k3 hli ea => ?_)
    · obtain ⟨a, ha, rfl⟩ := map_at hx'
      walk_at "go"
      refine ⟨hD, k3, fun H4 k4 h4 => ?_⟩
      rw [ea, List.replicate_succ']
      simp
    · have s3 := keep0 k3
      rw [List.length_map, b2] at ea
      rw [ea] at hli
      have RF3 := RF2.same s3
      have niS := RF2.newS nli
      have nli0 : H li = none := by
        cases e : H li with
        | none => rfl
        | some o' => exact absurd (k2 _ _ (s1 _ _ e) (nin1 (ne_of_none e nr))) (by rw [nli]; simp)
      have Fli : F2 li = none := F22.free nli
      have KH3 : Keep [534, 732] H H3 := fun b o' e n => s3 _ _ (KH2 b o' e n)
      have PA3 := PA2.same (F22.trans s3)
      have hm : ∀ row ∈ p.hs, ∀ x ∈ row, 0 ≤ x ∧ x < p.pcs.length := fun row hr x hx => by
        obtain ⟨h, hh⟩ := List.mem_iff_getElem?.mp hr
        obtain ⟨j, hj⟩ := List.mem_iff_getElem?.mp hx
        exact pt.D.mem hh hj
      have rlt : ∀ row ∈ p.hs, ∀ x ∈ row, bE p E x < E x := fun row hr x hx => C.lt x (hm row hr x hx).1 (hm row hr x hx).2
      have hfew : ∀ row ∈ p.hs, row.length ≤ 60 := fun row hr => by
        have h1 := pok.hp.length_eq
        rw [List.length_map, List.length_range] at h1
        have h3 := row_le hr
        omega
      walk_at "go"
      refine ⟨pa, p, E, rfl, PA3, pt, fun H4 s4 => ?_⟩
      have RF4 := RF3.same s4
      have hli4 := s4 _ _ hli
      have KH4 : Keep [534, 732] H H4 := fun b o' e n => s4 _ _ (KH3 b o' e n)
      obtain ⟨N, hN⟩ : ∃ N : Nat, endF p E = (N : Int) := ⟨(endF p E).toNat, by omega⟩
      have tot0 := sum_lens (l := p.pcs)
      refine forR (n := N) hN (by omega) (fun tn σ H' => ∃ (ats : List (Int × Int)) (left : List Int) (k : Nat) (ns : List Int) (x5 x6 x7 x8 x9 x10 x11 : Option V), RunF P w F2 H' r pa la ll lm lo lx p ats left k ∧ RI p.hs (bE p E) E (fun _ => (tn : Int)) ats left ∧ (k : Int) + left.sum = (p.pcs.flatten.length : Int) ∧
        Keep [534, 732] H H' ∧ H' li = some (.lst (ns.map V.int)) ∧ ns.length = p.hs.length ∧ (∀ (h : Nat) (row : List Int), p.hs[h]? = some row → ns[h]? = some (idF (bE p E) E row tn)) ∧
        σ = [some (.ref pa), some (.ref lt), some (.ref t), some (.ref r), some (.ref li), x5, x6, x7, x8, x9, x10, x11, none]) ?_ (fun tn σ H5 htn ⟨ats, left, k, ns, x5, x6, x7, x8, x9, x10, x11, RF, RI5, tot, KH, hli5, nsl, hns, es⟩ => ?_) (fun σ H5 ⟨ats, left, k, ns, x5, x6, x7, x8, x9, x10, x11, RF, RI5, tot, KH, hli5, nsl, hns, es⟩ => ?_)
      · refine ⟨_, _, 0, List.replicate p.hs.length 0, none, none, none, none, none, none, none, RF4, RI2, by rw [tot0]; omega, KH4, hli4, by simp, fun h row hr => ?_, rfl⟩
        show _ = some (idF (bE p E) E row 0)
        rw [List.getElem?_replicate, if_pos (List.getElem?_eq_some_iff.mp hr).1, idF_start (rlt row (List.mem_of_getElem? hr)) (fun x hx => C.b0 x (hm row (List.mem_of_getElem? hr) x hx).1 (hm row (List.mem_of_getElem? hr) x hx).2)]
      · subst es
        have hr5 := RF.sF _ _ F2r
        have S5 := RF.rst
        obtain ⟨y, y0, y1, yE⟩ := end_lt (p := p) (E := E) (t := (tn : Int)) (by omega) (by omega)
        walk_at "go"
        refine ⟨r, p, ats, left, rfl, S5, fun H6 s6 => ?_⟩
        rw [ri_not_over C RI5 y0 y1 yE]
        have RF6 := RF.same s6
        have pa6 := RF6.sF _ _ hpa
        walk_at "go"
        refine ⟨lh, lt, (tn : Int), p, E, rfl, ⟨bs, RF6.sF _ _ b1, b2, fun i a z x y => (b3 i a z x y).same RF6.sF⟩, pok, pt, lop_same hlt2 RF6.sF, fun H7 wl s7 nwl hwl => ?_⟩
        obtain ⟨was, w1, w2, w3⟩ := hwl
        have RF7 := RF6.same s7
        have tp7 := RF7.sF _ _ ht2
        have wkl := wkF_len (t := (tn : Int)) (m := p.hs.length) (Nat.le_refl _) C.up
        have wnd := wkF_nodup (t := (tn : Int)) (m := p.hs.length) (Nat.le_refl _) C.up
        walk_at "go"
        refine ⟨wl, t, was.map V.ref, rfl, w1, by rw [List.length_map]; omega, tp7, fun H8 f ys s8 nf hf pm => ?_⟩
        have RF8 := RF7.same s8
        have ezip : (was.zip (wkF p.hs (bE p E) E (tn : Int) p.hs.length)).map Prod.fst = was := List.map_fst_zip (by omega)
        have ezip2 : (was.zip (wkF p.hs (bE p E) E (tn : Int) p.hs.length)).map Prod.snd = wkF p.hs (bE p E) E (tn : Int) p.hs.length := List.map_snd_zip (by omega)
        obtain ⟨ms, pms, ems⟩ := perm_map_inv (f := fun q : Addr × (Int × Int) => V.ref q.1) (l := ys) (m := was.zip (wkF p.hs (bE p E) E (tn : Int) p.hs.length)) (by
          have : (was.zip (wkF p.hs (bE p E) E (tn : Int) p.hs.length)).map (fun q : Addr × (Int × Int) => V.ref q.1) = was.map V.ref := by
            conv => rhs; rw [← ezip]
            rw [List.map_map]
            rfl
          rw [this]
          exact pm)
        have pzs : (ms.map Prod.snd).Perm (wkF p.hs (bE p E) E (tn : Int) p.hs.length) := by
          have := pms.map Prod.snd
          rw [ezip2] at this
          exact this
        have znd : ((ms.map Prod.snd).map (·.1)).Nodup := (pzs.map _).nodup_iff.mpr wnd
        have hms : ∀ q ∈ ms, H8 q.1 = some (.tup [.int q.2.1, .int q.2.2]) := fun q hq => by
          have hz := pms.mem_iff.mp hq
          obtain ⟨i, hi⟩ := List.mem_iff_getElem?.mp hz
          rw [List.getElem?_zip_eq_some] at hi
          exact s8 _ _ (w3 i q.1 q.2 hi.1 hi.2)
        have fS := RF7.newS nf
        have wS := RF6.newS nwl
        have wl8 := s8 _ _ w1
        have s58 := s6.trans (s7.trans s8)
        have KH8 : Keep [534, 732] H H8 := fun b o' e n => s58 _ _ (KH b o' e n)
        have li8 := s58 _ _ hli5
        obtain ⟨cs, c1, c2, c3⟩ := id hlp
        have yl : ys.length = ms.length := by rw [ems, List.length_map]
        walk_at "go"
        refine forL (a := f) (xs := ys) (fun j σ H' => Keep (RunS la ll lm lo lx) H8 H' ∧ ∃ (ats : List (Int × Int)) (left : List Int) (k : Nat) (x7 x8 x9 : Option V), RunF P w F2 H' r pa la ll lm lo lx p ats left k ∧ RI p.hs (bE p E) E (tkU (ms.map Prod.snd) (tn : Int) j) ats left ∧ (k : Int) + left.sum = (p.pcs.flatten.length : Int) ∧ Keep [534, 732] H H' ∧
          σ = [some (.ref pa), some (.ref lt), some (.ref t), some (.ref r), some (.ref li), some (.int tn), some (.ref wl), x7, x8, x9, x10, x11, none]) ⟨Keep.refl _, ats, left, k, x7, x8, x9, RF8, by rw [tkU_zero]; exact RI5, tot, KH8, rfl⟩ (fun j σ H' hj ⟨kk, _⟩ => kk _ _ hf fS) (fun j x σ H9 hx ⟨kk, ats, left, k, x7, x8, x9, RF9, RI9, tot, KH9, es⟩ => ?_) (fun σ H9 ⟨kk, ats, left, k, x7, x8, x9, RF9, RI9, tot, KH9, es⟩ => ?_)
        · subst es
          obtain ⟨qd, hqd, rfl⟩ : ∃ qd, ms[j]? = some qd ∧ x = V.ref qd.1 := by
            rw [ems] at hx
            obtain ⟨y', h1, h2⟩ := map_at hx
            exact ⟨y', h1, h2⟩
          have qm := List.mem_of_getElem? hqd
          have hq9 : H9 qd.1 = some (.tup [.int qd.2.1, .int qd.2.2]) := kk _ _ (hms qd qm) (RF8.tupS (hms qd qm))
          obtain ⟨h, row, hlt', eh, hrow, hxr, bx, ex⟩ := (mem_wkF (Nat.le_refl _)).mp (pzs.mem_iff.mp (List.mem_map.mpr ⟨qd, qm, rfl⟩))
          obtain ⟨i, hi⟩ := List.mem_iff_getElem?.mp hxr
          have ezs : (ms.map Prod.snd)[j]? = some qd.2 := by rw [List.getElem?_map, hqd]; rfl
          generalize hX : qd.2.2 = x at *
          rw [eh] at hq9
          obtain ⟨g1, g2, g3, g4, g5⟩ := ri_step C RF9.ok.al RF9.ok.ll RI9 hrow hi (tkU_at znd ezs eh) bx ex (fun k' => tkU_ge)
          rw [tkU_succ ezs eh] at g5
          obtain ⟨xm0, xm1⟩ := C.D.mem hrow hi
          obtain ⟨pc, hpc⟩ : ∃ pc, p.pcs[x.toNat]? = some pc := ⟨_, List.getElem?_eq_getElem (by omega)⟩
          obtain ⟨ca, hca⟩ : ∃ ca, cs[x.toNat]? = some ca := ⟨_, List.getElem?_eq_getElem (by omega)⟩
          obtain ⟨ks, hks, hkz⟩ := c3 x.toNat ca pc hca hpc
          have hbl := bE_len (E := E) hpc
          rw [show ((x.toNat : Nat) : Int) = x by omega] at hbl
          have kzl : ks.zs.length = ks.length := by simp [SpL.zs]
          obtain ⟨kp, hkp⟩ : ∃ kp, ks[((tn : Int) - bE p E x).toNat]? = some kp := ⟨_, List.getElem?_eq_getElem (by rw [← kzl, hkz]; omega)⟩
          have hy : pc[((tn : Int) - bE p E x).toNat]? = some kp.2 := by rw [← hkz]; simp only [SpL.zs]; rw [List.getElem?_map, hkp]; rfl
          have exx : x = ((x.toNat : Nat) : Int) := by omega
          have atx : atI (cs.map V.ref) x = some (V.ref ca) := by rw [exx]; exact atI_nat (by rw [List.getElem?_map, hca]; rfl)
          have aty : atI ks.vs ((tn : Int) - bE p E x) = some (V.ref kp.1) := by
            have e : (tn : Int) - bE p E x = ((((tn : Int) - bE p E x).toNat : Nat) : Int) := by omega
            rw [e]
            exact atI_nat (by simp only [SpL.vs]; rw [List.getElem?_map, hkp]; rfl)
          have sF9 := RF9.sF
          have pa9 := sF9 _ _ hpa
          have lp9 := sF9 _ _ c1
          obtain ⟨ta, tas, q1, q2, q3⟩ := tmA_at (lop_same hlt2 sF9) xm0 xm1
          have hk9 := hks.same sF9
          have hk91 := hk9.1
          have hr9 := sF9 _ _ F2r
          have S9 := RF9.rst
          walk_at "go"
          refine ⟨r, p, ats, left, rfl, S9, fun H10 l10 s10 nl10 hl10 => ?_⟩
          refine v_ninI hl10 ?_
          have hmem : (h : Int) ∈ readyF p ats left := List.mem_map.mpr ⟨h, List.mem_filter.mpr ⟨List.mem_range.mpr hlt', g4⟩, rfl⟩
          rw [decide_eq_true hmem]
          have hr10 := s10 _ _ hr9
          have S10 := S9.same s10
          walk_at "go"
          refine ⟨r, h, p, ats, left, x, ((i : Int), (tn : Int) - bE p E x), pc, kp.2, rfl, S10, hlt', g1, g2, xm0, hpc, hy, fun a ha => ?_⟩
          walk_at "go"
          refine v_neS ha ((hk9.2 kp (List.mem_of_getElem? hkp)).same s10) ?_
          rw [decide_eq_true rfl]
          have RF10 := RF9.same s10
          have left0 := ri_left0 C RF9.ok.ll RI9
          walk_at "go"
          refine ⟨F2, r, pa, la, ll, lm, lo, lx, p, ats, left, k, h, x, ((i : Int), (tn : Int) - bE p E x), pc, kp.2, E x - (tn : Int), rfl, RF10, by omega, hlt', g4, g1, g2, xm0, hpc, hy, g3, fun H11 k11 RF11 => ?_⟩
          walk_at "go"
          have KH10 : Keep [534, 732] H H10 := fun b o' e n => s10 _ _ (KH9 b o' e n)
          refine ⟨(kk.trans (Keep.of s10)).trans k11, _, _, _, _, _, _, RF11, g5, ?_, keep_tab KH10 k11 (H0n na) (H0n nl) (H0n nm) (H0n no) (H0n nx), rfl⟩
          rw [sum_set g3]
          omega
        · subst es
          rw [yl, show ms.length = (ms.map Prod.snd).length by simp] at RI9
          have RI10 := tick_end C pzs RI9
          have li9 := kk _ _ li8 niS
          have wl9 := kk _ _ wl8 wS
          have hw9 : ∀ (i : Nat) (a : Addr) (z : Int × Int), was[i]? = some a → (wkF p.hs (bE p E) E (tn : Int) p.hs.length)[i]? = some z → H9 a = some (.tup [.int z.1, .int z.2]) := fun i a z e1 e2 => by
            have z8 := s8 _ _ (w3 i a z e1 e2)
            exact kk _ _ z8 (RF8.tupS z8)
          have sF9 := RF9.sF
          have pa9 := sF9 _ _ hpa
          have b19 := sF9 _ _ b1
          have wlli : wl ≠ li := fun z => by rw [z] at nwl; rw [s6 _ _ hli5] at nwl; cases nwl
          walk_at "go"
          refine forZ we (fun i σ H' => Keep [li] H9 H' ∧ ∃ (ns' : List Int) (x7 x8 x9 x10 x11 : Option V), H' li = some (.lst (ns'.map V.int)) ∧ ns'.length = p.hs.length ∧ (∀ (h : Nat) (row : List Int), p.hs[h]? = some row → ns'[h]? = some (idF (bE p E) E row (if h < i then (tn : Int) + 1 else (tn : Int)))) ∧
            σ = [some (.ref pa), some (.ref lt), some (.ref t), some (.ref r), some (.ref li), some (.int tn), some (.ref wl), x7, x8, x9, x10, x11, none]) ⟨Keep.refl _, ns, _, _, _, _, _, li9, nsl, fun h row hr => by rw [if_neg (Nat.not_lt_zero h)]; exact hns h row hr, rfl⟩ (fun i σ H' hi ⟨k', _⟩ => k' _ _ b19 (nin1 (ne_of_none b1 Fli))) (fun i x σ H10 H11 hi ⟨k10, ns', x7, x8, x9, x10, x11, li10, nsl', hns', es⟩ y => ?_) (fun σ H10 ⟨k10, ns', x7, x8, x9, x10, x11, li10, nsl', hns', es⟩ => ?_)
          · subst es
            obtain ⟨Tu, u1, u2, rfl, nT, rfl, hu1, hu2⟩ := y
            cases hu1
            obtain ⟨ra, hra, rfl⟩ := map_at hu2
            have hil : i < p.hs.length := by rw [List.length_map] at hi; omega
            obtain ⟨row, hrow⟩ : ∃ row, p.hs[i]? = some row := ⟨_, List.getElem?_eq_getElem hil⟩
            have hrm := List.mem_of_getElem? hrow
            have rl := hfew row hrm
            have hTu : upd H10 Tu (.tup [V.int (i : Nat), V.ref ra]) Tu = some (.tup [V.int (i : Nat), V.ref ra]) := upd_same
            have sT : Same H10 (upd H10 Tu (.tup [V.int (i : Nat), V.ref ra])) := same_new nT
            generalize upd H10 Tu (.tup [V.int (i : Nat), V.ref ra]) = H11 at hTu sT ⊢
            have sF11 : Same F2 H11 := (same_of_new sF9 Fli k10).trans sT
            have hra11 : H11 ra = some (.lst (row.map V.int)) := (b3 i ra row hra hrow).same sF11
            have li11 := sT _ _ li10
            have wl11 := sT _ _ (k10 _ _ wl9 (nin1 wlli))
            have hst := idF_step (t := (tn : Int)) (rlt row hrm) (C.up row hrm)
            have hv := hns' i row hrow
            rw [if_neg (Nat.lt_irrefl i)] at hv
            have none1 : ¬ ((tn : Int) < mxd 0 (row.map E) ∧ row.any (awk (bE p E) E (tn : Int)) = false) → ∀ (h : Nat) (row : List Int), p.hs[h]? = some row → ns'[h]? = some (idF (bE p E) E row (if h < i + 1 then (tn : Int) + 1 else (tn : Int))) := fun hc h row' hr => by
              by_cases hh : h = i
              · subst hh
                rw [hrow] at hr
                cases hr
                rw [if_pos (Nat.lt_succ_self h), hst, if_neg hc]
                exact hv
              · rw [hns' h row' hr]
                by_cases h2 : h < i
                · rw [if_pos h2, if_pos (by omega)]
                · rw [if_neg h2, if_neg (by omega)]
            have some1 : ((tn : Int) < mxd 0 (row.map E) ∧ row.any (awk (bE p E) E (tn : Int)) = false) → ∀ (h : Nat) (row' : List Int), p.hs[h]? = some row' → (ns'.set i (idF (bE p E) E row (tn : Int) + 1))[h]? = some (idF (bE p E) E row' (if h < i + 1 then (tn : Int) + 1 else (tn : Int))) := fun hc h row' hr => by
              rw [List.getElem?_set]
              by_cases hh : i = h
              · subst hh
                rw [hrow] at hr
                cases hr
                rw [if_pos rfl, if_pos (by omega), if_pos (Nat.lt_succ_self i), hst, if_pos hc]
              · rw [if_neg hh, hns' h row' hr]
                by_cases h2 : h < i
                · rw [if_pos h2, if_pos (by omega)]
                · rw [if_neg h2, if_neg (by omega)]
            walk_at "go"
            refine lcL (a := ra) (xs := row.map V.int) [] (fun D j acc H' => acc = ((row.take j).map E).map V.int) (by rw [List.length_map]; omega) hra11 (by simp) (fun D H' nD sD hD => rfl) (fun D j v acc H12 nD hx' hlj k12 hD ea => ?_) (fun D acc H12 nD hl12 k12 hD ea => ?_)
            · have s12 := keep0 k12
              obtain ⟨y, hy, rfl⟩ := map_at hx'
              obtain ⟨y0, y1⟩ := hm row hrm y (List.mem_of_getElem? hy)
              obtain ⟨ta, tas, q1, q2, q3⟩ := tmA_at (lop_same hlt2 (sF11.trans s12)) y0 y1
              walk_at "go"
              refine ⟨hD, k12, fun H13 k13 h13 => ?_⟩
              rw [ea, List.take_add_one, hy]
              simp
            · have s12 := keep0 k12
              rw [List.length_map, List.take_of_length_le (Nat.le_refl _)] at ea
              rw [ea] at hD
              walk_at "go"
              refine v_maxD hD ?_
              walk_at "go"
              refine iteD (fun hb => ?_) (fun hb => ?_)
              · have wl12 := s12 _ _ wl11
                walk_at "go"
                refine lcL (a := wl) (xs := was.map V.ref) [] (fun D j acc H' => acc = (((wkF p.hs (bE p E) E (tn : Int) p.hs.length).take j).map (·.1)).map V.int) (by rw [List.length_map]; omega) wl12 (by simp) (fun D H' nD sD hD => rfl) (fun D j v acc H13 nD hx' hlj k13 hD ea => ?_) (fun D acc H13 nD hl13 k13 hD ea => ?_)
                · have s13 := keep0 k13
                  obtain ⟨wa, hwa, rfl⟩ := map_at hx'
                  obtain ⟨z, hz⟩ : ∃ z, (wkF p.hs (bE p E) E (tn : Int) p.hs.length)[j]? = some z := ⟨_, List.getElem?_eq_getElem (by have := (List.getElem?_eq_some_iff.mp hwa).1; omega)⟩
                  have z9 := hw9 j wa z hwa hz
                  have z13 := s13 _ _ (s12 _ _ (sT _ _ (k10 _ _ z9 (nin1 (ne_of z9 li9 (fun z => nomatch z))))))
                  walk_at "go"
                  refine ⟨hD, k13, fun H14 k14 h14 => ?_⟩
                  rw [ea, List.take_add_one, hz]
                  simp
                · have s13 := keep0 k13
                  rw [List.length_map, w2, List.take_of_length_le (Nat.le_refl _)] at ea
                  rw [ea] at hD
                  refine v_ninI hD ?_
                  have s113 := s12.trans s13
                  have li13 := s113 _ _ li11
                  walk_at "go"
                  refine iteND (fun hb2 => ?_) (fun hb2 => ?_)
                  · have hany : row.any (awk (bE p E) E (tn : Int)) = false := Bool.eq_false_iff.mpr fun z => hb2 ((at_wk hrow).mpr z)
                    have atv : (ns'.map V.int)[i]? = some (V.int (idF (bE p E) E row (tn : Int))) := by rw [List.getElem?_map, hv]; rfl
                    walk_at "go"
                    refine v_setL li13 (ixN_n (by rw [List.length_map]; omega)) fun H14 k14 h14 => ?_
                    walk_at "go"
                    refine ⟨(k10.trans (Keep.of (sT.trans s113))).trans k14, ns'.set i (idF (bE p E) E row (tn : Int) + 1), _, _, _, _, _, by rw [List.map_set]; exact h14, by rw [List.length_set]; exact nsl', some1 ⟨hb, hany⟩, rfl⟩
                  · have hany : row.any (awk (bE p E) E (tn : Int)) = true := (at_wk hrow).mp hb2
                    walk_at "go"
                    refine ⟨k10.trans (Keep.of (sT.trans s113)), ns', _, _, _, _, _, li13, nsl', none1 (fun z => by rw [hany] at z; cases z.2), rfl⟩
              · walk_at "go"
                refine ⟨k10.trans (Keep.of (sT.trans s12)), ns', _, _, _, _, _, s12 _ _ li11, nsl', none1 (fun z => hb z.1), rfl⟩
          · subst es
            have ecast : (((tn + 1 : Nat) : Nat) : Int) = (tn : Int) + 1 := by omega
            rw [List.length_map, b2] at hns'
            refine ⟨ats, left, k, ns', _, _, _, _, _, _, _, RF9.keep1 li9 Fli niS k10, by rw [ecast]; exact RI10, tot, fun b o' e n => k10 _ _ (KH9 b o' e n) (nin1 (ne_of_none e nli0)), li10, nsl', fun h row hr => ?_, rfl⟩
            rw [hns' h row hr, if_pos (List.getElem?_eq_some_iff.mp hr).1, ecast]
      · subst es
        have hr5 := RF.sF _ _ F2r
        have S5 := RF.rst
        have RIe : RI p.hs (bE p E) E (fun _ => endF p E) ats left := by rw [hN]; exact RI5
        obtain ⟨ov1, ov2⟩ := ri_over C RF.ok.ll RIe (fun x x0 x1 => end_ge x0 x1)
        walk_at "go"
        refine ⟨r, p, ats, left, rfl, S5, fun H6 s6 => ?_⟩
        rw [ov1]
        have RF6 := RF.same s6
        walk_at "go"
        refine ⟨pa, p, E, rfl, PA2.same RF6.sF, pt, fun H7 g s7 ng hg => ?_⟩
        have RF7 := RF6.same s7
        have li7 := s7 _ _ (s6 _ _ hli5)
        have ens : idleF p E = ns := by
          refine List.ext_getElem? fun i => ?_
          unfold idleF
          rw [List.getElem?_map]
          cases hr : p.hs[i]? with
          | none =>
            rw [List.getElem?_eq_none_iff] at hr
            rw [List.getElem?_eq_none (by omega)]
            rfl
          | some row =>
            have hrm := List.mem_of_getElem? hr
            rw [hns i row hr, idF_end (rlt row hrm) (by omega) (fun x hx => by rw [← hN]; exact end_ge (hm row hrm x hx).1 (hm row hrm x hx).2)]
            rfl
        walk_at "go"
        refine v_eqI hg li7 ?_
        rw [decide_eq_true ens]
        have S7 := RF7.rst
        have hr7 := RF7.sF _ _ F2r
        walk_at "go"
        refine ⟨r, p, ats, left, rfl, S7, fun H8 g2 s8 ng2 hg2 => ?_⟩
        rw [ov2] at hg2
        walk_at "go"
        refine ⟨len0, fun e0' H9 n9 s9 h9 => ?_⟩
        refine v_eqI (ns := []) (ms := []) (s9 _ _ hg2) h9 ?_
        rw [decide_eq_true rfl]
        have s69 := s6.trans (s7.trans (s8.trans s9))
        exact q H9 (fun b o' e n => s69 _ _ (KH b o' e n)) (RF.ht.ext s69)
end
end
section
set_option maxHeartbeats 4000000
open LamX NdefX
theorem paired_of {α β : Type} {F : α → β → Prop} : ∀ {l₁ : List α} {l₂ : List β}, l₁.length = l₂.length → (∀ (i : Nat) (a : α) (b : β), l₁[i]? = some a → l₂[i]? = some b → F a b) → Paired F l₁ l₂
  | [], [], _, _ => .nil
  | a :: l₁, b :: l₂, l, h => .cons (h 0 a b rfl rfl) (paired_of (by simpa using l) fun i a' b' e1 e2 => h (i + 1) a' b' (by simpa using e1) (by simpa using e2))
  | [], _ :: _, l, _ => by simp at l
  | _ :: _, [], l, _ => by simp at l
theorem sqL_same {K : PySem.W.Frag} {H H' : Hp} {a : Addr} {xs : List V} (h : SqL K H a xs) (s : Same H H') : SqL K H' a xs := h.imp (fun r => r.imp (s _ _) (fun ⟨o, e⟩ => ⟨o, s _ _ e⟩)) id
theorem cut_map {ns : List Int} {lo hi : Option Int} : ∃ ms : List Int, cutV (ns.map V.int) lo hi = ms.map V.int ∧ ms.length ≤ ns.length := by
  have hl := cutV_length (ns.map V.int) lo hi
  rw [List.length_map] at hl
  unfold cutV at hl ⊢
  rw [← List.map_drop, ← List.map_take] at hl ⊢
  exact ⟨_, rfl, by simpa using hl⟩
section
variable {P : Program} {w : World} {K : PySem.W.Frag} {mg : Str → Option Value} {base : Heap}
theorem dropT_keep {H H' : Hp} (T : Tabs Tt H) (k : Keep [534, 732] H H') : Same (dropT H) H' := fun b o e => by
  refine k b o (dropT_le _ _ e) fun m => ?_
  simp only [List.mem_cons, List.mem_nil_iff, or_false] at m
  rcases m with z | z
  · obtain ⟨ps, b1, _⟩ := T _ (List.mem_cons_self)
    have b1 : H 534 = _ := b1
    rw [z, dropT_tb b1] at e
    cases e
  · obtain ⟨ps, b1, _⟩ := T _ (List.mem_cons_of_mem _ List.mem_cons_self)
    have b1 : H 732 = _ := b1
    rw [z, dropT_tb b1] at e
    cases e
theorem tabs_none {H : Hp} (T : Tabs Tt H) : dropT H 534 = none ∧ dropT H 732 = none := by
  obtain ⟨ps, b1, _⟩ := T _ (List.mem_cons_self)
  obtain ⟨ps', b2, _⟩ := T _ (List.mem_cons_of_mem _ List.mem_cons_self)
  exact ⟨dropT_tb b1, dropT_tb b2⟩
/-! ### law -/
def spLaw (K : PySem.W.Frag) : Sp := fun vs H Q _ => ∃ (a : Addr) (ns : List Int), vs = [.ref a] ∧ SqL K H a (ns.map V.int) ∧ ns.length ≤ 63 ∧ Tabs Tt H ∧ ∀ H', Q (.bl true) H'
theorem sc87 : FnScope ["_law_script", "_law_world_here", "_law_job_here", "_law_row_here", "_law_parts", "_law_wanted", "_law_pieces_here", "_law_hands", "_law_waits", "_law_tape_here", "_law_slots", "_law_paper", "_law_times", "_law_cell", "_law_spot"] ["_law_script"] (C8.fnScope st87) := C8.fnScope_by (by decide +kernel)
theorem law_body (T : Txt K mg) (TB0 : TabB base mg 538 534) (TB1 : TabB base mg 736 732) (A : Around) (outer : List Env) (s : Shared) (H : Hp) (vs : List V) (Q : VK) (E : XK) (hr : Room 13 (cx P w K mg base ["_law_script", "_law_world_here", "_law_job_here", "_law_row_here", "_law_parts", "_law_wanted", "_law_pieces_here", "_law_hands", "_law_waits", "_law_tape_here", "_law_slots", "_law_paper", "_law_times", "_law_cell", "_law_spot"] d87 A outer s H E).A) (o : Of P w K (cx P w K mg base ["_law_script", "_law_world_here", "_law_job_here", "_law_row_here", "_law_parts", "_law_wanted", "_law_pieces_here", "_law_hands", "_law_waits", "_law_tape_here", "_law_slots", "_law_paper", "_law_times", "_law_cell", "_law_spot"] d87 A outer s H E)) (h : spLaw K vs H Q E) :
    ∃ t, PSs (cx P w K mg base ["_law_script", "_law_world_here", "_law_job_here", "_law_row_here", "_law_parts", "_law_wanted", "_law_pieces_here", "_law_hands", "_law_waits", "_law_tape_here", "_law_slots", "_law_paper", "_law_times", "_law_cell", "_law_spot"] d87 A outer s H E) (C8.fnBody d87.st) t ∧ t { nx := fun _ H' => Q .non H', rt := Q } (L2.start ["_law_script", "_law_world_here", "_law_job_here", "_law_row_here", "_law_parts", "_law_wanted", "_law_pieces_here", "_law_hands", "_law_waits", "_law_tape_here", "_law_slots", "_law_paper", "_law_times", "_law_cell", "_law_spot"] vs) H := by
  obtain ⟨a, ns, rfl, hsq, hn63, hT, q⟩ := h
  have sq : ∀ {H' : Hp}, Same H H' → SqL K H' a (ns.map V.int) := fun s' => sqL_same hsq s'
  refine ⟨_, (pss_cons (ps_asg (C8.pe_c (ok_law_made (P := P) (w := w) T) hr (by decide) (by rfl) (pa_cons (pv 0) pa_nil)) (pg_tupZ (n := 5) o (pgs_cons (pg_name (i := 1) (sc87).nd (by rfl) (by first | exact Or.inl rfl | exact Or.inr rfl)) (pgs_cons (pg_name (i := 2) (sc87).nd (by rfl) (by first | exact Or.inl rfl | exact Or.inr rfl)) (pgs_cons (pg_name (i := 3) (sc87).nd (by rfl) (by first | exact Or.inl rfl | exact Or.inr rfl)) (pgs_cons (pg_name (i := 4) (sc87).nd (by rfl) (by first | exact Or.inl rfl | exact Or.inr rfl)) (pgs_cons (pg_name (i := 5) (sc87).nd (by rfl) (by first | exact Or.inl rfl | exact Or.inr rfl)) pgs_nil)))))))
      (pss_cons (ps_asg (pv 4) (pg_tupZ (n := 3) o (pgs_cons (pg_name (i := 6) (sc87).nd (by rfl) (by first | exact Or.inl rfl | exact Or.inr rfl)) (pgs_cons (pg_name (i := 7) (sc87).nd (by rfl) (by first | exact Or.inl rfl | exact Or.inr rfl)) (pgs_cons (pg_name (i := 8) (sc87).nd (by rfl) (by first | exact Or.inl rfl | exact Or.inr rfl)) pgs_nil)))))
      (pss_cons (ps_set (i := 9) (sc87).nd rfl (by first | exact Or.inl rfl | exact Or.inr rfl) (C8.pe_c (ok_law_tape (P := P) (w := w) T) hr (by decide) (by rfl) (pa_cons (C8.pe_c (ok_law_cell_at (P := P) (w := w) T) hr (by decide) (by rfl) (pa_cons (pv 0) (pa_cons pe_int pa_nil))) pa_nil)))
      (pss_cons (ps_set (i := 10) (sc87).nd rfl (by first | exact Or.inl rfl | exact Or.inr rfl) (pe_callTy (cr_self o) (by rfl) (z_dict T) b_dict (pa_cons (pe_lc (own := [("_law_spot", 14)]) rfl (sc87).nd (pi_listZ o (pv 3)) (blkOk_by (own := [("_law_spot", 14)]) (by kernel_rfl)) (fun _ _ _ _ _ => pg_mn (pg_name (i := 14) (sc87).nd (by rfl) (by first | exact Or.inl rfl | exact Or.inr rfl))) (fun _ _ _ _ _ => pts_mn pts_nil) (fun _ _ _ _ _ => pe_mn (pe_tup (pa_mn (pa_cons (pv 14) (pa_cons (C8.pe_c (ok_law_draw (P := P) (w := w) T) hr (by decide) (by rfl) (pa_cons (pv 9) (pa_cons (pe_callB (cr_self o.blk) (by rfl) (z_len T) b_len (pa_cons (pv 3) pa_nil)) pa_nil))) pa_nil)))))) pa_nil)))
      (pss_cons (ps_set (i := 11) (sc87).nd rfl (by first | exact Or.inl rfl | exact Or.inr rfl) (C8.pe_mk (ok_mk_Paper (P := P) (w := w) T) hr (by decide) (by rfl) (pa_mn (pa_cons (pv 2) (pa_cons (pv 6) (pa_cons (pv 7) (pa_cons (pv 8) (pa_cons (pv 10) (pa_cons (pv 5) pa_nil)))))))))
      (pss_cons (ps_set (i := 12) (sc87).nd rfl (by first | exact Or.inl rfl | exact Or.inr rfl) (C8.pe_c (ok_walk_times (P := P) (w := w) T) hr (by decide) (by rfl) (pa_cons (pv 11) pa_nil)))
      (pss_cons (ps_for PassesOwn.never rfl (pi_listZ o (pe_op (op_self o) (pe_lst (pa_mn (pa_cons (C8.pe_c (ok_law_cell_at (P := P) (w := w) T) hr (by decide) (by rfl) (pa_cons (pv 0) (pa_cons pe_int pa_nil))) pa_nil))) (pe_sliceZ o (pv 0) (po_some pe_int) (po_some pe_int)))) (pg_name (i := 13) (sc87).nd (by rfl) (by first | exact Or.inl rfl | exact Or.inr rfl)) (pss_one (ps_if (pt_not (pt_val (C8.pe_c (ok_law_ticks_right (P := P) (w := w) T TB0 TB1) hr (by decide) (by rfl) (pa_cons (pv 11) (pa_cons (pv 12) (pa_cons (C8.pe_c (ok_law_tape (P := P) (w := w) T) hr (by decide) (by rfl) (pa_cons (pv 13) pa_nil)) pa_nil)))))) (pss_one (ps_ret pe_bl)) pss_nil)))
      (pss_one (ps_ret (pe_cmpR (op_self o) (C8.pe_c (ok_walk_times (P := P) (w := w) T) hr (by decide) (by rfl) (pa_cons (pv 11) pa_nil)) (pv 12) (nomark _))))))))))), ?_⟩
  walk_at "go"
  refine ⟨a, ns, rfl, hsq, fun H' s' => sq s', fun H1 u wd j lr pt lwn lp lh lw sz R ks pcs hs ws wn s1 hu hpt wok hR J hlr hperm k30 hlp hfl hpc hlh hlw h1 h4 Dl wl hlwn wnl wnd wnk => ?_⟩
  have kl : ks.zs.length = ks.length := by simp [SpL.zs]
  have kvl : ks.vs.length = ks.length := by simp [SpL.vs]
  have pfl := len_le_flat fun pc hp => (hpc pc hp).1
  rw [hfl] at pfl
  have knd : (ks.zs).Nodup := hperm.nodup_iff.mpr (spotsF_nodup wok)
  have kok : ∀ z ∈ ks.zs, SpOk R sz z := fun z hz => mem_spotsF.mp (hperm.mem_iff.mp hz)
  walk_at "go"
  refine ⟨a, ns, 2, rfl, sq s1, by omega, fun c2 => ?_⟩
  walk_at "go"
  refine ⟨c2, rfl, fun H2 t n2 s2 ht => ?_⟩
  have hlr2 := hlr.same s2
  have lr21 := hlr2.1
  walk_at "go"
  refine lcL (a := lr) (xs := ks.vs) [] (fun D i acc H' => ∃ (Ts : List Addr) (es : List DE), acc = Ts.map V.ref ∧ Ts.length = i ∧ es.length = i ∧ es.map (·.1) = (ks.zs).take i ∧ (∀ (k : Nat) (c : Addr) (e : DE), Ts[k]? = some c → es[k]? = some e → H' c = some (.tup [.ref e.2.1, e.2.2])) ∧ ∀ e ∈ es, SpA H' e.2.1 e.1 ∧ ∃ i : Int, e.2.2 = .int i ∧ 0 ≤ i ∧ i < ks.length) (by omega) lr21 (by simp) (fun D H' nD sD hD => ⟨[], [], rfl, rfl, rfl, by simp, by simp, by simp⟩) (fun D i x acc H3 nD hx hlj k3 hD ⟨Ts, es, ea, e1, e2, e3, e4, e5⟩ => ?_) (fun D acc H3 nD hl3 k3 hD ⟨Ts, es, ea, e1, e2, e3, e4, e5⟩ => ?_)
  · have s3 := keep0 k3
    obtain ⟨kp, hkp, rfl⟩ := map_at hx
    have kpm := List.mem_of_getElem? hkp
    have ezi : (ks.zs)[i]? = some kp.2 := by simp [SpL.zs, hkp]
    have il := (List.getElem?_eq_some_iff.mp hkp).1
    have ht3 := s3 _ _ ht
    have lr3 := s3 _ _ lr21
    have hkp3 : SpA H3 kp.1 kp.2 := (hlr2.2 kp kpm).same s3
    walk_at "go"
    refine ⟨t, (ks.vs.length : Int), rfl, ht3, by omega, by omega, fun H4 v v0 v1 s4 => ?_⟩
    rw [kvl] at v1
    refine ⟨len2, fun tp H5 n5 s5 h5 => ?_⟩
    have hD5 := s5 _ _ (s4 _ _ hD)
    refine ⟨hD5, same_k0 (s3.trans (s4.trans s5)), fun H6 k6 h6 => ⟨Ts ++ [tp], es ++ [(kp.2, kp.1, .int v)], by rw [ea]; simp, by simp [e1], by simp [e2], by rw [List.map_append, e3, List.take_add_one, ezi]; rfl, fun k c e x1 x2 => ?_, fun e he => ?_⟩⟩
    · have tt := (k6.nolL hD5).tups
      rcases app_at x1 with q1 | ⟨q1, q2⟩
      · rw [List.getElem?_append_left (by have := (List.getElem?_eq_some_iff.mp q1).1; omega)] at x2
        exact tt _ _ (s5 _ _ (s4 _ _ (e4 k c e q1 x2)))
      · rw [q1, e1, ← e2, List.getElem?_append_right (Nat.le_refl _)] at x2
        simp at x2
        rw [q2, ← x2]
        exact tt _ _ h5
    · have nl := k6.nolL hD5
      rcases List.mem_append.mp he with z1 | z1
      · obtain ⟨g1, g2⟩ := e5 e z1
        exact ⟨((g1.same s4).same s5).nol nl, g2⟩
      · rw [List.mem_singleton.mp z1]
        exact ⟨((hkp3.same s4).same s5).nol nl, v, rfl, v0, v1⟩
  · have s3 := keep0 k3
    rw [kvl] at e1 e2 e3
    rw [List.take_of_length_le (by omega)] at e3
    rw [ea] at hD
    refine v_dictP hD (paired_of (by omega) e4) (fun e he => (e5 e he).1) (by rw [e3]; exact knd) fun d od H4 nd s4 hd => ?_
    have s14 := s2.trans (s3.trans s4)
    have POk : Pp.Ok ⟨sz, R, pcs, hs, ws, ks.zs, ks.length⟩ := ⟨wok, hR, by show pcs.length ≤ 60; omega, fun pc hp => ⟨(hpc pc hp).1, by have := (hpc pc hp).2; omega, fun z hz => kok z (by rw [← hfl]; exact List.mem_flatten.mpr ⟨pc, hp, hz⟩)⟩, ⟨h1, h4⟩, Dl.hp, wl, fun z hz => by
      obtain ⟨w0, w1, w2⟩ := Dl.wk z hz
      exact ⟨by omega, w2, w0, by show z.2 < (pcs.length : Int); omega⟩, hperm, by show ks.length ≤ 120; omega⟩
    have tot : (Pp.pcs ⟨sz, R, pcs, hs, ws, ks.zs, ks.length⟩).flatten.length ≤ 100 := by show pcs.flatten.length ≤ 100; rw [hfl]; omega
    have SL : SlotsA P w H4 d ks.zs ks.length := ⟨od, es, hd, e3, fun e he => ((e5 e he).1).same s4, fun e he => (e5 e he).2⟩
    obtain ⟨E', hE⟩ := times_ex Dl (fun x => (lensF ⟨sz, R, pcs, hs, ws, ks.zs, ks.length⟩).getD x.toNat 0)
    have PT : PaT ⟨sz, R, pcs, hs, ws, ks.zs, ks.length⟩ E' := ⟨Dl, hE⟩
    walk_at "go"
    intro x dx H5 nx ndx ndx2 s5 hx5 hdx5
    refine ⟨H4, x, dx, j, lp, lh, lw, d, lwn, ⟨sz, R, pcs, hs, ws, ks.zs, ks.length⟩, wn, rfl, hx5, s5, nx, POk, J.same s14, los_same hlp s14, loi_same hlh s14, lop_same hlw s14, SL, hlwn.same s14, by omega, wnd, wnk, fun H6 k6 PA => ⟨rfl, ?_⟩⟩
    have s46 : Same H4 H6 := same_of_new s5 nx k6
    have s6 : Same H H6 := s1.trans (s14.trans s46)
    generalize (⟨sz, R, pcs, hs, ws, ks.zs, ks.length⟩ : Pp) = p at PA PT tot
    walk_at "go"
    refine ⟨x, p, E', rfl, PA, PT, fun H7 lt s7 nlt hlt => ?_⟩
    have s07 := s6.trans s7
    walk_at "go"
    refine ⟨a, ns, 3, rfl, sq s07, by omega, fun c3 => ?_⟩
    walk_at "go"
    refine ⟨len1, fun l1 H8 n8 s8 h8 => ?_⟩
    walk_at "go"
    obtain ⟨ms, hms, hml⟩ := cut_map (ns := ns) (lo := some 4) (hi := some 6)
    refine v_slS (sq (s07.trans s8)) fun l2 H9 n9 s9 h9 => ?_
    rw [hms] at h9
    have h89 := s9 _ _ h8
    refine v_cat h89 h9 (bigL (by simp only [List.length_map, List.length_cons, List.length_nil]; omega)) fun lc H10 n10 s10 h10 => ?_
    have T10 : Tabs Tt H10 := hT.ext (s07.trans (s8.trans (s9.trans s10)))
    have s710 := s8.trans (s9.trans s10)
    have PA10 := PA.same (s7.trans s710)
    have lt10 := lop_same hlt s710
    obtain ⟨g5, g7⟩ := tabs_none T10
    have GPA := PA10.nt dropT_nt
    have Glt : LO PrA (dropT H10) lt (tmF E' (lensF p)) := LO.nt (R := PrA) (fun a n => n _ _ a rfl) lt10 dropT_nt
    have Glc : dropT H10 lc = some (.lst ([V.int c3] ++ ms.map V.int)) := dropT_nt _ _ h10 rfl
    have G10 : Same (dropT H10) H10 := dropT_le
    generalize dropT H10 = G at g5 g7 GPA Glt Glc G10
    walk_at "go"
    refine forL (a := lc) (xs := [V.int c3] ++ ms.map V.int) (fun i σ H' => Same G H' ∧ Tabs Tt H' ∧ ∃ b : Option V, σ = [some (.ref a), some (.ref wd), some (.ref j), some (.ref lr), some (.ref pt), some (.ref lwn), some (.ref lp), some (.ref lh), some (.ref lw), some (.ref t), some (.ref d), some (.ref x), some (.ref lt), b, none]) ⟨G10, T10, none, rfl⟩ (fun i σ H' hi ⟨e, _⟩ => e _ _ Glc) (fun i y σ H11 hy ⟨g11, T11, b, es⟩ => ?_) (fun σ H11 ⟨g11, T11, b, es⟩ => ?_)
    · subst es
      obtain ⟨c, rfl⟩ : ∃ c : Int, y = V.int c := by
        have hy' : ((c3 :: ms).map V.int)[i]? = some y := hy
        obtain ⟨c, _, e⟩ := map_at hy'
        exact ⟨c, e⟩
      walk_at "go"
      refine ⟨c, rfl, fun H12 t12 n12 s12 ht12 => ?_⟩
      have T12 := T11.ext s12
      obtain ⟨f5, f7⟩ := tabs_none T12
      have g12 := g11.trans s12
      walk_at "go"
      refine ⟨dropT H12, x, lt, t12, p, E', rfl, dropT_le, f5, f7, T12, (GPA.same g12).nt dropT_nt, PT, tot, LO.nt (R := PrA) (fun a n => n _ _ a rfl) (lop_same Glt g12) dropT_nt, dropT_nt _ _ ht12 rfl, fun H13 k13 T13 => ?_⟩
      walk_at "go"
      exact ⟨fun b' o' e => k13 _ _ (g12 _ _ e) (by
        simp only [List.mem_cons, List.mem_nil_iff, or_false, not_or]
        exact ⟨ne_of_none e g5, ne_of_none e g7⟩), T13, _, rfl⟩
    · subst es
      walk_at "go"
      refine ⟨x, p, E', rfl, GPA.same g11, PT, fun H12 f s12 nf hf => ?_⟩
      walk_at "go"
      exact v_eqPr hf (lop_same Glt (g11.trans s12)) (q H12)
/-! ### the law at the head's heap -/
theorem law_len {K : PySem.W.Frag} : ∀ vs H Q E, spLaw K vs H Q E → vs.length = ["_law_script"].length := fun vs H Q E h => by
  obtain ⟨a, ns, rfl, _⟩ := h
  rfl
theorem law_bind : BindsD d87 ["_law_script"] := (fun _ _ _ _ us hl => match us, hl with | [_], _ => rfl)
theorem law_at {l : PySem.W.OpenLaw} {w : World} {K : PySem.W.Frag} {mg : Str → Option Value} {h : Heap} (T : Txt K mg) (t5 : h.get? 534 = some { cls := .none, data := .fields #[] }) (t7 : h.get? 732 = some { cls := .none, data := .fields #[] }) (n5 : K.lookup 534 = none) (n7 : K.lookup 732 = none) (c5 : PySem.W.CodeHd h 538 534) (c7 : PySem.W.CodeHd h 736 732) : LawAtS l w K C8.CX0 14 63 "_law_script" mg 883 h := by
  obtain ⟨⟨oc, od, doc, pm, an, ct, osl, lk, hcd⟩, kp⟩ := (T.df 87 _ rfl)
  refine ⟨_, [(538, 534), (736, 732)], spLaw K, fun p hp => ?_, fun p hp => ?_, fun p hp => ?_, fun s u => .of_eq (law_bind doc pm an ct [u] rfl), fun H a ns hl _ hH hS => ⟨a, ns, rfl, hS, hl, fun p hp => ?_, fun _ => rfl⟩, fun base KX G TB => fn_of lk hcd sc87 law_len fun A outer s H vs Q E hr hsp => ?_⟩
  · simp only [List.mem_cons, List.mem_nil_iff, or_false] at hp
    rcases hp with e | e <;> subst e <;> assumption
  · simp only [List.mem_cons, List.mem_nil_iff, or_false] at hp
    rcases hp with e | e <;> subst e <;> assumption
  · simp only [List.mem_cons, List.mem_nil_iff, or_false] at hp
    rcases hp with e | e <;> subst e <;> assumption
  · simp only [Tt, List.mem_cons, List.mem_nil_iff, or_false] at hp
    rcases hp with e | e
    · subst e
      exact TabS.nil (hH (538, 534) (List.mem_cons_self))
    · subst e
      exact TabS.nil (hH (736, 732) (List.mem_cons_of_mem _ List.mem_cons_self))
  · obtain ⟨t, h1, q⟩ := law_body T (TB (538, 534) List.mem_cons_self) (TB (736, 732) (List.mem_cons_of_mem _ List.mem_cons_self)) A outer s H vs Q E hr (of_room hr) hsp
    exact ⟨t, h1.nox, q⟩
end
end
end Z
set_option maxHeartbeats 0
open PySem PySem.W PySem.Calls PyProof.Rows
theorem PySem.Challenge.cw_slanttiles_k78_whole_a_walk_is_a_run_holds : PySem.Challenge.rw_slanttiles_k78_whole_a_walk_is_a_run.Holds := by
  refine Z.head fun w mg fa h Y G hmg => ?_
  obtain ⟨K, KX, hT, ⟨t5, t7⟩, ⟨n5, n7⟩, c5, c7⟩ := Z.facts Y
  have T := hT mg G
  have e := hmg.symm.trans (Z.g_law T)
  cases e
  exact ⟨K, KX, Z.law_at T t5 t7 n5 n7 c5 c7⟩
