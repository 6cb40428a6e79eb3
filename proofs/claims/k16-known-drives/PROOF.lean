import PyProof.Rows.All
import PySem.Str
import Wide.All
import OpenK.AllK
import Wide.FinOn
import HandS.ForMost
import HandS.ForExc
import HandS.More
import HandS.SetBool
import HandS.Deep
import HandS.TupAny
import HandS.IsInst
import KE.KTupSum
import HandS.Strs
import KE.KSuper
import KE.KExcSuper
import HandS.Base
import HandS.Call
import HandS.List
import HandS.Ends
import HandS.Exc
import HandS.ExcInit
import HandS.ExcOwn
import HandS.ExcField
import HandS.TryMany
import HandS.Star
import HandS.Property
import HandS.HeadHook1
import HandS.TupMul
import HandS.RaiseMore
import KE.GoesMore
import KE.GoesEnum
import HandS.Style
import HandS.Defaults
import HandS.WordsExc
import KE.KStateDown
import HandS.Words
import HandS.Codes
import HandS.Head0
import HandS.Head1
import HandS.Head2
import HandS.HeadEnd
import HandS.HeadHook2
import HandS.HeadHook3
import KE.SortKeyHeap
import PyProof.SeqI3
import HandS.OwnEq
import HandS.SortRule
import HandS.SetKeys
import HandS.Text
import HandS.TupSets
import PyProof.TableCode
import PySem.Challenge.RW_roundarms_k16_known_drives
set_option Elab.async false
set_option linter.all false
set_option maxRecDepth 100000
set_option maxHeartbeats 4000000
/-! The head: what is read of the module, properties too. -/
namespace DL
open PySem PySem.Spec L2
open PyProof.Rows hiding St
set_option autoImplicit false

/-- the getter of the property f of the class C -/
def gPr (K : PySem.W.Frag) (C f : Str) : Addr := match PySem.W.findIn K (.ref (He.ga K C)) f with
  | some (some (.ref p)) => p
  | _ => 0
def gAd (K : PySem.W.Frag) (C f : Str) : Addr := match PySem.W.recIn K (gPr K C f) "property" with
  | some (.ref g :: _) => g
  | _ => 0
/-- a def at an address -/
def fnA (K : PySem.W.Frag) (a : Addr) : He.FnW := match K.lookup a with
  | some ⟨_, _, .func fd, _⟩ => some (fd.name, fd.qualname, fd.params, fd.body, fd.scope, fd.globals, fd.closure, fd.builtins)
  | _ => none
def okA (K : PySem.W.Frag) (a : Addr) (d : He.DefD) : Bool := PySem.W.keepIn K (.ref a) && (match K.lookup a with
  | some ⟨_, _, .func fd, _⟩ => PySem.W.codeIn K fd.code d.qual && (He.dflB K fd.defaults (d.dvs K) && He.kwdB K fd.kwdefaults (d.kws K))
  | _ => false)
theorem funA {K : PySem.W.Frag} {a : Addr} {d : He.DefD} (e : fnA K a = d.val) (c : okA K a d = true) : ∃ fd, FunD K d.name d.qual d.params d.body d.scope (d.dvs K) (d.kws K) a fd := by
  obtain ⟨kp, c2⟩ := He.ba c
  unfold fnA at e
  cases q : K.lookup a with
  | none => rw [q] at c2; cases c2
  | some o =>
    obtain ⟨oc, od, dt, osl⟩ := o
    rw [q] at c2 e
    cases dt with
    | func fd =>
      obtain ⟨n1, n2, n3, n4, n5, n6, n7, n8, n9, n10, n11, n12, n13, n14, n15⟩ := fd
      have e2 : (some (n1, n2, n3, n4, n5, n6, n7, n15) : He.FnW) = some (d.name, d.qual, d.params, .stmts d.body, d.scope, mainGlobals, [], builtinsNs) := e
      simp only [Option.some.injEq, Prod.mk.injEq] at e2
      obtain ⟨h1, h2, h3, h4, h5, h6, h7, h8⟩ := e2
      subst h1 h2 h3 h4 h5 h6 h7 h8
      have c3 : (PySem.W.codeIn K n13 d.qual && (He.dflB K n8 (d.dvs K) && He.kwdB K n9 (d.kws K))) = true := c2
      obtain ⟨k1, k2⟩ := He.ba c3
      obtain ⟨k3, k4⟩ := He.ba k2
      exact ⟨_, ⟨oc, od, n8, n9, n10, n11, n12, n13, n14, osl, rfl, q, k1, He.dflB_ok k3, He.kwdB_ok k4⟩, kp⟩
    | _ => cases c2
/-- a property: its class, its name, its getter -/
structure PrD where
  cls : Str
  name : Str
  d : He.DefD
def PrD.ok (K : PySem.W.Frag) (p : PrD) : Bool := decide (PySem.W.findIn K (.ref (He.ga K p.cls)) p.name = some (some (.ref (gPr K p.cls p.name)))) && (decide (PySem.W.specialIn K (.ref (gPr K p.cls p.name)) "__get__" = some (some (.builtin "property.__get__"))) &&
  (decide (PySem.W.takesIn K (.ref (gPr K p.cls p.name)) = some true) && ((match PySem.W.recIn K (gPr K p.cls p.name) "property" with
    | some (.ref _ :: _) => true
    | _ => false) && okA K (gAd K p.cls p.name) p.d)))
/-- a dict of the module: texts to whole numbers -/
def kmB (K : PySem.W.Frag) (x : Str) (kvs : List (Str × Int)) : Bool := match K.lookup (He.ga K x) with
  | some ⟨_, _, .dict es _, _⟩ => decide (es.toList.map (fun e => match e.key, e.val with
    | .str k _, .int i _ => some (k, i)
    | _, _ => none) = kvs.map some)
  | _ => false
/-- what isinstance says of the class C -/
def drvB (K : PySem.W.Frag) (C : Str) : Bool :=
  decide (PySem.W.findIn K (.ref (He.ga K C)) "__class__" = some (some (.builtin "object.__class__"))) && (decide (PySem.W.specialIn K (.builtin "object.__class__") "__get__" = some (some (.builtin "getset_descriptor.__get__"))) &&
  (decide (PySem.W.takesIn K (.builtin "object.__class__") = some true) && (decide (PySem.W.mroIn K (He.ga K C) (.type "object") = some true) && (decide (PySem.W.kitOne K (.ref (He.ga K C)) (.ref (He.ga K C)) = some true) &&
  ((["int", "bool", "str", "tuple", "list", "dict"].all fun n => decide (PySem.W.kitOne K (.ref (He.ga K C)) (.type n) = some false)) &&
   (["NoneType", "int", "bool", "str", "tuple", "list", "dict"].all fun n => decide (PySem.W.kitOne K (.type n) (.ref (He.ga K C)) = some false)))))))
/-- an own exception class with fields: its __init__, its parameters, the text's file -/
structure XiD where
  cls : Str
  d : He.DefD
  fs : List Str
  file : Str
abbrev FnX : Type := Option (Str × Str × Arguments × FuncBody × Scope × Addr × List Str × Addr)
def fnX (K : PySem.W.Frag) (a : Addr) : FnX := match K.lookup a with
  | some ⟨_, _, .func fd, _⟩ => some (fd.name, fd.qualname, fd.params, fd.body, fd.scope, fd.globals, fd.closure.map (·.1), fd.builtins)
  | _ => none
def XiD.val (p : XiD) : FnX := some (p.d.name, p.d.qual, p.d.params, .stmts p.d.body, p.d.scope, mainGlobals, ["__class__"], builtinsNs)
def xiA (K : PySem.W.Frag) (p : XiD) : Addr := He.ma K (He.ga K p.cls) "__init__"
/-- the class itself -/
def oexB (K : PySem.W.Frag) (C : Addr) : Bool := (match K.lookup C with
  | some ⟨.type "type", _, .cls cd, sl⟩ => (match cd.mro, sl.toList with
    | .ref C' :: bm, [_, _, _, _, some (.builtin n), _] => C' == C && (n == "ValueError.__new__" && (!cd.hasDel && (PySem.HandSPX.refsVE bm && cd.hasDict)))
    | _, _ => false)
  | _ => false) && (decide (PySem.W.findIn K (.ref C) "__setattr__" = some (some (.builtin "object.__setattr__"))) && (decide (PySem.W.subIn K (.ref C) (.type "BaseException") = some true) && (decide (PySem.W.typeIn K (.ref C) = some (.type "type")) && PySem.W.keepIn K (.ref C))))
theorem oexB_ok {K : PySem.W.Frag} {C : Addr} (h : oexB K C = true) : OexC K C := by
  obtain ⟨h1, h⟩ := He.ba h
  obtain ⟨h2, h⟩ := He.ba h
  obtain ⟨h3, h⟩ := He.ba h
  obtain ⟨h4, h5⟩ := He.ba h
  refine ⟨?_, of_decide_eq_true h2, of_decide_eq_true h3, of_decide_eq_true h4, h5⟩
  split at h1
  · rename_i dd cd sl hl
    split at h1
    · rename_i C' bm k0 k1 k2 k3 n k5 hm hs
      obtain ⟨g1, h1⟩ := He.ba h1
      obtain ⟨g2, h1⟩ := He.ba h1
      obtain ⟨g3, h1⟩ := He.ba h1
      obtain ⟨g4, g5⟩ := He.ba h1
      obtain ⟨nm, bs, mro, ns, qn, hd, sn, sub, ab, col, del⟩ := cd
      dsimp only at hm g3 g5
      obtain rfl : hd = true := g5
      obtain rfl : del = false := by simpa using g3
      obtain rfl : C' = C := beq_iff_eq.mp g1
      obtain rfl : n = "ValueError.__new__" := beq_iff_eq.mp g2
      subst hm
      have hsl : sl = #[k0, k1, k2, k3, some (.builtin "ValueError.__new__"), k5] := by
        obtain ⟨l⟩ := sl
        simp only at hs
        rw [hs]
      subst hsl
      exact ⟨nm, qn, ns, bs, bm, sn, sub, ab, col, dd, k0, k1, k2, k3, k5, hl, g4⟩
    · cases h1
  · cases h1
/-- where the code stands, the cell of the class -/
def codB (K : PySem.W.Frag) (C : Addr) (file qual : Str) (a : Addr) : Bool := match K.lookup a with
  | some ⟨_, _, .func fd, _⟩ => (match fd.defaults with
    | .none => true
    | _ => false) && PySem.W.codeIn K fd.code qual && ((match fd.code with
    | .ref cda => (match K.lookup cda with
      | some ⟨_, _, .fields vs, _⟩ => (match vs[2]? with
        | some (Value.str f _) => file == f
        | _ => false)
      | _ => false)
    | _ => false) && (match fd.closure with
    | [(_, cc)] => (match K.lookup cc with
      | some ⟨_, _, .cell (some (.ref D)), _⟩ => D == C
      | _ => false)
    | _ => false))
  | _ => false
def XiD.ok (K : PySem.W.Frag) (p : XiD) : Bool :=
  decide (PySem.W.findIn K (.ref (He.ga K p.cls)) "__init__" = some (some (.ref (xiA K p)))) && (decide (PySem.W.typeIn K (.ref (xiA K p)) = some (.type "function")) && (codB K (He.ga K p.cls) p.file p.d.qual (xiA K p) && ((match PySem.W.clsIn K (He.ga K p.cls) with
    | some cd => decide (PySem.W.alongIn K "__init__" ((cd.mro.dropWhile (· != .ref (He.ga K p.cls))).drop 1) = some (some (.builtin "ValueError.__init__")))
    | none => false) && (oexB K (He.ga K p.cls) && (decide (PySem.W.subIn K (.ref (He.ga K p.cls)) (.type "ValueError") = some true) && (decide (PySem.W.mroIn K (He.ga K p.cls) (.ref (He.ga K p.cls)) = some true) && (decide (PySem.W.nsIn K cStatics "thirdparty.any" = some none) &&
    (p.fs.all fun f => decide (PySem.W.findIn K (.ref (He.ga K p.cls)) f = some none)))))))))
/-- all that is looked at -/
abbrev AlY : Type := He.AlT × Bool × List He.FnW × List FnX
def obsY (fa : List He.Fa) (fn : List He.DefD) (ts : List He.Tab) (ps : List PrD) (xs : List XiD) (ex : PySem.W.Frag → Bool) (K : PySem.W.Frag) : AlY := (He.obsT fa fn ts K, ex K && (ps.all (PrD.ok K) && xs.all (XiD.ok K)), ps.map fun p => fnA K (gAd K p.cls p.name), xs.map fun p => fnX K (xiA K p))
def valY (fn : List He.DefD) (ts : List He.Tab) (ps : List PrD) (xs : List XiD) (w : World) : AlY := (He.valT fn ts w, true, ps.map fun p => p.d.val, xs.map XiD.val)
structure SaysY (fa : List He.Fa) (fn : List He.DefD) (ts : List He.Tab) (ps : List PrD) (xs : List XiD) (ex : PySem.W.Frag → Bool) (w : World) (K : PySem.W.Frag) : Prop where
  t : He.SaysT fa fn ts w K
  more : ex K = true
  pr : ∀ (i : Nat) (p : PrD), ps[i]? = some p → p.ok K = true ∧ fnA K (gAd K p.cls p.name) = p.d.val
  xi : ∀ (i : Nat) (p : XiD), xs[i]? = some p → p.ok K = true ∧ fnX K (xiA K p) = p.val
theorem saysY_of {fa : List He.Fa} {fn : List He.DefD} {ts : List He.Tab} {ps : List PrD} {xs : List XiD} {ex : PySem.W.Frag → Bool} {w : World} {K : PySem.W.Frag} (e : obsY fa fn ts ps xs ex K = valY fn ts ps xs w) : SaysY fa fn ts ps xs ex w K := by
  have e1 : He.obsT fa fn ts K = He.valT fn ts w := congrArg (fun z : AlY => z.1) e
  have e2 : (ex K && (ps.all (PrD.ok K) && xs.all (XiD.ok K))) = true := congrArg (fun z : AlY => z.2.1) e
  have e3 : ps.map (fun p => fnA K (gAd K p.cls p.name)) = ps.map fun p => p.d.val := congrArg (fun z : AlY => z.2.2.1) e
  have e5 : xs.map (fun p => fnX K (xiA K p)) = xs.map XiD.val := congrArg (fun z : AlY => z.2.2.2) e
  obtain ⟨h1, h2⟩ := He.ba e2
  obtain ⟨h2, h3⟩ := He.ba h2
  refine ⟨e1, h1, fun i p hp => ⟨List.all_eq_true.mp h2 p (List.mem_of_getElem? hp), ?_⟩, fun i p hp => ⟨List.all_eq_true.mp h3 p (List.mem_of_getElem? hp), ?_⟩⟩
  · have e4 : (ps.map fun p => fnA K (gAd K p.cls p.name))[i]? = (ps.map fun p => p.d.val)[i]? := by rw [e3]
    rw [List.getElem?_map, List.getElem?_map, hp] at e4
    exact Option.some.inj e4
  · have e4 : (xs.map fun p => fnX K (xiA K p))[i]? = (xs.map XiD.val)[i]? := by rw [e5]
    rw [List.getElem?_map, List.getElem?_map, hp] at e4
    exact Option.some.inj e4
def obsYG (n : Nat) (fa : List He.Fa) (fn : List He.DefD) (ts : List He.Tab) (ps : List PrD) (xs : List XiD) (ex : PySem.W.Frag → Bool) (g : Addr → Option Obj) : AlY := obsY fa fn ts ps xs ex (He.frG g (cStatics :: He.asD g n))
def hookY (n : Nat) (fa : List He.Fa) (fn : List He.DefD) (ts : List He.Tab) (ps : List PrD) (xs : List XiD) (ex : PySem.W.Frag → Bool) : PySem.W.Hook where
  α := AlY
  obs := fun s => obsYG n fa fn ts ps xs ex s.heap.get?
  val := fun w => valY fn ts ps xs w
  says := fun w h => ∃ K : PySem.W.Frag, K.In h ∧ SaysY fa fn ts ps xs ex w K
  of := fun _ _ e => ⟨_, He.frG_in, saysY_of e⟩
  keeps := fun _ _ _ ⟨K, hK, c⟩ k => ⟨K, PySem.W.Frag.In.keeps hK k, c⟩
theorem obsYG_eq {n : Nat} {fa : List He.Fa} {fn : List He.DefD} {ts : List He.Tab} {ps : List PrD} {xs : List XiD} {ex : PySem.W.Frag → Bool} {g : Addr → Option Obj} {s : Shared} (h : ∀ a, g a = s.heap.get? a) : obsYG n fa fn ts ps xs ex g = (hookY n fa fn ts ps xs ex).obs s := by
  have e : g = s.heap.get? := funext h
  rw [e] <;> rfl
def tkB (K : PySem.W.Frag) (x : Str) : Bool := match K.lookup (He.ga K x) with
  | some ⟨.type c, none, _, _⟩ => decide (c = "tuple")
  | _ => false
/-- the body of a class, of a def -/
def clsBody : Stmt → List Stmt
  | .ClassDef (body := b) .. => b
  | _ => []
end DL
/-! The run of the top. -/
namespace K16
open PySem PySem.Spec L2 DL
open PyProof.Rows hiding St
set_option autoImplicit false
def top (i : Nat) : Stmt := PySem.Challenge.pw_roundarms_k16_known_drives.main.body.getD i (.Pass ⟨0, 0, 0, 0⟩)
def st1 : Stmt := (top 63)
def bd1 : List Stmt := defBody st1
def sc1 : Scope := defScope st1
def st5 : Stmt := ((clsBody (top 21)).getD 0 (.Pass ⟨0, 0, 0, 0⟩))
def bd5 : List Stmt := defBody st5
def sc5 : Scope := defScope st5
def st6 : Stmt := (top 64)
def bd6 : List Stmt := defBody st6
def sc6 : Scope := defScope st6
def st9 : Stmt := (top 31)
def bd9 : List Stmt := defBody st9
def sc9 : Scope := defScope st9
def st10 : Stmt := (top 30)
def bd10 : List Stmt := defBody st10
def sc10 : Scope := defScope st10
def st11 : Stmt := (top 32)
def bd11 : List Stmt := defBody st11
def sc11 : Scope := defScope st11
def st14 : Stmt := (top 20)
def bd14 : List Stmt := defBody st14
def sc14 : Scope := defScope st14
def st15 : Stmt := (top 19)
def bd15 : List Stmt := defBody st15
def sc15 : Scope := defScope st15
def st17 : Stmt := (top 24)
def bd17 : List Stmt := defBody st17
def sc17 : Scope := defScope st17
def st18 : Stmt := (top 29)
def bd18 : List Stmt := defBody st18
def sc18 : Scope := defScope st18
def st19 : Stmt := ((clsBody (top 21)).getD 3 (.Pass ⟨0, 0, 0, 0⟩))
def bd19 : List Stmt := defBody st19
def sc19 : Scope := defScope st19
def st20 : Stmt := ((clsBody (top 21)).getD 2 (.Pass ⟨0, 0, 0, 0⟩))
def bd20 : List Stmt := defBody st20
def sc20 : Scope := defScope st20
def st21 : Stmt := ((clsBody (top 21)).getD 1 (.Pass ⟨0, 0, 0, 0⟩))
def bd21 : List Stmt := defBody st21
def sc21 : Scope := defScope st21
def st22 : Stmt := (top 28)
def bd22 : List Stmt := defBody st22
def sc22 : Scope := defScope st22
def st23 : Stmt := (top 17)
def bd23 : List Stmt := defBody st23
def sc23 : Scope := defScope st23
def st24 : Stmt := (top 16)
def bd24 : List Stmt := defBody st24
def sc24 : Scope := defScope st24
def st25 : Stmt := (top 18)
def bd25 : List Stmt := defBody st25
def sc25 : Scope := defScope st25
def st26 : Stmt := (top 25)
def bd26 : List Stmt := defBody st26
def sc26 : Scope := defScope st26
def st27 : Stmt := (top 27)
def bd27 : List Stmt := defBody st27
def sc27 : Scope := defScope st27
def st28 : Stmt := (top 26)
def bd28 : List Stmt := defBody st28
def sc28 : Scope := defScope st28
def st36 : Stmt := (top 42)
def bd36 : List Stmt := defBody st36
def sc36 : Scope := defScope st36
def st41 : Stmt := (top 36)
def bd41 : List Stmt := defBody st41
def sc41 : Scope := defScope st41
def st42 : Stmt := (top 41)
def bd42 : List Stmt := defBody st42
def sc42 : Scope := defScope st42
def st43 : Stmt := (top 37)
def bd43 : List Stmt := defBody st43
def sc43 : Scope := defScope st43
def st44 : Stmt := (top 39)
def bd44 : List Stmt := defBody st44
def sc44 : Scope := defScope st44
def st45 : Stmt := (top 40)
def bd45 : List Stmt := defBody st45
def sc45 : Scope := defScope st45
def st46 : Stmt := (top 38)
def bd46 : List Stmt := defBody st46
def sc46 : Scope := defScope st46
def st50 : Stmt := (top 43)
def bd50 : List Stmt := defBody st50
def sc50 : Scope := defScope st50
def st53 : Stmt := (top 45)
def bd53 : List Stmt := defBody st53
def sc53 : Scope := defScope st53
def st57 : Stmt := (top 47)
def bd57 : List Stmt := defBody st57
def sc57 : Scope := defScope st57
def st58 : Stmt := (top 46)
def bd58 : List Stmt := defBody st58
def sc58 : Scope := defScope st58
def st61 : Stmt := (top 48)
def bd61 : List Stmt := defBody st61
def sc61 : Scope := defScope st61
def st63 : Stmt := (top 53)
def bd63 : List Stmt := defBody st63
def sc63 : Scope := defScope st63
def st67 : Stmt := (top 55)
def bd67 : List Stmt := defBody st67
def sc67 : Scope := defScope st67
def st68 : Stmt := (top 56)
def bd68 : List Stmt := defBody st68
def sc68 : Scope := defScope st68
def st70 : Stmt := (top 54)
def bd70 : List Stmt := defBody st70
def sc70 : Scope := defScope st70
def st72 : Stmt := ((clsBody (top 50)).getD 0 (.Pass ⟨0, 0, 0, 0⟩))
def bd72 : List Stmt := defBody st72
def sc72 : Scope := defScope st72
def st83 : Stmt := (top 61)
def bd83 : List Stmt := defBody st83
def sc83 : Scope := defScope st83
def st85 : Stmt := (top 69)
def bd85 : List Stmt := defBody st85
def sc85 : Scope := defScope st85
def st86 : Stmt := (top 65)
def bd86 : List Stmt := defBody st86
def sc86 : Scope := defScope st86
def st87 : Stmt := (top 66)
def bd87 : List Stmt := defBody st87
def sc87 : Scope := defScope st87
def st88 : Stmt := (top 67)
def bd88 : List Stmt := defBody st88
def sc88 : Scope := defScope st88
def st89 : Stmt := (top 68)
def bd89 : List Stmt := defBody st89
def sc89 : Scope := defScope st89
def st90 : Stmt := ((clsBody (top 50)).getD 6 (.Pass ⟨0, 0, 0, 0⟩))
def bd90 : List Stmt := defBody st90
def sc90 : Scope := defScope st90
def st92 : Stmt := ((clsBody (top 21)).getD 5 (.Pass ⟨0, 0, 0, 0⟩))
def bd92 : List Stmt := defBody st92
def sc92 : Scope := defScope st92
def st93 : Stmt := (top 44)
def bd93 : List Stmt := defBody st93
def sc93 : Scope := defScope st93
def st94 : Stmt := ((clsBody (top 50)).getD 4 (.Pass ⟨0, 0, 0, 0⟩))
def bd94 : List Stmt := defBody st94
def sc94 : Scope := defScope st94
def st95 : Stmt := ((clsBody (top 50)).getD 1 (.Pass ⟨0, 0, 0, 0⟩))
def bd95 : List Stmt := defBody st95
def sc95 : Scope := defScope st95
def st96 : Stmt := ((clsBody (top 50)).getD 3 (.Pass ⟨0, 0, 0, 0⟩))
def bd96 : List Stmt := defBody st96
def sc96 : Scope := defScope st96
def st97 : Stmt := ((clsBody (top 50)).getD 2 (.Pass ⟨0, 0, 0, 0⟩))
def bd97 : List Stmt := defBody st97
def sc97 : Scope := defScope st97
def st99 : Stmt := ((clsBody (top 50)).getD 5 (.Pass ⟨0, 0, 0, 0⟩))
def bd99 : List Stmt := defBody st99
def sc99 : Scope := defScope st99
def st100 : Stmt := (top 58)
def bd100 : List Stmt := defBody st100
def sc100 : Scope := defScope st100
def st101 : Stmt := ((clsBody (top 59)).getD 0 (.Pass ⟨0, 0, 0, 0⟩))
def bd101 : List Stmt := defBody st101
def sc101 : Scope := defScope st101
def st102 : Stmt := ((clsBody (top 59)).getD 1 (.Pass ⟨0, 0, 0, 0⟩))
def bd102 : List Stmt := defBody st102
def sc102 : Scope := defScope st102
def st103 : Stmt := ((clsBody (top 59)).getD 2 (.Pass ⟨0, 0, 0, 0⟩))
def bd103 : List Stmt := defBody st103
def sc103 : Scope := defScope st103
def st104 : Stmt := ((clsBody (top 59)).getD 3 (.Pass ⟨0, 0, 0, 0⟩))
def bd104 : List Stmt := defBody st104
def sc104 : Scope := defScope st104
def st105 : Stmt := (top 60)
def bd105 : List Stmt := defBody st105
def sc105 : Scope := defScope st105
def stx5 : Stmt := ((clsBody (top 7)).getD 0 (.Pass ⟨0, 0, 0, 0⟩))
def bdx5 : List Stmt := defBody stx5
def scx5 : Scope := defScope stx5
def xi5 : XiD := ⟨"BadSeen", ⟨("BadSeen", some "__init__"), "__init__", "BadSeen.__init__", defArgs stx5, bdx5, scx5, [], []⟩, ["index"], PySem.Challenge.pw_roundarms_k16_known_drives.main.file⟩
def stx2 : Stmt := ((clsBody (top 4)).getD 0 (.Pass ⟨0, 0, 0, 0⟩))
def bdx2 : List Stmt := defBody stx2
def scx2 : Scope := defScope stx2
def xi2 : XiD := ⟨"BadSteps", ⟨("BadSteps", some "__init__"), "__init__", "BadSteps.__init__", defArgs stx2, bdx2, scx2, [], []⟩, ["index"], PySem.Challenge.pw_roundarms_k16_known_drives.main.file⟩
def stx7 : Stmt := ((clsBody (top 9)).getD 0 (.Pass ⟨0, 0, 0, 0⟩))
def bdx7 : List Stmt := defBody stx7
def scx7 : Scope := defScope stx7
def xi7 : XiD := ⟨"BadText", ⟨("BadText", some "__init__"), "__init__", "BadText.__init__", defArgs stx7, bdx7, scx7, [], []⟩, ["line", "word"], PySem.Challenge.pw_roundarms_k16_known_drives.main.file⟩
def xs : List XiD := [xi5, xi2, xi7]
def xA (K : PySem.W.Frag) (n : Nat) : Addr := match n with | 0 => He.ga K "BadSide" | 1 => He.ga K "BadStart" | 2 => He.ga K "BadSteps" | 3 => He.ga K "BadLand" | 4 => He.ga K "BadFact" | 5 => He.ga K "BadSeen" | 6 => He.ga K "TooLong" | 7 => He.ga K "BadText" | _ => 0
def dd1 : He.DefD := ⟨("_law_random", none), "_law_random", "_law_random", defArgs st1, bd1, sc1, [], []⟩
def dd5 : He.DefD := ⟨("Drive", some "__init__"), "__init__", "Drive.__init__", defArgs st5, bd5, sc5, [], []⟩
def dd6 : He.DefD := ⟨("_law_below", none), "_law_below", "_law_below", defArgs st6, bd6, sc6, [], []⟩
def dd9 : He.DefD := ⟨("place", none), "place", "place", defArgs st9, bd9, sc9, [], []⟩
def dd10 : He.DefD := ⟨("trace", none), "trace", "trace", defArgs st10, bd10, sc10, [], []⟩
def dd11 : He.DefD := ⟨("passed", none), "passed", "passed", defArgs st11, bd11, sc11, [], []⟩
def dd14 : He.DefD := ⟨("need_begin", none), "need_begin", "need_begin", defArgs st14, bd14, sc14, [], []⟩
def dd15 : He.DefD := ⟨("need_steps", none), "need_steps", "need_steps", defArgs st15, bd15, sc15, [], []⟩
def dd17 : He.DefD := ⟨("need_land", none), "need_land", "need_land", defArgs st17, bd17, sc17, [], []⟩
def dd18 : He.DefD := ⟨("places_of", none), "places_of", "places_of", defArgs st18, bd18, sc18, [], []⟩
def dd19 : He.DefD := ⟨("Drive", some "steps"), "steps", "Drive.steps", defArgs st19, bd19, sc19, [], []⟩
def dd20 : He.DefD := ⟨("Drive", some "start"), "start", "Drive.start", defArgs st20, bd20, sc20, [], []⟩
def dd21 : He.DefD := ⟨("Drive", some "side"), "side", "Drive.side", defArgs st21, bd21, sc21, [], []⟩
def dd22 : He.DefD := ⟨("passed_by", none), "passed_by", "passed_by", defArgs st22, bd22, sc22, [], []⟩
def dd23 : He.DefD := ⟨("is_one_of", none), "is_one_of", "is_one_of", defArgs st23, bd23, sc23, [], []⟩
def dd24 : He.DefD := ⟨("is_from", none), "is_from", "is_from", defArgs st24, bd24, sc24, [], []⟩
def dd25 : He.DefD := ⟨("is_step", none), "is_step", "is_step", defArgs st25, bd25, sc25, [], []⟩
def dd26 : He.DefD := ⟨("begun", none), "begun", "begun", defArgs st26, bd26, sc26, [], []⟩
def dd27 : He.DefD := ⟨("gone", none), "gone", "gone", defArgs st27, bd27, sc27, [], []⟩
def dd28 : He.DefD := ⟨("ahead", none), "ahead", "ahead", defArgs st28, bd28, sc28, [], []⟩
def dd36 : He.DefD := ⟨("parting", none), "parting", "parting", defArgs st36, bd36, sc36, [], []⟩
def dd41 : He.DefD := ⟨("need_fact", none), "need_fact", "need_fact", defArgs st41, bd41, sc41, [], []⟩
def dd42 : He.DefD := ⟨("first_unlike", none), "first_unlike", "first_unlike", defArgs st42, bd42, sc42, [], []⟩
def dd43 : He.DefD := ⟨("lands_from", none), "lands_from", "lands_from", defArgs st43, bd43, sc43, [], []⟩
def dd44 : He.DefD := ⟨("reach", none), "reach", "reach", defArgs st44, bd44, sc44, [], []⟩
def dd45 : He.DefD := ⟨("end_of", none), "end_of", "end_of", defArgs st45, bd45, sc45, [], []⟩
def dd46 : He.DefD := ⟨("far", none), "far", "far", defArgs st46, bd46, sc46, [], []⟩
def dd50 : He.DefD := ⟨("undone", none), "undone", "undone", defArgs st50, bd50, sc50, [], []⟩
def dd53 : He.DefD := ⟨("meeting", none), "meeting", "meeting", defArgs st53, bd53, sc53, [], []⟩
def dd57 : He.DefD := ⟨("swaps", none), "swaps", "swaps", defArgs st57, bd57, sc57, [], []⟩
def dd58 : He.DefD := ⟨("needless", none), "needless", "needless", defArgs st58, bd58, sc58, [], []⟩
def dd61 : He.DefD := ⟨("form", none), "form", "form", defArgs st61, bd61, sc61, [], []⟩
def dd63 : He.DefD := ⟨("home", none), "home", "home", defArgs st63, bd63, sc63, [], []⟩
def dd67 : He.DefD := ⟨("fitting", none), "fitting", "fitting", defArgs st67, bd67, sc67, [], []⟩
def dd68 : He.DefD := ⟨("asking", none), "asking", "asking", defArgs st68, bd68, sc68, [], []⟩
def dd70 : He.DefD := ⟨("is_seen", none), "is_seen", "is_seen", defArgs st70, bd70, sc70, [], []⟩
def dd72 : He.DefD := ⟨("Car", some "__init__"), "__init__", "Car.__init__", defArgs st72, bd72, sc72, [], []⟩
def dd83 : He.DefD := ⟨("read", none), "read", "read", defArgs st83, bd83, sc83, [], []⟩
def dd85 : He.DefD := ⟨("law", none), "law", "law", defArgs st85, bd85, sc85, [], []⟩
def dd86 : He.DefD := ⟨("_law_driven", none), "_law_driven", "_law_driven", defArgs st86, bd86, sc86, [], []⟩
def dd87 : He.DefD := ⟨("_law_decided", none), "_law_decided", "_law_decided", defArgs st87, bd87, sc87, [], []⟩
def dd88 : He.DefD := ⟨("_law_found", none), "_law_found", "_law_found", defArgs st88, bd88, sc88, [], []⟩
def dd89 : He.DefD := ⟨("_law_car", none), "_law_car", "_law_car", defArgs st89, bd89, sc89, [], []⟩
def dd90 : He.DefD := ⟨("Car", some "__len__"), "__len__", "Car.__len__", defArgs st90, bd90, sc90, [], []⟩
def dd92 : He.DefD := ⟨("Drive", some "__eq__"), "__eq__", "Drive.__eq__", defArgs st92, bd92, sc92, [], []⟩
def dd93 : He.DefD := ⟨("do_meet", none), "do_meet", "do_meet", defArgs st93, bd93, sc93, [], []⟩
def dd94 : He.DefD := ⟨("Car", some "undo"), "undo", "Car.undo", defArgs st94, bd94, sc94, [], []⟩
def dd95 : He.DefD := ⟨("Car", some "go"), "go", "Car.go", defArgs st95, bd95, sc95, [], []⟩
def dd96 : He.DefD := ⟨("Car", some "arms"), "arms", "Car.arms", defArgs st96, bd96, sc96, [], []⟩
def dd97 : He.DefD := ⟨("Car", some "where"), "where", "Car.where", defArgs st97, bd97, sc97, [], []⟩
def dd99 : He.DefD := ⟨("Car", some "drive"), "drive", "Car.drive", defArgs st99, bd99, sc99, [], []⟩
def dd100 : He.DefD := ⟨("write", none), "write", "write", defArgs st100, bd100, sc100, [], []⟩
def dd101 : He.DefD := ⟨("Line", some "__init__"), "__init__", "Line.__init__", defArgs st101, bd101, sc101, [], []⟩
def dd102 : He.DefD := ⟨("Line", some "take"), "take", "Line.take", defArgs st102, bd102, sc102, [], []⟩
def dd103 : He.DefD := ⟨("Line", some "take_number"), "take_number", "Line.take_number", defArgs st103, bd103, sc103, [], []⟩
def dd104 : He.DefD := ⟨("Line", some "end"), "end", "Line.end", defArgs st104, bd104, sc104, [], []⟩
def dd105 : He.DefD := ⟨("step_in", none), "step_in", "step_in", defArgs st105, bd105, sc105, [], []⟩
def fn : List He.DefD := [dd1, dd5, dd6, dd9, dd10, dd11, dd14, dd15, dd17, dd18, dd22, dd23, dd24, dd25, dd26, dd27, dd28, dd36, dd41, dd42, dd43, dd44, dd45, dd46, dd50, dd53, dd57, dd58, dd61, dd63, dd67, dd68, dd70, dd72, dd83, dd85, dd86, dd87, dd88, dd89, dd90, dd92, dd93, dd94, dd95, dd96, dd97, dd99, dd100, dd101, dd102, dd103, dd104, dd105]
def ps : List PrD := [⟨"Drive", "steps", dd19⟩, ⟨"Drive", "start", dd20⟩, ⟨"Drive", "side", dd21⟩]
def fa : List He.Fa := [.glo "_law_random", .meth "Drive" "__init__", .glo "_law_below", .glo "place", .glo "trace", .glo "passed", .glo "need_begin", .glo "need_steps", .glo "need_land", .glo "places_of", .glo "passed_by", .glo "is_one_of", .glo "is_from", .glo "is_step", .glo "begun", .glo "gone", .glo "ahead", .glo "parting", .glo "need_fact", .glo "first_unlike", .glo "lands_from", .glo "reach", .glo "end_of", .glo "far", .glo "undone", .glo "meeting", .glo "swaps", .glo "needless", .glo "form", .glo "home", .glo "fitting", .glo "asking", .glo "is_seen", .meth "Car" "__init__", .glo "read", .glo "law", .glo "_law_driven", .glo "_law_decided", .glo "_law_found", .glo "_law_car", .meth "Car" "__len__", .meth "Drive" "__eq__", .glo "do_meet", .meth "Car" "undo", .meth "Car" "go", .meth "Car" "arms", .meth "Car" "where", .meth "Car" "drive", .glo "write", .meth "Line" "__init__", .meth "Line" "take", .meth "Line" "take_number", .meth "Line" "end", .glo "step_in", .glo "Drive", .cls "Drive", .mkr "Drive", .noat "Drive" "told", .noat "Drive" "origin", .noat "Drive" "noted", .noat "Drive" "spots", .noat "Drive" "number", .noat "Drive" "row", .noat "Drive" "spot", .glo "Car", .cls "Car", .mkr "Car", .noat "Car" "told", .noat "Car" "origin", .noat "Car" "noted", .noat "Car" "spots", .noat "Car" "number", .noat "Car" "row", .noat "Car" "spot", .glo "Line", .cls "Line", .mkr "Line", .noat "Line" "told", .noat "Line" "origin", .noat "Line" "noted", .noat "Line" "spots", .noat "Line" "number", .noat "Line" "row", .noat "Line" "spot", .free "int", .free "abs", .free "len", .free "zip", .free "range", .free "enumerate", .free "set", .free "tuple", .free "str", .free "isinstance", .free "list", .free "all", .free "sum", .free "sorted", .free "any", .free "bool", .glo "BadSeen", .glo "BadSteps", .glo "TooLong", .exc "TooLong", .glo "BadText", .glo "BadSide", .exc "BadSide", .glo "BadStart", .exc "BadStart", .glo "BadLand", .exc "BadLand", .glo "BadFact", .exc "BadFact", .free "super", .int "GREATEST" 1000000000000000000000000000000, .glo "ROUNDS", .int "BEYOND" 10, .int "MOST_HOME" 200, .int "MOST_STEPS" 6, .glo "SIDES", .int "FARTHEST" 2, .int "MOST_FACT" 9, .glo "MOST_BY"]
def ts : List He.Tab := [(fun K => He.ga K "MOST_BY", ["on", "short"])]
def ex (K : PySem.W.Frag) : Bool := (He.tupB K "ROUNDS" [He.Dv.str "first", He.Dv.str "second"]) && ((tkB K "ROUNDS") && ((He.tupB K "SIDES" [He.Dv.str "left", He.Dv.str "right"]) && ((kmB K "MOST_BY" [("on", 4), ("short", 3)]) && ((drvB K "Drive") && (true)))))
abbrev R : PySem.W.OpenRow := PySem.W.OpenLaw.row PySem.Challenge.rw_roundarms_k16_known_drives
abbrev hk : PySem.W.Hook := hookY 7 fa fn ts ps xs ex
def ob (s : PySem.W.SharedT) : AlY := obsYG 7 fa fn ts ps xs ex (HandSHeadRun.getT s)
theorem ob_eq (s : PySem.W.SharedT) : ob s = hk.obs s.abs := obsYG_eq (HandSHeadRun.getT_eq s)
def lo0 : List PySem.Str := ["ArmError", "BadSide", "BadStart", "BadSteps", "BadLand", "BadFact", "BadSeen", "TooLong", "BadText", "SIDES", "ROUNDS", "FARTHEST", "MOST_STEPS", "MOST_BY", "is_from", "is_one_of", "is_step", "need_steps", "need_begin", "Drive", "GREATEST", "need_land", "begun", "ahead", "gone", "passed_by", "places_of", "trace", "place", "passed"]
def lo1 : List PySem.Str := ["MOST_FACT", "BEYOND", "need_fact", "lands_from", "far", "reach", "end_of", "first_unlike", "parting", "undone", "do_meet", "meeting", "needless", "swaps", "form", "Car", "MOST_HOME", "home", "is_seen", "fitting", "asking", "write", "Line", "step_in", "read", "_law_random", "_law_below", "_law_driven", "_law_decided", "_law_found"]
def lo2 : List PySem.Str := ["_law_car"]
abbrev loose : List PySem.Str := lo0 ++ lo1 ++ lo2
set_option maxHeartbeats 0 in
theorem runF (w : World) : HandSHeadRun.RunEq R (PySem.W.view R.prog [69]) hk ob 40000 loose (w.withFollow "special-get-raises" false) := by
  intro os
  kernel_rfl
set_option maxHeartbeats 0 in
theorem runT (w : World) : HandSHeadRun.RunEq R (PySem.W.view R.prog [69]) hk ob 40000 loose (w.withFollow "special-get-raises" true) := by
  intro os
  kernel_rfl
theorem run (w : World) : HandSHeadRun.RunEq R (PySem.W.view R.prog [69]) hk ob 40000 loose w :=
  PySem.W.byRow2 "special-get-raises" (P := fun w => HandSHeadRun.RunEq R (PySem.W.view R.prog [69]) hk ob 40000 loose w) runF runT w
end K16
/-! Data as trees over the hand layer; the defs of the text as terms; the law, run. -/
/-! Data as trees; a small language over it; what its terms come to. -/
namespace DL
open PySem

/-- a value as data: lists, tuples, dicts, drives that no longer change are trees -/
inductive D where
  | non | bl (b : Bool) | int (i : Int) | str (x : Str)
  | tup (l : List D) | lst (l : List D)
  | map (kvs : List (Str × D))
  | drv (t : D)
  | scr (l : List D)
  deriving Inhabited
/-- a value: data, or a place in the store -/
inductive U where
  | d (d : D) | loc (n : Nat)
  deriving Inhabited
/-- a field of an instance: data, or a list of its own -/
inductive Fd where
  | dat (d : D) | own (l : List D)
  deriving Inhabited
/-- what stands in the store -/
inductive Cell where
  | lst (l : List D)
  | ins (c : Nat) (fs : List (Str × Fd))
  | bdc (kvs : List (Bool × D))
  | dead
  deriving Inhabited
abbrev Store := List Cell
abbrev Env := List (Option U)
/-- an exception: its class, its fields -/
structure Xn where
  c : Nat
  fs : List (Str × D)
  deriving Inhabited

/-- what comes of a term: a value, an exception; none: nothing is said -/
inductive R (A : Type) where
  | ok (a : A) (S : Store)
  | ex (x : Xn) (S : Store)
abbrev M (A : Type) := Option (R A)
def bnd {A B : Type} (m : M A) (k : A → Store → M B) : M B := match m with
  | none => none
  | some (.ex x S) => some (.ex x S)
  | some (.ok a S) => k a S
@[simp] theorem bnd_none {A B : Type} (k : A → Store → M B) : bnd none k = none := rfl
@[simp] theorem bnd_ok {A B : Type} (a : A) (S : Store) (k : A → Store → M B) : bnd (some (.ok a S)) k = k a S := rfl
@[simp] theorem bnd_ex {A B : Type} (x : Xn) (S : Store) (k : A → Store → M B) : bnd (some (.ex x S)) k = some (.ex x S) := rfl
/-- an answer without an exception wanted -/
def noX {A : Type} (m : M A) : M A := match m with
  | some (.ok a S) => some (.ok a S)
  | _ => none
@[simp] theorem noX_ok {A : Type} (a : A) (S : Store) : noX (some (.ok a S)) = some (.ok a S) := rfl
@[simp] theorem noX_none {A : Type} : noX (none : M A) = none := rfl
@[simp] theorem noX_ex {A : Type} (x : Xn) (S : Store) : noX (some (.ex x S) : M A) = none := rfl
/-- data wanted -/
def bnD {B : Type} (m : M U) (k : D → Store → M B) : M B := bnd m fun u S => match u with
  | .d d => k d S
  | .loc _ => none
@[simp] theorem bnD_none {B : Type} (k : D → Store → M B) : bnD none k = none := rfl
@[simp] theorem bnD_ok {B : Type} (a : D) (S : Store) (k : D → Store → M B) : bnD (some (.ok (.d a) S)) k = k a S := rfl
@[simp] theorem bnD_ex {B : Type} (x : Xn) (S : Store) (k : D → Store → M B) : bnD (some (.ex x S)) k = some (.ex x S) := rfl
/-- an answer without a change -/
def giv (o : Option D) (S : Store) : M U := match o with
  | some d => some (.ok (.d d) S)
  | none => none
@[simp] theorem giv_some (d : D) (S : Store) : giv (some d) S = some (.ok (.d d) S) := rfl
@[simp] theorem giv_none (S : Store) : giv none S = none := rfl

inductive Bop where
  | add | sub | mul | fdiv | mod | pow
  deriving DecidableEq
inductive Cop where
  | eq | ne | lt | le | gt | ge | mem | nmem | is | isn
  deriving DecidableEq
inductive Ty where
  | int | bool | str | tup | lst | dict | drv
  deriving DecidableEq
inductive Bi where
  | len | abs | int | str | tuple | list | sum | any | all | max | min
  deriving DecidableEq

inductive E where
  | int (i : Int) | str (x : Str) | bl (b : Bool) | non
  | var (i : Nat) | con (k : Nat)
  | bop (o : Bop) (a b : E) | neg (a : E)
  | cmp (o : Cop) (a b : E) | chain (o p : Cop) (a b c : E)
  | not (a : E) | and (a b : E) | or (a b : E) | ite (t a b : E)
  | ix (a i : E) | sl (a lo hi : E) | rev (a : E)
  | tup (es : E) | lst (es : E) | cel (es : E) | catc (a b : E) | map (ks : List Str) (es : E)
  | call (f : Nat) (es : E) | mkd (f : Nat) (es : E) | mkc (c f : Nat) (es : E) | meth (c f : Nat) (m : Str) (a es : E) | prop (f : Nat) (a : E)
  | fld (a : E) (x : Str) | leno (c f : Nat) (a : E) | eqo (f : Nat) (a b : E)
  | bi (b : Bi) (es : E) | isi (t : Ty) (a : E) | cix (k : Nat) (a : E) | app (o a : E) | popa (o i : E) | join (y a : E) | split (x y : E)
  | srt (a : E) | nset (a : E)
  | fapp (a : E) (x : Str) (e : E) | fpop (a : E) (x : Str) | fix (a : E) (x : Str) (i : E) | flen (a : E) (x : Str) | ftup (a : E) (x : Str) | feq0 (a : E) (x : Str)
  | bdn | sdef (a k v : E) | bget (a k : E)
  | rng1 (a : E) | rng2 (a b : E) | enum (a : E) | zip (a b : E)
  | lc (vs : List Nat) (it : E) (g : List Nat) (t e : E) | lc2 (vs : List Nat) (it : E) (g : List Nat) (t : E) (vs1 : List Nat) (it1 : E) (g1 : List Nat) (t1 e : E)
  | yes
  | xf (i : Nat) (x : Str)
  | nil | cons (a r : E) | star (a r : E)

/-! ### operations on data -/
mutual
def eqD : D → D → Bool
  | .non, .non => true
  | .bl a, .bl b => a == b
  | .bl a, .int j => (if a then 1 else 0) == j
  | .int i, .bl b => i == (if b then 1 else 0)
  | .int i, .int j => i == j
  | .str x, .str y => decide (x = y)
  | .tup xs, .tup ys => eqDs xs ys
  | .lst xs, .lst ys => eqDs xs ys
  | _, _ => false
def eqDs : List D → List D → Bool
  | [], [] => true
  | x :: xs, y :: ys => eqD x y && eqDs xs ys
  | _, _ => false
end
/-- texts that the model lays out -/
def okS (x : Str) : Bool := x.cps.all (· < 1114112)
mutual
/-- what == compares: of depth at most n -/
def okD : Nat → D → Bool
  | _, .non => true
  | _, .bl _ => true
  | _, .int _ => true
  | _, .str x => okS x
  | n + 1, .tup l => okDs n l
  | n + 1, .lst l => okDs n l
  | _, _ => false
def okDs : Nat → List D → Bool
  | _, [] => true
  | n, x :: xs => okD n x && okDs n xs
end
def flat : D → Bool
  | .non => true
  | .bl _ => true
  | .int _ => true
  | .str _ => true
  | _ => false
/-- the scalars that are compared at once -/
def scal : D → D → Bool
  | .non, .non => true | .non, .int _ => true | .int _, .non => true | .non, .bl _ => true | .bl _, .non => true | .non, .str _ => true | .str _, .non => true
  | .int _, .int _ => true | .bl _, .bl _ => true | .str _, .str _ => true
  | .int _, .str _ => true | .str _, .int _ => true | .bl _, .str _ => true | .str _, .bl _ => true
  | _, _ => false
/-- a dict and a tuple are unlike -/
def mapTup : D → D → Bool
  | .map _, .tup _ => true
  | _, _ => false
def eqC (a b : D) : Option Bool := if scal a b || (okD 50 a && okD 50 b) then some (eqD a b) else if mapTup a b then some false else none
def seqOf : D → Option (List D)
  | .tup l => some l
  | .lst l => some l
  | .scr l => some l
  | _ => none
def memD (a b : D) : Option Bool := match b with
  | .tup l => if flat a && l.all flat then some (l.any fun z => eqD z a) else none
  | .lst l => if flat a && l.all flat then some (l.any fun z => eqD z a) else none
  | .map kvs => (match a with
    | .str x => some ((kvs.lookup x).isSome)
    | _ => none)
  | _ => none
def intC (f : Int → Int → Bool) : D → D → Option Bool
  | .int i, .int j => some (f i j)
  | _, _ => none
def cmpD : Cop → D → D → Option Bool
  | .eq, a, b => eqC a b
  | .ne, a, b => (eqC a b).map (!·)
  | .lt, a, b => intC (fun i j => decide (i < j)) a b
  | .le, a, b => intC (fun i j => decide (i ≤ j)) a b
  | .gt, a, b => intC (fun i j => decide (j < i)) a b
  | .ge, a, b => intC (fun i j => decide (j ≤ i)) a b
  | .mem, a, b => memD a b
  | .nmem, a, b => (memD a b).map (!·)
  | .is, a, .non => some (match a with | .non => true | _ => false)
  | .isn, a, .non => some (match a with | .non => false | _ => true)
  | _, _, _ => none
/-- the most items that a list may have -/
def line : Nat := 16777216
def repl {A : Type} (l : List A) (k : Int) : List A := (List.replicate k.toNat l).flatten
def small64 (i : Int) : Bool := decide (-(2 ^ 64) < i) && decide (i < 2 ^ 64)
def bopD : Bop → D → D → Option D
  | .add, .int i, .int j => some (.int (i + j))
  | .add, .str x, .str y => if x.length + y.length ≤ line then some (.str (x ++ y)) else none
  | .add, .tup l, .tup m => if l.length + m.length ≤ line then some (.tup (l ++ m)) else none
  | .add, .lst l, .lst m => if l.length + m.length ≤ line then some (.lst (l ++ m)) else none
  | .sub, .int i, .int j => some (.int (i - j))
  | .mul, .int i, .int j => if small64 i || small64 j then some (.int (i * j)) else none
  | .mul, .tup l, .int k => if l ≠ [] ∧ 2 ≤ k ∧ k ≤ 1000 ∧ l.length ≤ 1000 then some (.tup (repl l k)) else if (l = [] ∨ k = 1) ∧ -1000000 ≤ k ∧ k ≤ 1000000 then some (.tup l) else none
  | .mul, .str x, .int k => if 1 ≤ k ∧ k ≤ 1000 ∧ x.length ≤ 1000 then some (.str ⟨(repl x.cps.toList k).toArray⟩) else none
  | .mul, .lst l, .int k => if 0 ≤ k ∧ k ≤ 1000 ∧ l.length ≤ 1000 then some (.lst (repl l k)) else none
  | .fdiv, .int i, .int j => if 0 < j ∧ j < 1073741824 then some (.int (i / j)) else none
  | .mod, .int i, .int j => if 0 < j then some (.int (i % j)) else none
  | .pow, .int i, .int j => if 0 ≤ j ∧ j ≤ 1000000 ∧ i.natAbs < 2 ^ 64 then some (.int (i ^ j.toNat)) else none
  | _, _, _ => none
/-- the place of an index -/
def plc (n : Nat) (i : Int) : Option Nat := if 0 ≤ i then (if i < n then some i.toNat else none) else if -(n : Int) ≤ i then some (i + n).toNat else none
def at_ {A : Type} (l : List A) (i : Int) : Option A := (plc l.length i).bind fun j => l[j]?
def ixD : D → D → Option D
  | .tup l, .int i => at_ l i
  | .lst l, .int i => at_ l i
  | .map kvs, .str x => kvs.lookup x
  | _, _ => none
def clip (n d : Nat) : Option Int → Nat
  | none => d
  | some v => if v < 0 then (v + (n : Int)).toNat else min v.toNat n
def cut {A : Type} (l : List A) (lo hi : Option Int) : List A := (l.drop (clip l.length 0 lo)).take (clip l.length l.length hi - clip l.length 0 lo)
def slD : D → Option Int → Option Int → Option D
  | .tup l, lo, hi => some (.tup (cut l lo hi))
  | .lst l, lo, hi => some (.lst (cut l lo hi))
  | .str x, lo, hi => if x.length ≤ line then some (.str ⟨(cut x.cps.toList lo hi).toArray⟩) else none
  | _, _, _ => none
def intsOf : List D → Option (List Int)
  | [] => some []
  | .int i :: r => (intsOf r).map (i :: ·)
  | _ :: _ => none
def blsOf : List D → Option (List Bool)
  | [] => some []
  | .bl i :: r => (blsOf r).map (i :: ·)
  | _ :: _ => none
def strsOf : List D → Option (List Str)
  | [] => some []
  | .str i :: r => (strsOf r).map (i :: ·)
  | _ :: _ => none
def maxI : List Int → Option Int
  | [] => none
  | [a] => some a
  | a :: b :: r => (maxI (b :: r)).map fun m => if m > a then m else a
def minI : List Int → Option Int
  | [] => none
  | [a] => some a
  | a :: b :: r => (minI (b :: r)).map fun m => if m < a then m else a
/-- the digits of a number, as Python writes it -/
def numS (i : Int) : Str := Str.ofString (toString i)
/-- a small number read -/
def readI (x : Str) : Option Int := [-9, -8, -7, -6, -5, -4, -3, -2, -1, 0, 1, 2, 3, 4, 5, 6, 7, 8, 9].find? fun i => decide (numS i = x)
def joinS (y : Str) : List Str → Str
  | [] => ⟨#[]⟩
  | [x] => x
  | x :: z :: r => x ++ (y ++ joinS y (z :: r))
/-- a text cut at each sign c -/
def cutAt (c : Nat) : List Nat → List Nat → List (List Nat)
  | acc, [] => [acc]
  | acc, x :: r => if x = c then acc :: cutAt c [] r else cutAt c (acc ++ [x]) r
def biD : Bi → List D → Option D
  | .len, [.tup l] => some (.int l.length)
  | .len, [.lst l] => some (.int l.length)
  | .len, [.str x] => if x.length ≤ line then some (.int x.length) else none
  | .abs, [.int i] => some (.int (if i < 0 then -i else i))
  | .int, [.int i] => some (.int i)
  | .int, [.bl b] => some (.int (if b then 1 else 0))
  | .int, [.str x] => (readI x).map .int
  | .str, [.int i] => if i.natAbs < 1000000 then some (.str (numS i)) else none
  | .str, [.str x] => some (.str x)
  | .tuple, [.lst l] => some (.tup l)
  | .tuple, [.tup l] => some (.tup l)
  | .list, [.lst l] => some (.lst l)
  | .list, [.tup l] => some (.lst l)
  | .sum, [.lst l] => (intsOf l).map fun ns => .int ns.sum
  | .sum, [.tup l] => (intsOf l).map fun ns => .int ns.sum
  | .any, [.lst l] => (blsOf l).map fun bs => .bl (bs.any id)
  | .all, [.lst l] => (blsOf l).map fun bs => .bl (bs.all id)
  | .max, [.lst l] => ((intsOf l).bind maxI).map .int
  | .min, [.lst l] => ((intsOf l).bind minI).map .int
  | _, _ => none
def isiD : Ty → D → Bool
  | .int, .int _ => true
  | .int, .bl _ => true
  | .bool, .bl _ => true
  | .str, .str _ => true
  | .tup, .tup _ => true
  | .lst, .lst _ => true
  | .lst, .scr _ => true
  | .dict, .map _ => true
  | .drv, .drv _ => true
  | _, _ => false
def idxS : List Str → Str → Option Nat
  | [], _ => none
  | x :: r, z => if x = z then some 0 else (idxS r z).map (· + 1)
def cixD (c x : D) : Option D := match c, x with
  | .tup l, .str z => (strsOf l).bind fun ys => (idxS ys z).map fun (k : Nat) => D.int (k : Int)
  | _, _ => none
def joinD (y a : D) : Option D := match y, a with
  | .str y, .lst l => (strsOf l).bind fun xs => if (xs.map Str.length).sum + xs.length * y.length ≤ 100000 then some (.str (joinS y xs)) else none
  | _, _ => none
def splitD (x y : D) : Option D := match x, y with
  | .str x, .str y => (match y.cps.toList with
    | [c] => if c < 128 ∧ x.length ≤ 100000 then some (.lst ((cutAt c [] x.cps.toList).map fun l => .str ⟨l.toArray⟩)) else none
    | _ => none)
  | _, _ => none
/-- the sum of a tuple of two numbers -/
def sumOf : D → Option Int
  | .tup l => (intsOf l).map List.sum
  | _ => none
def keyed : List D → Option (List (Int × D))
  | [] => some []
  | d :: r => (sumOf d).bind fun k => (keyed r).map ((k, d) :: ·)
/-- the stable order by keys -/
def insK (a : Int × D) : List (Int × D) → List (Int × D)
  | [] => [a]
  | b :: r => if a.1 ≤ b.1 then a :: b :: r else b :: insK a r
def sortK : List (Int × D) → List (Int × D)
  | [] => []
  | a :: r => insK a (sortK r)
theorem insK_mid (a : Int × D) : ∀ l1 l2 : List (Int × D), (∀ b ∈ l1, ¬ a.1 ≤ b.1) → (∀ b ∈ l2, a.1 ≤ b.1) → insK a (l1 ++ l2) = l1 ++ a :: l2
  | [], [], _, _ => rfl
  | [], b :: r, _, h => by
    show insK a (b :: r) = a :: b :: r
    unfold insK
    rw [if_pos (h b List.mem_cons_self)]
  | b :: l1, l2, h1, h2 => by
    show insK a (b :: (l1 ++ l2)) = b :: (l1 ++ a :: l2)
    unfold insK
    rw [if_neg (h1 b List.mem_cons_self), insK_mid a l1 l2 (fun x hx => h1 x (List.mem_cons_of_mem _ hx)) h2]
theorem sortK_eq : ∀ l : List (Int × D), sortK l = l.mergeSort fun a b => decide (a.1 ≤ b.1)
  | [] => by simp [sortK]
  | a :: r => by
    have tr : ∀ a b c : Int × D, decide (a.1 ≤ b.1) = true → decide (b.1 ≤ c.1) = true → decide (a.1 ≤ c.1) = true := by
      intro a b c h1 h2
      simp only [decide_eq_true_eq] at *
      omega
    have tt : ∀ a b : Int × D, (decide (a.1 ≤ b.1) || decide (b.1 ≤ a.1)) = true := by
      intro a b
      simp only [Bool.or_eq_true, decide_eq_true_eq]
      omega
    obtain ⟨l1, l2, h1, h2, h3⟩ := List.mergeSort_cons (le := fun a b : Int × D => decide (a.1 ≤ b.1)) tr tt a r
    have pw := List.pairwise_mergeSort (le := fun a b : Int × D => decide (a.1 ≤ b.1)) tr tt (a :: r)
    rw [h1] at pw
    have pw2 := (List.pairwise_cons.mp (List.pairwise_append.mp pw).2.1).1
    show insK a (sortK r) = _
    rw [sortK_eq r, h2, h1]
    refine insK_mid a l1 l2 (fun b hb => ?_) (fun b hb => by simpa using pw2 b hb)
    have := h3 b hb
    simpa using this
def srtD : D → Option D
  | .lst l => (keyed l).map fun ks => .lst ((sortK ks).map (·.2))
  | _ => none
/-- how many unlike ones -/
def uniq : List D → List D
  | [] => []
  | x :: r => x :: (uniq r).filter fun z => !eqD z x
def placeLike : D → Bool
  | .tup [.str _, .int _] => true
  | _ => false
def nsetD : D → Option D
  | .lst l => if l.all placeLike = true ∧ (uniq l).length < 64 then some (.int (uniq l).length) else none
  | _ => none
def putD (f : Str) (d : Fd) : List (Str × Fd) → List (Str × Fd)
  | [] => [(f, d)]
  | (g, x) :: t => if g = f then (g, d) :: t else (g, x) :: putD f d t
def partI : U → Option (Option Int)
  | .d (.int i) => some (some i)
  | _ => none
def rngL (lo hi : Int) : List D := (List.range (hi - lo).toNat).map fun (i : Nat) => .int (lo + i)
def small62 (i : Int) : Bool := decide (-(2 ^ 62) ≤ i) && decide (i < 2 ^ 62)
def enumL : Nat → List D → List D
  | _, [] => []
  | n, x :: r => .tup [.int (n : Int), x] :: enumL (n + 1) r
def zipL : List D → List D → List D
  | x :: r, y :: s => .tup [x, y] :: zipL r s
  | _, _ => []
/-- a value goes to its names -/
def setAll : List Nat → List U → Env → Option Env
  | [], [], e => some e
  | i :: is, u :: us, e => setAll is us (e.set i (some u))
  | _, _, _ => none
def bindTo (g : List Nat) (d : D) (e : Env) : Option Env := match g with
  | [i] => some (e.set i (some (.d d)))
  | is => (match d with
    | .tup l => setAll is (l.map U.d) e
    | _ => none)
def wipeE (e : Env) : List Nat → Env
  | [] => e
  | v :: vs => (wipeE e vs).set v none
def lst1 : List U → Option (List D)
  | [] => some []
  | .d d :: r => (lst1 r).map (d :: ·)
  | .loc _ :: _ => none
/-- a walk over items that keeps what is made -/
def walk (f : D → Store → M (Option D)) : List D → List D → Store → M (List D)
  | acc, [], S => some (.ok acc S)
  | acc, d :: r, S => bnd (f d S) fun o S1 => walk f (match o with | some x => acc ++ [x] | none => acc) r S1
/-- a walk over items for what it changes -/
def walks (f : D → Store → M Unit) : List D → Store → M Unit
  | [], S => some (.ok () S)
  | d :: r, S => bnd (f d S) fun _ S1 => walks f r S1

/-- a built-in of values: a list that may still change is read -/
def biU (b : Bi) (us : List U) (S : Store) : Option D := match lst1 us with
  | some l => biD b l
  | none => (match b, us with
    | .len, [.loc n] => (match S[n]? with
      | some (.lst l) => some (.int l.length)
      | _ => none)
    | .tuple, [.loc n] => (match S[n]? with
      | some (.lst l) => some (.tup l)
      | _ => none)
    | _, _ => none)

structure Ev where
  fn : Nat → List U → Store → M U
  con : Nat → D
  nc : Nat
/-- a dict of truth values -/
def isBdc : U → Store → Bool
  | .loc n, S => (match S[n]? with
    | some (.bdc _) => true
    | _ => false)
  | _, _ => false
/-- a list that may change -/
def isLst (u : U) (S : Store) : Bool := match u with
  | .loc n => (match S[n]? with
    | some (.lst _) => true
    | _ => false)
  | _ => false
/-- an instance of the class c, that has no attribute m of its own -/
def insOk (c : Nat) (m : Str) (u : U) (S : Store) : Bool := match u with
  | .loc n => (match S[n]? with
    | some (.ins c' fs) => decide (c' = c) && (fs.lookup m).isNone
    | _ => false)
  | .d (.drv _) => decide (c = 0) && !decide (m = "told")
  | _ => false

/-- the names of an instance's own lists -/
def ownN : List (Str × Fd) → List Str
  | [] => []
  | (x, .own _) :: t => x :: ownN t
  | (_, .dat _) :: t => ownN t
/-- an instance whose field x is a list of its own -/
def ownB (nc : Nat) (x : Str) (u : U) (S : Store) : Bool := match u with
  | .loc n => (match S[n]? with
    | some (.ins c fs) => decide (c < nc) && (match fs.lookup x with
      | some (.own _) => true
      | _ => false)
    | _ => false)
  | _ => false
/-- the own lists still stand where they stood -/
def sameO (u : U) (S S' : Store) : Bool := match u with
  | .loc n => (match S[n]?, S'[n]? with
    | some (.ins _ fs), some (.ins _ fs') => decide (ownN fs = ownN fs')
    | _, _ => false)
  | _ => false
/-- the own list x of an instance -/
def ownL (x : Str) (u : U) (S : Store) : Option (List D) := match u with
  | .loc n => (match S[n]? with
    | some (.ins _ fs) => (match fs.lookup x with
      | some (.own l) => some l
      | _ => none)
    | _ => none)
  | _ => none
/-- .. written -/
def ownW (x : Str) (u : U) (S : Store) (l : List D) : Store := match u with
  | .loc n => (match S[n]? with
    | some (.ins c fs) => S.set n (.ins c (putD x (.own l) fs))
    | _ => S)
  | _ => S
/-- a drive or a tuple -/
def drvTup : D → Bool
  | .drv _ => true
  | .tup _ => true
  | _ => false
/-- a drive's own ==, of a drive or a tuple behind it -/
def eqO (fn : Nat → List U → Store → M U) (f : Nat) (u v : D) (S : Store) : M Bool := match u, drvTup v with
  | .drv t, true => (match noX (fn f [.d (.drv t), .d v] S) with
    | some (.ok (.d (.bl c)) S1) => some (.ok c S1)
    | _ => none)
  | _, _ => none

section
variable (G : Ev)
mutual
def evE : E → Env → Store → M U
  | .int i, _, S => some (.ok (.d (.int i)) S)
  | .str x, _, S => some (.ok (.d (.str x)) S)
  | .bl b, _, S => some (.ok (.d (.bl b)) S)
  | .non, _, S => some (.ok (.d .non) S)
  | .var i, e, S => (match e[i]? with
    | some (some u) => some (.ok u S)
    | _ => none)
  | .con k, _, S => some (.ok (.d (G.con k)) S)
  | .bop o a b, e, S => bnD (evE a e S) fun x S1 => bnD (evE b e S1) fun y S2 => giv (bopD o x y) S2
  | .neg a, e, S => bnD (evE a e S) fun x S1 => (match x with
    | .int i => some (.ok (.d (.int (-i))) S1)
    | _ => none)
  | .cmp o a b, e, S => bnD (evE a e S) fun x S1 => bnD (evE b e S1) fun y S2 => giv ((cmpD o x y).map .bl) S2
  | .chain o p a b c, e, S => bnD (evE a e S) fun x S1 => bnD (evE b e S1) fun y S2 => (match cmpD o x y with
    | some true => bnD (evE c e S2) fun z S3 => giv ((cmpD p y z).map .bl) S3
    | some false => some (.ok (.d (.bl false)) S2)
    | none => none)
  | .not a, e, S => bnD (evE a e S) fun x S1 => (match x with
    | .bl b => some (.ok (.d (.bl (!b))) S1)
    | _ => none)
  | .and a b, e, S => bnD (evE a e S) fun x S1 => (match x with
    | .bl true => evE b e S1
    | .bl false => some (.ok (.d (.bl false)) S1)
    | _ => none)
  | .or a b, e, S => bnD (evE a e S) fun x S1 => (match x with
    | .bl true => some (.ok (.d (.bl true)) S1)
    | .bl false => evE b e S1
    | _ => none)
  | .ite t a b, e, S => bnd (evT t e S) fun c S1 => if c then evE a e S1 else evE b e S1
  | .ix a i, e, S => bnd (evE a e S) fun u S1 => bnD (evE i e S1) fun y S2 => (match u with
    | .d x => giv (ixD x y) S2
    | .loc n => (match S2[n]?, y with
      | some (.lst l), .int i => giv (at_ l i) S2
      | _, _ => none))
  | .sl a lo hi, e, S => bnD (evE a e S) fun x S1 => bnd (evP lo e S1) fun l S2 => bnd (evP hi e S2) fun h S3 => giv (slD x l h) S3
  | .rev a, e, S => bnD (evE a e S) fun x S1 => (match x with
    | .tup l => some (.ok (.d (.tup l.reverse)) S1)
    | _ => none)
  | .tup es, e, S => bnd (evL es e S) fun us S1 => (match lst1 us with
    | some l => if l.length ≤ line then some (.ok (.d (.tup l)) S1) else none
    | none => none)
  | .lst es, e, S => bnd (evL es e S) fun us S1 => (match lst1 us with
    | some l => if l.length ≤ line then some (.ok (.d (.lst l)) S1) else none
    | none => none)
  | .cel es, e, S => bnd (evL es e S) fun us S1 => (match lst1 us with
    | some l => if l.length ≤ line then some (.ok (.loc S1.length) (S1 ++ [.lst l])) else none
    | none => none)
  | .catc a b, e, S => bnD (evE a e S) fun x S1 => bnD (evE b e S1) fun y S2 => (match x, y with
    | .lst l, .lst m => if l.length + m.length ≤ line then some (.ok (.loc S2.length) (S2 ++ [.lst (l ++ m)])) else none
    | _, _ => none)
  | .map ks es, e, S => bnd (evL es e S) fun us S1 => (match lst1 us with
    | some l => if l.length = ks.length ∧ ks.length ≤ 15 then some (.ok (.d (.map (ks.zip l))) S1) else none
    | none => none)
  | .call f es, e, S => bnd (evL es e S) fun us S1 => G.fn f us S1
  | .mkd f es, e, S => bnd (evL es e S) fun us S1 => (match G.fn f (.loc S1.length :: us) (S1 ++ [.ins 0 []]) with
    | some (.ok (.d .non) S2) => (match S2[S1.length]? with
      | some (.ins 0 [(x, .dat t)]) => if x = ("told" : Str) then some (.ok (.d (.drv t)) (S2.take S1.length)) else none
      | _ => none)
    | some (.ex x S2) => some (.ex x (S2.take S1.length))
    | _ => none)
  | .mkc c f es, e, S => bnd (evL es e S) fun us S1 => (match G.fn f (.loc S1.length :: us) (S1 ++ [.ins c []]) with
    | some (.ok (.d .non) S2) => some (.ok (.loc S1.length) S2)
    | some (.ex x S2) => some (.ex x (S2.take S1.length))
    | _ => none)
  | .meth c f m a es, e, S => bnd (evE a e S) fun u S1 => if insOk c m u S1 then bnd (evL es e S1) fun us S2 => G.fn f (u :: us) S2 else none
  | .prop f a, e, S => bnD (evE a e S) fun x S1 => (match x with
    | .drv t => noX (G.fn f [.d (.drv t)] S1)
    | _ => none)
  | .fld a x, e, S => bnd (evE a e S) fun u S1 => (match u with
    | .loc n => (match S1[n]? with
      | some (.ins c fs) => (match fs.lookup x with
        | some (.dat d) => if c < G.nc then some (.ok (.d d) S1) else none
        | _ => none)
      | _ => none)
    | .d (.drv t) => if x = ("told" : Str) ∧ 0 < G.nc then some (.ok (.d t) S1) else none
    | _ => none)
  | .leno c f a, e, S => bnd (evE a e S) fun u S1 => if insOk c "__len__" u S1 then (match noX (G.fn f [u] S1) with
    | some (.ok (.d (.int n)) S2) => if 0 ≤ n ∧ n < 2 ^ 63 then some (.ok (.d (.int n)) S2) else none
    | _ => none) else none
  | .eqo f a b, e, S => bnD (evE a e S) fun u S1 => bnD (evE b e S1) fun v S2 => (match eqO G.fn f u v S2 with
    | some (.ok c S3) => some (.ok (.d (.bl c)) S3)
    | _ => none)
  | .bi b es, e, S => bnd (evL es e S) fun us S1 => giv (biU b us S1) S1
  | .isi t a, e, S => bnD (evE a e S) fun x S1 => some (.ok (.d (.bl (isiD t x))) S1)
  | .cix k a, e, S => bnD (evE a e S) fun x S1 => giv (cixD (G.con k) x) S1
  | .app o a, e, S => bnd (evE o e S) fun u S1 => if isLst u S1 then bnD (evE a e S1) fun x S2 => (match u with
    | .loc n => (match S2[n]? with
      | some (.lst l) => if l.length < line then some (.ok (.d .non) (S2.set n (.lst (l ++ [x])))) else none
      | _ => none)
    | _ => none) else none
  | .popa o i, e, S => bnd (evE o e S) fun u S1 => if isLst u S1 then bnD (evE i e S1) fun y S2 => (match u, y with
    | .loc n, .int i => (match S2[n]? with
      | some (.lst l) => (match plc l.length i with
        | some j => (match l[j]? with
          | some z => if small62 i then some (.ok (.d z) (S2.set n (.lst (l.eraseIdx j)))) else none
          | none => none)
        | none => none)
      | _ => none)
    | _, _ => none) else none
  | .join y a, e, S => bnD (evE y e S) fun x S1 => if isiD .str x then bnD (evE a e S1) fun z S2 => giv (joinD x z) S2 else none
  | .split y a, e, S => bnD (evE y e S) fun x S1 => if isiD .str x then bnD (evE a e S1) fun z S2 => giv (splitD x z) S2 else none
  | .srt a, e, S => bnD (evE a e S) fun x S1 => giv (srtD x) S1
  | .nset a, e, S => bnD (evE a e S) fun x S1 => giv (nsetD x) S1
  | .fapp a x v, e, S => bnd (evE a e S) fun u S1 => if ownB G.nc x u S1 then bnD (evE v e S1) fun d S2 => if sameO u S1 S2 then (match ownL x u S2 with
      | some l => if l.length < line then some (.ok (.d .non) (ownW x u S2 (l ++ [d]))) else none
      | none => none) else none else none
  | .fpop a x, e, S => bnd (evE a e S) fun u S1 => if ownB G.nc x u S1 then (match ownL x u S1 with
      | some l => (match l[l.length - 1]? with
        | some y => some (.ok (.d y) (ownW x u S1 l.dropLast))
        | none => none)
      | none => none) else none
  | .fix a x i, e, S => bnd (evE a e S) fun u S1 => if ownB G.nc x u S1 then bnD (evE i e S1) fun y S2 => if sameO u S1 S2 then (match ownL x u S2, y with
      | some l, .int j => giv (at_ l j) S2
      | _, _ => none) else none else none
  | .flen a x, e, S => bnd (evE a e S) fun u S1 => if ownB G.nc x u S1 then (match ownL x u S1 with
      | some l => some (.ok (.d (.int l.length)) S1)
      | none => none) else none
  | .ftup a x, e, S => bnd (evE a e S) fun u S1 => if ownB G.nc x u S1 then (match ownL x u S1 with
      | some l => some (.ok (.d (.tup l)) S1)
      | none => none) else none
  | .feq0 a x, e, S => bnd (evE a e S) fun u S1 => if ownB G.nc x u S1 then (match ownL x u S1 with
      | some l => if okDs 49 l then some (.ok (.d (.bl l.isEmpty)) S1) else none
      | none => none) else none
  | .bdn, _, S => some (.ok (.loc S.length) (S ++ [.bdc []]))
  | .sdef a k v, e, S => bnd (evE a e S) fun u S1 => if isBdc u S1 then bnD (evE k e S1) fun y S2 => bnD (evE v e S2) fun d S3 => (match u, y with
    | .loc n, .bl b => (match S3[n]? with
      | some (.bdc kvs) => (match kvs.lookup b with
        | some z => some (.ok (.d z) S3)
        | none => some (.ok (.d d) (S3.set n (.bdc (kvs ++ [(b, d)])))))
      | _ => none)
    | _, _ => none)
    else none
  | .bget a k, e, S => bnd (evE a e S) fun u S1 => if isBdc u S1 then bnD (evE k e S1) fun y S2 => (match u, y with
    | .loc n, .bl b => (match S2[n]? with
      | some (.bdc kvs) => some (.ok (.d ((kvs.lookup b).getD .non)) S2)
      | _ => none)
    | _, _ => none)
    else none
  | .rng1 _, _, _ => none
  | .rng2 _ _, _, _ => none
  | .enum _, _, _ => none
  | .zip _ _, _, _ => none
  | .lc vs it g t el, e, S => bnd (evI it e S) fun l S1 => if l.length ≤ line then
      bnd (walk (fun d S2 => noX (match bindTo g d (wipeE e vs) with
        | none => none
        | some e1 => bnd (evT t e1 S2) fun c S3 => if c then bnD (evE el e1 S3) fun x S4 => some (.ok (some x) S4) else some (.ok none S3))) [] l S1) fun r S5 => some (.ok (.d (.lst r)) S5)
      else none
  | .lc2 vs it g t vs1 it1 g1 t1 el, e, S => bnd (evI it e S) fun l S1 =>
      bnd (walks (fun d S2 => noX (match bindTo g d (wipeE e vs) with
        | none => none
        | some e1 => bnd (evT t e1 S2) fun c S3 => if c then bnd (evI it1 e1 S3) fun l1 S4 =>
            walks (fun d1 S5 => noX (match bindTo g1 d1 (wipeE e1 vs1) with
              | none => none
              | some e2 => bnd (evT t1 e2 S5) fun c1 S6 => if c1 then bnD (evE el e2 S6) fun x S7 => (match S7[S1.length]? with
                  | some (.lst acc) => if acc.length < line then some (.ok () (S7.set S1.length (.lst (acc ++ [x])))) else none
                  | _ => none) else some (.ok () S6))) l1 S4
          else some (.ok () S3))) l (S1 ++ [.lst []])) fun _ S8 => (match S8[S1.length]? with
        | some (.lst r) => some (.ok (.d (.lst r)) (S8.take S1.length))
        | _ => none)
  | .xf i x, e, S => (match e[i]? with
    | some (some (.d (.map kvs))) => giv (kvs.lookup x) S
    | _ => none)
  | .yes, _, _ => none
  | .nil, _, _ => none
  | .cons _ _, _, _ => none
  | .star _ _, _, _ => none
/-- a test -/
def evT : E → Env → Store → M Bool
  | .yes, _, S => some (.ok true S)
  | .not a, e, S => bnd (evT a e S) fun c S1 => some (.ok (!c) S1)
  | .and a b, e, S => bnd (evT a e S) fun c S1 => if c then evT b e S1 else some (.ok false S1)
  | .or a b, e, S => bnd (evT a e S) fun c S1 => if c then some (.ok true S1) else evT b e S1
  | .ite t a b, e, S => bnd (evT t e S) fun c S1 => if c then evT a e S1 else evT b e S1
  | .cmp o a b, e, S => bnD (evE a e S) fun x S1 => bnD (evE b e S1) fun y S2 => (match cmpD o x y with
    | some c => some (.ok c S2)
    | none => none)
  | .call f es, e, S => bnd (evL es e S) fun us S1 => bnD (G.fn f us S1) fun d S2 => (match d with
    | .bl c => some (.ok c S2)
    | _ => none)
  | .isi t a, e, S => bnD (evE a e S) fun x S1 => some (.ok (isiD t x) S1)
  | .bi b es, e, S => bnd (evL es e S) fun us S1 => (match biU b us S1 with
    | some (.bl c) => some (.ok c S1)
    | _ => none)
  | .eqo f a b, e, S => bnD (evE a e S) fun u S1 => bnD (evE b e S1) fun v S2 => (match eqO G.fn f u v S2 with
    | some (.ok c S3) => some (.ok c S3)
    | _ => none)
  | .meth c f m a es, e, S => bnd (evE a e S) fun u S1 => if insOk c m u S1 then bnd (evL es e S1) fun us S2 => bnD (G.fn f (u :: us) S2) fun d S3 => (match d with
    | .bl b => some (.ok b S3)
    | _ => none) else none
  | .var i, e, S => (match e[i]? with
    | some (some (.d (.bl c))) => some (.ok c S)
    | _ => none)
  | .feq0 a x, e, S => bnd (evE a e S) fun u S1 => if ownB G.nc x u S1 then (match ownL x u S1 with
      | some l => if okDs 49 l then some (.ok l.isEmpty S1) else none
      | none => none) else none
  | _, _, _ => none
/-- items, from the left -/
def evL : E → Env → Store → M (List U)
  | .nil, _, S => some (.ok [] S)
  | .cons a r, e, S => bnd (evE a e S) fun u S1 => bnd (evL r e S1) fun us S2 => some (.ok (u :: us) S2)
  | .star a r, e, S => bnD (evE a e S) fun x S1 => (match seqOf x with
    | some l => bnd (evL r e S1) fun us S2 => some (.ok (l.map U.d ++ us) S2)
    | none => none)
  | _, _, _ => none
/-- a part of a slice -/
def evP : E → Env → Store → M (Option Int)
  | .nil, _, S => some (.ok none S)
  | .cons a _, e, S => bnD (evE a e S) fun x S1 => (match x with
    | .int i => some (.ok (some i) S1)
    | _ => none)
  | _, _, _ => none
/-- what is walked -/
def evI : E → Env → Store → M (List D)
  | .rng1 a, e, S => bnD (evE a e S) fun x S1 => (match x with
    | .int j => if small62 j then some (.ok (rngL 0 j) S1) else none
    | _ => none)
  | .rng2 a b, e, S => bnD (evE a e S) fun x S1 => bnD (evE b e S1) fun y S2 => (match x, y with
    | .int i, .int j => if small62 i && small62 j then some (.ok (rngL i j) S2) else none
    | _, _ => none)
  | .enum a, e, S => bnD (evE a e S) fun x S1 => (match seqOf x with
    | some l => some (.ok (enumL 0 l) S1)
    | none => none)
  | .zip a b, e, S => bnD (evE a e S) fun x S1 => bnD (evE b e S1) fun y S2 => (match seqOf x, seqOf y with
    | some l, some m => some (.ok (zipL l m) S2)
    | _, _ => none)
  | .cons a .nil, e, S => bnD (evE a e S) fun x S1 => (match seqOf x with
    | some l => some (.ok l S1)
    | none => none)
  | _, _, _ => none
end
end

/-! ### statements -/
/-- what is made of a caught exception -/
inductive EX where
  | str (x : Str) | fld (f : Str) | pair (a b : EX)
def evX (fs : List (Str × D)) : EX → Option D
  | .str x => some (.str x)
  | .fld f => fs.lookup f
  | .pair a b => (match evX fs a, evX fs b with
    | some x, some y => some (.tup [x, y])
    | _, _ => none)
inductive Stm where
  | nop
  | seq (a b : Stm)
  | asg (g : List Nat) (e : E)
  | par (g : List Nat) (es : E)
  | aug (i : Nat) (o : Bop) (e : E)
  | seti (o i e : E)
  | augi (o i : E) (b : Bop) (e : E)
  | setf (o : E) (x : Str) (e : E)
  | seto (o : E) (x : Str) (es : E)
  | augf (o : E) (x : Str) (b : Bop) (e : E)
  | ex (e : E)
  | ret (e : E) | retN
  | ite (t : E) (a b : Stm)
  | loop (it : E) (g : List Nat) (b : Stm)
  | whil (n : Nat) (t : E) (b : Stm)
  | rais (c : Nat) (xs : List Str) (es : E)
  | tri (b : Stm) (h : Stm)
  | hand (c : Nat) (b : Stm) (r : Stm)
  | handX (c j t : Nat) (x : EX) (r : Stm)
  | frz (i : Nat)
  | stop

/-- what comes of a statement -/
inductive RS where
  | nx (e : Env) (S : Store)
  | rt (u : U) (S : Store)
  | ex (x : Xn) (e : Env) (S : Store)
abbrev MS := Option RS
/-- no exception wanted -/
def noXS (m : MS) : MS := match m with
  | some (.ex _ _ _) => none
  | r => r
@[simp] theorem noXS_nx (e : Env) (S : Store) : noXS (some (.nx e S)) = some (.nx e S) := rfl
@[simp] theorem noXS_rt (u : U) (S : Store) : noXS (some (.rt u S)) = some (.rt u S) := rfl
def bndS (m : MS) (k : Env → Store → MS) : MS := match m with
  | some (.nx e S) => k e S
  | r => r
@[simp] theorem bndS_nx (e : Env) (S : Store) (k : Env → Store → MS) : bndS (some (.nx e S)) k = k e S := rfl
@[simp] theorem bndS_rt (u : U) (S : Store) (k : Env → Store → MS) : bndS (some (.rt u S)) k = some (.rt u S) := rfl
@[simp] theorem bndS_ex (x : Xn) (e : Env) (S : Store) (k : Env → Store → MS) : bndS (some (.ex x e S)) k = some (.ex x e S) := rfl
@[simp] theorem bndS_none (k : Env → Store → MS) : bndS none k = none := rfl
/-- an expression within a statement -/
def inS {A : Type} (m : M A) (e : Env) (k : A → Store → MS) : MS := match m with
  | none => none
  | some (.ex x S) => some (.ex x e S)
  | some (.ok a S) => k a S
@[simp] theorem inS_none {A : Type} (e : Env) (k : A → Store → MS) : inS none e k = none := rfl
@[simp] theorem inS_ok {A : Type} (a : A) (S : Store) (e : Env) (k : A → Store → MS) : inS (some (.ok a S)) e k = k a S := rfl
@[simp] theorem inS_ex {A : Type} (x : Xn) (S : Store) (e : Env) (k : A → Store → MS) : inS (some (.ex x S)) e k = some (.ex x e S) := rfl
def loopS (g : List Nat) (f : Env → Store → MS) : List D → Env → Store → MS
  | [], e, S => some (.nx e S)
  | d :: r, e, S => (match bindTo g d e with
    | none => none
    | some e1 => bndS (f e1 S) (loopS g f r))
def whilS (t : Env → Store → M Bool) (f : Env → Store → MS) : Nat → Env → Store → MS
  | 0, _, _ => none
  | n + 1, e, S => inS (t e S) e fun c S1 => if c then bndS (f e S1) (whilS t f n) else some (.nx e S1)
/-- a value goes to its names -/
def bindU (g : List Nat) (u : U) (e : Env) : Option Env := match g with
  | [i] => some (e.set i (some u))
  | is => (match u with
    | .d (.tup l) => setAll is (l.map U.d) e
    | _ => none)

section
variable (G : Ev)
mutual
def evS : Stm → Env → Store → MS
  | .nop, e, S => some (.nx e S)
  | .seq a b, e, S => bndS (evS a e S) fun e1 S1 => evS b e1 S1
  | .asg g a, e, S => inS (evE G a e S) e fun u S1 => (match bindU g u e with
    | some e1 => some (.nx e1 S1)
    | none => none)
  | .par g es, e, S => inS (evL G es e S) e fun us S1 => (match setAll g us e with
    | some e1 => some (.nx e1 S1)
    | none => none)
  | .aug i o a, e, S => (match e[i]? with
    | some (some (.d (.int x))) => inS (evE G a e S) e fun u S1 => (match o, u with
      | .add, .d (.int y) => some (.nx (e.set i (some (.d (.int (x + y))))) S1)
      | .sub, .d (.int y) => some (.nx (e.set i (some (.d (.int (x - y))))) S1)
      | _, _ => none)
    | _ => none)
  | .seti o i a, e, S => inS (evE G a e S) e fun v S1 => inS (evE G o e S1) e fun u S2 => inS (evE G i e S2) e fun y S3 => (match u, y, v with
    | .loc n, .d (.int k), .d d => (match S3[n]? with
      | some (.lst l) => (match plc l.length k with
        | some j => some (.nx e (S3.set n (.lst (l.set j d))))
        | none => none)
      | _ => none)
    | _, _, _ => none)
  | .augi o i b a, e, S => inS (evE G o e S) e fun u S1 => inS (evE G i e S1) e fun y S2 => (match u, y with
    | .loc n, .d (.int k) => (match S2[n]? with
      | some (.lst l) => (match at_ l k with
        | some (.int x) => inS (evE G a e S2) e fun v S3 => (match b, v, S3[n]? with
          | .add, .d (.int z), some (.lst l3) => (match plc l3.length k with
            | some j => some (.nx e (S3.set n (.lst (l3.set j (.int (x + z))))))
            | none => none)
          | .sub, .d (.int z), some (.lst l3) => (match plc l3.length k with
            | some j => some (.nx e (S3.set n (.lst (l3.set j (.int (x - z))))))
            | none => none)
          | _, _, _ => none)
        | _ => none)
      | _ => none)
    | _, _ => none)
  | .setf o x a, e, S => inS (evE G a e S) e fun v S1 => inS (evE G o e S1) e fun u S2 => (match u, v with
    | .loc n, .d d => (match S2[n]? with
      | some (.ins c fs) => if c < G.nc ∧ fs.length < 100 then (match fs.lookup x with
        | some (.own _) => none
        | _ => some (.nx e (S2.set n (.ins c (putD x (.dat d) fs))))) else none
      | _ => none)
    | _, _ => none)
  | .seto o x es, e, S => inS (evL G es e S) e fun us S1 => (match lst1 us with
    | some l => if l.length ≤ line then inS (evE G o e (S1 ++ [.lst l])) e fun u S2 => (match u with
      | .loc n => (match S2[n]?, S2[S1.length]? with
        | some (.ins c fs), some (.lst l2) => if c < G.nc ∧ fs.length < 100 then (match fs.lookup x with
          | none => some (.nx e ((S2.set S1.length .dead).set n (.ins c (putD x (.own l2) fs))))
          | _ => none) else none
        | _, _ => none)
      | _ => none) else none
    | none => none)
  | .augf o x b a, e, S => inS (evE G o e S) e fun u S1 => (match u with
    | .loc n => (match S1[n]? with
      | some (.ins c fs) => if c < G.nc then (match fs.lookup x with
        | some (.dat (.int y)) => inS (evE G a e S1) e fun v S2 => (match b, v, S2[n]? with
          | .add, .d (.int z), some (.ins c2 fs2) => if c2 = c ∧ fs2.length < 100 then (match fs2.lookup x with
              | some (.dat _) => some (.nx e (S2.set n (.ins c (putD x (.dat (.int (y + z))) fs2))))
              | _ => none) else none
          | _, _, _ => none)
        | _ => none) else none
      | _ => none)
    | _ => none)
  | .ex a, e, S => inS (evE G a e S) e fun _ S1 => some (.nx e S1)
  | .ret a, e, S => inS (evE G a e S) e fun u S1 => some (.rt u S1)
  | .retN, _, S => some (.rt (.d .non) S)
  | .ite t a b, e, S => inS (evT G t e S) e fun c S1 => if c then evS a e S1 else evS b e S1
  | .loop it g b, e, S => inS (evI G it e S) e fun l S1 => loopS g (evS b) l e S1
  | .whil n t b, e, S => whilS (evT G t) (evS b) n e S
  | .rais c xs es, e, S => inS (evL G es e S) e fun us S1 => (match lst1 us with
    | some l => if l.length = xs.length then some (.ex ⟨c, xs.zip l⟩ e S1) else none
    | none => none)
  | .tri b h, e, S => (match evS b e S with
    | some (.ex x e1 S1) => if x.c < 8 then evH h x e1 S1 else none
    | r => r)
  | .frz i, e, S => (match e[i]? with
    | some (some (.loc n)) => (match S[n]? with
      | some (.lst l) => some (.nx (e.set i (some (.d (.lst l)))) (S.set n .dead))
      | _ => none)
    | _ => none)
  | .hand _ _ _, _, _ => none
  | .handX _ _ _ _ _, _, _ => none
  | .stop, _, _ => none
/-- what becomes of an exception: the first clause of its class takes it -/
def evH : Stm → Xn → Env → Store → MS
  | .hand c b r, x, e, S => if x.c = c then noXS (evS b e S) else evH r x e S
  | .handX c j t z r, x, e, S => if x.c = c then (if j < e.length then (match evX x.fs z with
    | some d => some (.nx ((e.set t (some (.d d))).set j none) S)
    | none => none) else none) else evH r x e S
  | .nop, x, e, S => some (.ex x e S)
  | _, _, _, _ => none
end
end

/-! ### defs -/
/-- a def's parameters, its names, its body -/
structure Df where
  np : Nat
  nn : Nat
  body : Stm
def start0 (d : Df) (us : List U) : Env := us.map some ++ List.replicate (d.nn - us.length) none
/-- behind a def's end: the cells that it made are dropped, but for one that it hands back -/
def fin (k : Nat) : MS → M U
  | some (.nx _ S) => some (.ok (.d .non) (S.take k))
  | some (.rt (.d d) S) => some (.ok (.d d) (S.take k))
  | some (.rt (.loc n) S) => if n < k then some (.ok (.loc n) (S.take k)) else some (.ok (.loc n) S)
  | some (.ex x _ S) => some (.ex x (S.take k))
  | none => none
/-- the defs by their numbers, n calls deep -/
def run (df : Nat → Option Df) (con : Nat → D) (nc : Nat) : Nat → Nat → List U → Store → M U
  | 0, _, _, _ => none
  | n + 1, f, us, S => match df f with
    | some d => if us.length = d.np then fin S.length (evS ⟨run df con nc n, con, nc⟩ d.body (start0 d us) S) else none
    | none => none
end DL

/-! Data as trees, cells for what changes; how they stand in the abstract heap. -/
namespace DL
open PySem PySem.Spec PyProof.Rows L2

abbrev Pl := List (List Addr)

/-- where the text stands -/
structure Gx where
  K : PySem.W.Frag
  w : World
  cd : Nat → Addr
  xc : Nat → Addr
/-- a dict of the module: text keys, whole numbers -/
def KMap (G : Gx) (a : Addr) (kvs : List (Str × D)) : Prop := ∃ es n, KDict G.K G.w a es n ∧ ∀ z : Str, match kvs.lookup z with
  | some (.int i) => ∃ t, PySem.W.nsIn G.K a z = some (some (.int i t))
  | some _ => False
  | none => PySem.W.nsIn G.K a z = some none

section
variable (G : Gx) (F : Hp)
mutual
inductive Is : V → D → Prop
  | non : Is .non .non
  | bl (b : Bool) : Is (.bl b) (.bl b)
  | int (i : Int) : Is (.int i) (.int i)
  | str (x : Str) : Is (.str x) (.str x)
  | tup {a : Addr} {xs : List V} {ds : List D} : SqT G.K F a xs → IsL xs ds → Is (.ref a) (.tup ds)
  | lst {a : Addr} {xs : List V} {ds : List D} : F a = some (.lst xs) → IsL xs ds → Is (.ref a) (.lst ds)
  | scr {a : Addr} {xs : List V} {ds : List D} : SqL G.K F a xs → IsL xs ds → Is (.ref a) (.scr ds)
  | map {a : Addr} {ps : List (Key × V)} {kvs : List (Str × D)} : F a = some (.dK ps) → IsM ps kvs → Is (.ref a) (.map kvs)
  | kmp {a : Addr} {kvs : List (Str × D)} : KMap G a kvs → Is (.ref a) (.map kvs)
  | drv {a dx : Addr} {v : V} {d : D} : F a = some (.ins (G.cd 0) dx [("told", v)]) → Is v d → Is (.ref a) (.drv d)
inductive IsL : List V → List D → Prop
  | nil : IsL [] []
  | cons {v : V} {vs : List V} {d : D} {ds : List D} : Is v d → IsL vs ds → IsL (v :: vs) (d :: ds)
inductive IsM : List (Key × V) → List (Str × D) → Prop
  | nil : IsM [] []
  | cons {x : Str} {v : V} {vs : List (Key × V)} {d : D} {ds : List (Str × D)} : Is v d → IsM vs ds → IsM ((.inr x, v) :: vs) ((x, d) :: ds)
end
/-- a value of either kind -/
inductive IsU (r : Pl) : V → U → Prop
  | d {v : V} {d : D} : Is G F v d → IsU r v (.d d)
  | loc {n : Nat} {a : Addr} {t : List Addr} : r[n]? = some (a :: t) → IsU r (.ref a) (.loc n)
end

/-- more is known, more cells -/
structure Ext (F F' : Hp) (r r' : Pl) : Prop where
  sub : Same F F'
  pre : ∀ (n : Nat) (a : Addr) (t : List Addr), r[n]? = some (a :: t) → ∃ t', r'[n]? = some (a :: (t ++ t'))
theorem Ext.refl {F : Hp} {r : Pl} : Ext F F r r := ⟨Same.refl F, fun _ _ t h => ⟨[], by rw [List.append_nil]; exact h⟩⟩
theorem Ext.trans {F F1 F2 : Hp} {r r1 r2 : Pl} (a : Ext F F1 r r1) (b : Ext F1 F2 r1 r2) : Ext F F2 r r2 := ⟨a.sub.trans b.sub, fun n x t h => by
  obtain ⟨t1, h1⟩ := a.pre n x t h
  obtain ⟨t2, h2⟩ := b.pre n x (t ++ t1) h1
  exact ⟨t1 ++ t2, by rw [← List.append_assoc]; exact h2⟩⟩
theorem Ext.cells {F F' : Hp} {r : Pl} (h : Same F F') : Ext F F' r r := ⟨h, fun _ _ t h => ⟨[], by rw [List.append_nil]; exact h⟩⟩
theorem same_upd {F : Hp} {p : Addr} {o : HO} (h : F p = none) : Same F (upd F p o) := fun b u q => by
  rw [upd_ne (ne_of_none q h)]; exact q
theorem same_sqT {K : PySem.W.Frag} {H H' : Hp} {a : Addr} {xs : List V} (e : Same H H') (h : SqT K H a xs) : SqT K H' a xs := by
  rcases h with (h | ⟨o, h⟩) | h
  · exact .inl (.inl (e _ _ h))
  · exact .inl (.inr ⟨o, e _ _ h⟩)
  · exact .inr h

section
variable {G : Gx} {F F' : Hp}
mutual
theorem Is.mono (e : Same F F') : ∀ {v : V} {d : D}, Is G F v d → Is G F' v d
  | _, _, .non => .non
  | _, _, .bl b => .bl b
  | _, _, .int i => .int i
  | _, _, .str x => .str x
  | _, _, .tup h t => .tup (same_sqT e h) (IsL.mono e t)
  | _, _, .lst h t => .lst (e _ _ h) (IsL.mono e t)
  | _, _, .scr h t => .scr (e.seq h) (IsL.mono e t)
  | _, _, .map h t => .map (e _ _ h) (IsM.mono e t)
  | _, _, .kmp h => .kmp h
  | _, _, .drv h t => .drv (e _ _ h) (Is.mono e t)
theorem IsL.mono (e : Same F F') : ∀ {vs : List V} {ds : List D}, IsL G F vs ds → IsL G F' vs ds
  | _, _, .nil => .nil
  | _, _, .cons h t => .cons (Is.mono e h) (IsL.mono e t)
theorem IsM.mono (e : Same F F') : ∀ {vs : List (Key × V)} {ds : List (Str × D)}, IsM G F vs ds → IsM G F' vs ds
  | _, _, .nil => .nil
  | _, _, .cons h t => .cons (Is.mono e h) (IsM.mono e t)
end
theorem IsU.mono {r r' : Pl} (e : Ext F F' r r') {v : V} {u : U} (h : IsU G F r v u) : IsU G F' r' v u := by
  cases h with
  | d h => exact .d (h.mono e.sub)
  | loc h => obtain ⟨t, h⟩ := e.pre _ _ _ h; exact .loc h
theorem IsL.length : ∀ {vs : List V} {ds : List D}, IsL G F vs ds → vs.length = ds.length
  | _, _, .nil => rfl
  | _, _, .cons _ t => congrArg (· + 1) (IsL.length t)
theorem IsL.get : ∀ {vs : List V} {ds : List D} {i : Nat} {d : D}, IsL G F vs ds → ds[i]? = some d → ∃ v, vs[i]? = some v ∧ Is G F v d
  | _, _, _, _, .nil, e => by simp at e
  | _, _, 0, _, .cons h _, e => by simp at e; subst e; exact ⟨_, rfl, h⟩
  | _, _, i + 1, d, .cons _ t, e => by
    obtain ⟨v, h1, h2⟩ := IsL.get (i := i) (d := d) t (by simpa using e)
    exact ⟨v, by simpa using h1, h2⟩
theorem IsL.got : ∀ {vs : List V} {ds : List D} {i : Nat} {v : V}, IsL G F vs ds → vs[i]? = some v → ∃ d, ds[i]? = some d ∧ Is G F v d
  | _, _, _, _, .nil, e => by simp at e
  | _, _, 0, _, .cons h _, e => by simp at e; subst e; exact ⟨_, rfl, h⟩
  | _, _, i + 1, d, .cons _ t, e => by
    obtain ⟨v, h1, h2⟩ := IsL.got (i := i) t (by simpa using e)
    exact ⟨v, by simpa using h1, h2⟩
theorem IsL.app : ∀ {vs ws : List V} {ds es : List D}, IsL G F vs ds → IsL G F ws es → IsL G F (vs ++ ws) (ds ++ es)
  | _, _, _, _, .nil, h => h
  | _, _, _, _, .cons h t, h' => .cons h (IsL.app t h')
theorem IsL.take : ∀ {vs : List V} {ds : List D} (n : Nat), IsL G F vs ds → IsL G F (vs.take n) (ds.take n)
  | _, _, 0, _ => .nil
  | _, _, _ + 1, .nil => .nil
  | _, _, n + 1, .cons h t => .cons h (IsL.take n t)
theorem IsL.drop : ∀ {vs : List V} {ds : List D} (n : Nat), IsL G F vs ds → IsL G F (vs.drop n) (ds.drop n)
  | _, _, 0, h => h
  | _, _, _ + 1, .nil => .nil
  | _, _, n + 1, .cons h t => IsL.drop n t
theorem IsL.set {v : V} {d : D} (h : Is G F v d) : ∀ {vs : List V} {ds : List D} (n : Nat), IsL G F vs ds → IsL G F (vs.set n v) (ds.set n d)
  | _, _, _, .nil => .nil
  | _, _, 0, .cons _ t => .cons h t
  | _, _, n + 1, .cons q t => .cons q (IsL.set h n t)
theorem IsL.eraseIdx : ∀ {vs : List V} {ds : List D} (n : Nat), IsL G F vs ds → IsL G F (vs.eraseIdx n) (ds.eraseIdx n)
  | _, _, _, .nil => .nil
  | _, _, 0, .cons _ t => t
  | _, _, n + 1, .cons q t => .cons q (IsL.eraseIdx n t)
theorem IsL.reverse : ∀ {vs : List V} {ds : List D}, IsL G F vs ds → IsL G F vs.reverse ds.reverse
  | _, _, .nil => .nil
  | _, _, .cons h t => by rw [List.reverse_cons, List.reverse_cons]; exact IsL.app (IsL.reverse t) (.cons h .nil)
theorem IsL.dropLast {vs : List V} {ds : List D} (h : IsL G F vs ds) : IsL G F vs.dropLast ds.dropLast := by
  rw [List.dropLast_eq_take, List.dropLast_eq_take, h.length]
  exact h.take _
theorem IsL.flat {vs : List V} {ds : List D} (h : IsL G F vs ds) : ∀ k : Nat, IsL G F (List.replicate k vs).flatten (List.replicate k ds).flatten
  | 0 => .nil
  | k + 1 => by rw [List.replicate_succ, List.replicate_succ, List.flatten_cons, List.flatten_cons]; exact IsL.app h (IsL.flat h k)
theorem IsM.look {x : Str} : ∀ {vs : List (Key × V)} {ds : List (Str × D)}, IsM G F vs ds → (∃ v d, valV vs (.inr x) = some v ∧ ds.lookup x = some d ∧ Is G F v d) ∨ (valV vs (.inr x) = none ∧ ds.lookup x = none)
  | _, _, .nil => .inr ⟨rfl, rfl⟩
  | _, _, .cons (x := y) (v := v) (d := d) h t => by
    rw [List.lookup_cons]
    by_cases q : y = x
    · subst q
      refine .inl ⟨v, d, valV_pos rfl, ?_, h⟩
      rw [beq_self_eq_true]
    · have q' : (x == y) = false := by simpa using Ne.symm q
      rw [q', valV_neg (by intro z; exact q (Sum.inr.inj z))]
      exact IsM.look t
theorem IsL.ints : ∀ {vs : List V} {ns : List Int}, IsL G F vs (ns.map D.int) → vs = ns.map V.int
  | _, [], .nil => rfl
  | _, n :: ns, .cons (.int _) t => by rw [List.map_cons, IsL.ints t]
theorem IsL.bls : ∀ {vs : List V} {ns : List Bool}, IsL G F vs (ns.map D.bl) → vs = ns.map V.bl
  | _, [], .nil => rfl
  | _, n :: ns, .cons (.bl _) t => by rw [List.map_cons, IsL.bls t]
theorem IsL.strs : ∀ {vs : List V} {ns : List Str}, IsL G F vs (ns.map D.str) → vs = ns.map V.str
  | _, [], .nil => rfl
  | _, n :: ns, .cons (.str _) t => by rw [List.map_cons, IsL.strs t]
theorem IsL.of_ints : ∀ (ns : List Int), IsL G F (ns.map V.int) (ns.map D.int)
  | [] => .nil
  | n :: ns => .cons (.int n) (IsL.of_ints ns)
theorem IsL.of_strs : ∀ (ns : List Str), IsL G F (ns.map V.str) (ns.map D.str)
  | [] => .nil
  | n :: ns => .cons (.str n) (IsL.of_strs ns)
end

/-! ### cells -/
/-- the fields of an instance; the lists of its own -/
inductive IsF (G : Gx) (F H : Hp) : List (Str × V) → List (Str × Fd) → List Addr → Prop
  | nil : IsF G F H [] [] []
  | dat {x : Str} {v : V} {vs : List (Str × V)} {d : D} {fs : List (Str × Fd)} {bs : List Addr} : Is G F v d → IsF G F H vs fs bs → IsF G F H ((x, v) :: vs) ((x, .dat d) :: fs) bs
  | own {x : Str} {b : Addr} {xs : List V} {vs : List (Str × V)} {ds : List D} {fs : List (Str × Fd)} {bs : List Addr} : H b = some (.lst xs) → IsL G F xs ds → IsF G F H vs fs bs → IsF G F H ((x, .ref b) :: vs) ((x, .own ds) :: fs) (b :: bs)
theorem IsF.mono {G : Gx} {F F' H H' : Hp} (e : Same F F') {vs : List (Str × V)} {fs : List (Str × Fd)} {bs : List Addr} (h : IsF G F H vs fs bs) (k : ∀ b o, b ∈ bs → H b = some o → H' b = some o) : IsF G F' H' vs fs bs := by
  induction h with
  | nil => exact .nil
  | dat h _ ih => exact .dat (h.mono e) (ih k)
  | own h1 h2 _ ih => exact .own (k _ _ List.mem_cons_self h1) (h2.mono e) (ih fun b o m => k b o (List.mem_cons_of_mem _ m))
theorem IsF.length {G : Gx} {F H : Hp} {vs : List (Str × V)} {fs : List (Str × Fd)} {bs : List Addr} (h : IsF G F H vs fs bs) : vs.length = fs.length := by
  induction h with
  | nil => rfl
  | dat _ _ ih => exact congrArg (· + 1) ih
  | own _ _ _ ih => exact congrArg (· + 1) ih
theorem IsF.there {G : Gx} {F H : Hp} {vs : List (Str × V)} {fs : List (Str × Fd)} {bs : List Addr} (h : IsF G F H vs fs bs) : ∀ b ∈ bs, ∃ xs, H b = some (.lst xs) := by
  induction h with
  | nil => exact fun b m => nomatch m
  | dat _ _ ih => exact ih
  | own h1 _ _ ih =>
    intro b m
    rcases List.mem_cons.mp m with e | m
    · subst e; exact ⟨_, h1⟩
    · exact ih b m
theorem IsF.look {G : Gx} {F H : Hp} {vs : List (Str × V)} {fs : List (Str × Fd)} {bs : List Addr} (h : IsF G F H vs fs bs) {x : Str} {d : D} (e : fs.lookup x = some (.dat d)) : ∃ v, vs.lookup x = some v ∧ Is G F v d := by
  induction h with
  | nil => cases e
  | @dat y v vs d' fs bs h t ih =>
    rw [List.lookup_cons] at e ⊢
    by_cases q : (x == y) = true
    · rw [q] at e ⊢; cases e; exact ⟨v, rfl, h⟩
    · have q' : (x == y) = false := by simpa using q
      rw [q'] at e ⊢; exact ih e
  | @own y b xs vs ds fs bs h h2 t ih =>
    rw [List.lookup_cons] at e ⊢
    by_cases q : (x == y) = true
    · rw [q] at e; cases e
    · have q' : (x == y) = false := by simpa using q
      rw [q'] at e ⊢; exact ih e
theorem IsF.lookO {G : Gx} {F H : Hp} {vs : List (Str × V)} {fs : List (Str × Fd)} {bs : List Addr} (h : IsF G F H vs fs bs) {x : Str} {ds : List D} (e : fs.lookup x = some (.own ds)) : ∃ b xs, vs.lookup x = some (.ref b) ∧ b ∈ bs ∧ H b = some (.lst xs) ∧ IsL G F xs ds := by
  induction h with
  | nil => cases e
  | @dat y v vs d' fs bs h t ih =>
    rw [List.lookup_cons] at e ⊢
    by_cases q : (x == y) = true
    · rw [q] at e; cases e
    · have q' : (x == y) = false := by simpa using q
      rw [q'] at e ⊢; exact ih e
  | @own y b xs vs ds' fs bs h h2 t ih =>
    rw [List.lookup_cons] at e ⊢
    by_cases q : (x == y) = true
    · rw [q] at e ⊢; cases e; exact ⟨b, xs, rfl, List.mem_cons_self, h, h2⟩
    · have q' : (x == y) = false := by simpa using q
      rw [q'] at e ⊢
      obtain ⟨b', xs', h1, h2, h3, h4⟩ := ih e
      exact ⟨b', xs', h1, List.mem_cons_of_mem _ h2, h3, h4⟩
theorem IsF.none {G : Gx} {F H : Hp} {vs : List (Str × V)} {fs : List (Str × Fd)} {bs : List Addr} (h : IsF G F H vs fs bs) {x : Str} (e : fs.lookup x = none) : vs.lookup x = none := by
  induction h with
  | nil => rfl
  | @dat y v vs d' fs bs h t ih =>
    rw [List.lookup_cons] at e ⊢
    by_cases q : (x == y) = true
    · rw [q] at e; cases e
    · have q' : (x == y) = false := by simpa using q
      rw [q'] at e ⊢; exact ih e
  | @own y b xs vs ds' fs bs h h2 t ih =>
    rw [List.lookup_cons] at e ⊢
    by_cases q : (x == y) = true
    · rw [q] at e; cases e
    · have q' : (x == y) = false := by simpa using q
      rw [q'] at e ⊢; exact ih e

/-- the dict of truth values at a: its keys, its values -/
def BdH (a : Addr) (ks : List Bool) (vs : List V) : HO := .ext fun h => (a == sysModules) = false ∧ vs.length = ks.length ∧ ∃ us : List Value, Vals vs us ∧ ∀ (P : Program) (w : World), h.DictOf (PpSet.boolK P w) a (ks.zip us)
def CellIs (G : Gx) (F H : Hp) (l : List Addr) : Cell → Prop
  | .lst ds => ∃ a xs, l = [a] ∧ H a = some (.lst xs) ∧ IsL G F xs ds
  | .ins c fs => ∃ a bs dx vs, l = a :: bs ∧ H a = some (.ins (G.cd c) dx vs) ∧ IsF G F H vs fs bs
  | .bdc kvs => ∃ a vs, l = [a] ∧ H a = some (BdH a (kvs.map (·.1)) vs) ∧ IsL G F vs (kvs.map (·.2))
  | .dead => True
theorem CellIs.mono {G : Gx} {F F' H H' : Hp} {l : List Addr} {c : Cell} (h : CellIs G F H l c) (e : Same F F') (k : ∀ b o, b ∈ l → H b = some o → H' b = some o) : CellIs G F' H' l c := by
  cases c with
  | lst ds =>
    obtain ⟨a, xs, rfl, h1, h2⟩ := h
    exact ⟨a, xs, rfl, k _ _ List.mem_cons_self h1, h2.mono e⟩
  | ins c fs =>
    obtain ⟨a, bs, dx, vs, rfl, h1, h2⟩ := h
    exact ⟨a, bs, dx, vs, rfl, k _ _ List.mem_cons_self h1, h2.mono e fun b o m => k b o (List.mem_cons_of_mem _ m)⟩
  | bdc kvs =>
    obtain ⟨a, vs, rfl, h1, h2⟩ := h
    exact ⟨a, vs, rfl, k _ _ List.mem_cons_self h1, h2.mono e⟩
  | dead => exact trivial
/-- the objects that a live cell stands for -/
theorem CellIs.there {G : Gx} {F H : Hp} {l : List Addr} {c : Cell} (h : CellIs G F H l c) (n : c ≠ .dead) : ∀ b ∈ l, ∃ o, H b = some o := by
  cases c with
  | lst ds =>
    obtain ⟨a, xs, rfl, h1, h2⟩ := h
    intro b m
    have e : b = a := by simpa using m
    subst e; exact ⟨_, h1⟩
  | ins c fs =>
    obtain ⟨a, bs, dx, vs, rfl, h1, h2⟩ := h
    intro b m
    rcases List.mem_cons.mp m with e | m
    · subst e; exact ⟨_, h1⟩
    · obtain ⟨xs, q⟩ := h2.there b m; exact ⟨_, q⟩
  | bdc kvs =>
    obtain ⟨a, vs, rfl, h1, h2⟩ := h
    intro b m
    have e : b = a := by simpa using m
    subst e; exact ⟨_, h1⟩
  | dead => exact absurd rfl n

/-- the state: the store S, its cells at r, what is frozen in F -/
structure Rp (G : Gx) (F : Hp) (r : Pl) (S : Store) (H : Hp) : Prop where
  sub : Same F H
  len : r.length = S.length
  cel : ∀ (n : Nat) (l : List Addr) (c : Cell), r[n]? = some l → S[n]? = some c → c ≠ .dead → CellIs G F H l c ∧ l.Nodup ∧ ∀ b ∈ l, F b = none
  sep : ∀ (n m : Nat) (l l' : List Addr) (c c' : Cell) (b : Addr), r[n]? = some l → r[m]? = some l' → S[n]? = some c → S[m]? = some c' → c ≠ .dead → c' ≠ .dead → b ∈ l → b ∈ l' → n = m

section
variable {G : Gx} {F : Hp} {r : Pl} {S : Store} {H : Hp}
theorem Rp.free (R : Rp G F r S H) {p : Addr} (hp : H p = none) : F p = none := by
  cases q : F p with
  | none => rfl
  | some u => rw [R.sub _ _ q] at hp; cases hp
theorem Rp.out (R : Rp G F r S H) {p : Addr} (hp : H p = none) {n : Nat} {l : List Addr} {c : Cell} (h1 : r[n]? = some l) (h2 : S[n]? = some c) (n' : c ≠ .dead) : p ∉ l := fun m => by
  obtain ⟨o, q⟩ := (R.cel n l c h1 h2 n').1.there n' p m
  rw [hp] at q; cases q
/-- a new frozen thing -/
theorem Rp.new (R : Rp G F r S H) {p : Addr} {o : HO} (hp : H p = none) : Rp G (upd F p o) r S (upd H p o) ∧ Same F (upd F p o) := by
  have hF := R.free hp
  refine ⟨⟨fun b u q => ?_, R.len, fun n l c h1 h2 n' => ?_, R.sep⟩, same_upd hF⟩
  · by_cases hb : b = p
    · subst hb; rw [upd_same] at q ⊢; exact q
    · rw [upd_ne hb] at q ⊢; exact R.sub _ _ q
  · obtain ⟨a1, a2, a3⟩ := R.cel n l c h1 h2 n'
    have ho := R.out hp h1 h2 n'
    exact ⟨a1.mono (same_upd hF) fun b u m q => by rw [upd_ne (by intro z; subst z; exact ho m)]; exact q, a2, fun b m => by rw [upd_ne (by intro z; subst z; exact ho m)]; exact a3 b m⟩
/-- a new thing of no account -/
theorem Rp.put (R : Rp G F r S H) {p : Addr} {o : HO} (hp : H p = none) : Rp G F r S (upd H p o) :=
  ⟨R.sub.trans (same_upd hp), R.len, fun n l c h1 h2 n' =>
    let ⟨a1, a2, a3⟩ := R.cel n l c h1 h2 n'
    ⟨a1.mono (Same.refl F) fun b u m q => by rw [upd_ne (by intro z; subst z; exact R.out hp h1 h2 n' m)]; exact q, a2, a3⟩, R.sep⟩
/-- a new cell -/
theorem Rp.cell (R : Rp G F r S H) {H' : Hp} {l : List Addr} {c : Cell} (hp : ∀ b ∈ l, H b = none) (hn : l.Nodup) (hh : ∀ b, b ∉ l → ∀ o, H b = some o → H' b = some o) (hc : CellIs G F H' l c) : Rp G F (r ++ [l]) (S ++ [c]) H' ∧ Ext F F r (r ++ [l]) := by
  have ix : ∀ {n : Nat} {a : List Addr} {c' : Cell}, (r ++ [l])[n]? = some a → (S ++ [c])[n]? = some c' → (r[n]? = some a ∧ S[n]? = some c' ∧ n < r.length) ∨ (n = r.length ∧ a = l ∧ c' = c) := fun {n a c'} h1 h2 => by
    by_cases hn : n < r.length
    · rw [List.getElem?_append_left hn] at h1
      rw [List.getElem?_append_left (by rw [← R.len]; exact hn)] at h2
      exact .inl ⟨h1, h2, hn⟩
    · have hn2 : n < (r ++ [l]).length := (List.getElem?_eq_some_iff.mp h1).1
      have hn3 : n = r.length := by simp at hn2; omega
      subst hn3
      rw [List.getElem?_append_right (Nat.le_refl _)] at h1
      rw [R.len, List.getElem?_append_right (Nat.le_refl _)] at h2
      simp at h1 h2
      exact .inr ⟨rfl, h1.symm, h2.symm⟩
  have keep : ∀ b o, H b = some o → H' b = some o := fun b o q => hh b (fun m => by rw [hp b m] at q; cases q) o q
  refine ⟨⟨fun b o q => keep b o (R.sub b o q), by simp [R.len], fun n a c' h1 h2 n' => ?_, fun n m a a' c1 c2 b h1 h2 h3 h4 l1 l2 m1 m2 => ?_⟩, ⟨Same.refl F, fun n a t h => ⟨[], ?_⟩⟩⟩
  · rcases ix h1 h2 with ⟨h1, h2, _⟩ | ⟨_, rfl, rfl⟩
    · obtain ⟨a1, a2, a3⟩ := R.cel n a c' h1 h2 n'
      exact ⟨a1.mono (Same.refl F) fun b o _ q => keep b o q, a2, a3⟩
    · exact ⟨hc, hn, fun b m => R.free (hp b m)⟩
  · rcases ix h1 h3 with ⟨h1, h3, _⟩ | ⟨hn, ha, _⟩
    · rcases ix h2 h4 with ⟨h2, h4, _⟩ | ⟨_, hb, _⟩
      · exact R.sep n m a a' c1 c2 b h1 h2 h3 h4 l1 l2 m1 m2
      · exact absurd m1 (R.out (hp b (by rw [← hb]; exact m2)) h1 h3 l1)
    · rcases ix h2 h4 with ⟨h2, h4, _⟩ | ⟨hm, _, _⟩
      · exact absurd m2 (R.out (hp b (by rw [← ha]; exact m1)) h2 h4 l2)
      · rw [hn, hm]
  · rw [List.append_nil, List.getElem?_append_left (List.getElem?_eq_some_iff.mp h).1]; exact h
theorem set_at {α : Type} {S : List α} {n m : Nat} {c d : α} (h : (S.set n c)[m]? = some d) : (m = n ∧ d = c) ∨ (m ≠ n ∧ S[m]? = some d) := by
  by_cases hm : m = n
  · subst hm
    by_cases hn : m < S.length
    · rw [List.getElem?_set_self hn] at h; cases h; exact .inl ⟨rfl, rfl⟩
    · rw [List.getElem?_eq_none (by simpa using hn)] at h; cases h
  · rw [List.getElem?_set_ne (Ne.symm hm)] at h; exact .inr ⟨hm, h⟩
theorem set_self {α : Type} {l : List α} {n : Nat} {a : α} (h : l[n]? = some a) : l.set n a = l := by
  apply List.ext_getElem?
  intro i
  by_cases e : n = i
  · subst e
    rw [List.getElem?_set_self (List.getElem?_eq_some_iff.mp h).1, h]
  · rw [List.getElem?_set_ne e]
/-- a cell is written: it owns what it owned, and perhaps things that none other owns -/
theorem Rp.write2 (R : Rp G F r S H) {H' : Hp} {n : Nat} {a : Addr} {z t : List Addr} {c c' : Cell} (ha : r[n]? = some (a :: t)) (hs : S[n]? = some c) (hl : c ≠ .dead) (hl' : c' ≠ .dead)
    (hn : (a :: (t ++ z)).Nodup) (own : ∀ b ∈ z, F b = none ∧ ∀ (m : Nat) (l' : List Addr) (d : Cell), r[m]? = some l' → S[m]? = some d → d ≠ .dead → b ∉ l') (hh : ∀ b, b ∉ a :: (t ++ z) → ∀ o, H b = some o → H' b = some o) (hc : CellIs G F H' (a :: (t ++ z)) c') : Rp G F (r.set n (a :: (t ++ z))) (S.set n c') H' ∧ Ext F F r (r.set n (a :: (t ++ z))) := by
  obtain ⟨b1, b2, b3⟩ := R.cel n _ c ha hs hl
  have hnr : n < r.length := (List.getElem?_eq_some_iff.mp ha).1
  have hF : ∀ b ∈ a :: (t ++ z), F b = none := fun b m => by
    rcases List.mem_cons.mp m with e | m
    · subst e; exact b3 _ List.mem_cons_self
    · rcases List.mem_append.mp m with m | m
      · exact b3 _ (List.mem_cons_of_mem _ m)
      · exact (own b m).1
  have far : ∀ (m : Nat) (l' : List Addr) (d : Cell) (b : Addr), m ≠ n → r[m]? = some l' → S[m]? = some d → d ≠ .dead → b ∈ l' → b ∉ a :: (t ++ z) := fun m l' d b hm h1 h2 h3 m1 m2 => by
    rcases List.mem_cons.mp m2 with e | m2
    · subst e; exact hm (R.sep m n l' _ d c _ h1 ha h2 hs h3 hl m1 List.mem_cons_self)
    · rcases List.mem_append.mp m2 with m2 | m2
      · exact hm (R.sep m n l' _ d c _ h1 ha h2 hs h3 hl m1 (List.mem_cons_of_mem _ m2))
      · exact (own b m2).2 m l' d h1 h2 h3 m1
  refine ⟨⟨fun b u q => hh b (fun m => by rw [hF b m] at q; cases q) u (R.sub b u q), by simp [R.len], fun m b d h1 h2 h3 => ?_, fun m k b1 b2 c1 c2 b h1 h2 h3 h4 l1 l2 m1 m2 => ?_⟩, ⟨Same.refl F, fun m x y h => ?_⟩⟩
  · rcases set_at h1 with ⟨e, rfl⟩ | ⟨e, h1⟩
    · rcases set_at h2 with ⟨_, rfl⟩ | ⟨e', _⟩
      · exact ⟨hc, hn, hF⟩
      · exact absurd e e'
    · rcases set_at h2 with ⟨e', _⟩ | ⟨_, h2⟩
      · exact absurd e' e
      · obtain ⟨a1, a2, a3⟩ := R.cel m b d h1 h2 h3
        exact ⟨a1.mono (Same.refl F) fun x o mx q => hh x (far m b d x e h1 h2 h3 mx) o q, a2, a3⟩
  · rcases set_at h1 with ⟨e, rfl⟩ | ⟨e, h1⟩
    · rcases set_at h2 with ⟨e', _⟩ | ⟨e', h2⟩
      · rw [e, e']
      · rcases set_at h4 with ⟨z, _⟩ | ⟨_, h4⟩
        · exact absurd z e'
        · exact absurd m1 (far k b2 c2 b e' h2 h4 l2 m2)
    · rcases set_at h3 with ⟨z, _⟩ | ⟨_, h3⟩
      · exact absurd z e
      · rcases set_at h2 with ⟨e', rfl⟩ | ⟨e', h2⟩
        · exact absurd m2 (far m b1 c1 b e h1 h3 l1 m1)
        · rcases set_at h4 with ⟨z, _⟩ | ⟨_, h4⟩
          · exact absurd z e'
          · exact R.sep m k b1 b2 c1 c2 b h1 h2 h3 h4 l1 l2 m1 m2
  · by_cases hm : m = n
    · subst hm
      rw [ha] at h; cases h
      exact ⟨z, by rw [List.getElem?_set_self hnr]⟩
    · exact ⟨[], by rw [List.append_nil, List.getElem?_set_ne (Ne.symm hm)]; exact h⟩
/-- a cell is written: it owns what it owned -/
theorem Rp.write (R : Rp G F r S H) {H' : Hp} {n : Nat} {a : Addr} {t : List Addr} {c c' : Cell} (ha : r[n]? = some (a :: t)) (hs : S[n]? = some c) (hl : c ≠ .dead) (hl' : c' ≠ .dead)
    (hh : ∀ b, b ∉ a :: t → ∀ o, H b = some o → H' b = some o) (hc : CellIs G F H' (a :: t) c') : Rp G F r (S.set n c') H' := by
  obtain ⟨_, b2, _⟩ := R.cel n _ c ha hs hl
  have q := (R.write2 (H' := H') (z := []) (c' := c') ha hs hl hl' (by rw [List.append_nil]; exact b2) (fun b m => nomatch m) (by rw [List.append_nil]; exact hh) (by rw [List.append_nil]; exact hc)).1
  rw [List.append_nil, set_self ha] at q
  exact q
/-- a list's cell is written -/
theorem Rp.wlist (R : Rp G F r S H) {n : Nat} {a : Addr} {t : List Addr} {ds ds' : List D} {xs : List V} (ha : r[n]? = some (a :: t)) (hs : S[n]? = some (.lst ds)) (hx : IsL G F xs ds') : Rp G F r (S.set n (.lst ds')) (upd H a (.lst xs)) := by
  obtain ⟨⟨a', xs0, e, h1, h2⟩, _, _⟩ := R.cel n _ _ ha hs (fun z => by cases z)
  cases e
  exact R.write (H' := upd H a (.lst xs)) (c' := .lst ds') ha hs (fun z => by cases z) (fun z => by cases z) (fun b m o q => by rw [upd_ne (by simpa using m)]; exact q) ⟨a, xs, rfl, upd_same, hx⟩
/-- a cell is given up -/
theorem Rp.drop (R : Rp G F r S H) (n : Nat) : Rp G F r (S.set n .dead) H := by
  have at_ : ∀ {m : Nat} {d : Cell}, (S.set n .dead)[m]? = some d → d ≠ .dead → m ≠ n ∧ S[m]? = some d := fun {m d} h l => by
    rcases set_at h with ⟨_, e⟩ | q
    · exact absurd e l
    · exact q
  exact ⟨R.sub, by simp [R.len], fun m b d h1 h2 l => R.cel m b d h1 (at_ h2 l).2 l,
    fun m k b b' c1 c2 x h1 h2 h3 h4 l1 l2 => R.sep m k b b' c1 c2 x h1 h2 (at_ h3 l1).2 (at_ h4 l2).2 l1 l2⟩
/-- .. and what it held is frozen -/
theorem Rp.freeze (R : Rp G F r S H) {n : Nat} {a : Addr} {t : List Addr} {o : HO} {c : Cell} (ha : r[n]? = some (a :: t)) (hs : S[n]? = some c) (hl : c ≠ .dead) (ho : H a = some o) : Rp G (upd F a o) r (S.set n .dead) H ∧ Same F (upd F a o) := by
  have hF : F a = none := (R.cel _ _ _ ha hs hl).2.2 a List.mem_cons_self
  have at_ : ∀ {m : Nat} {d : Cell}, (S.set n .dead)[m]? = some d → d ≠ .dead → m ≠ n ∧ S[m]? = some d := fun {m d} h l => by
    rcases set_at h with ⟨_, e⟩ | q
    · exact absurd e l
    · exact q
  refine ⟨⟨fun b u q => ?_, by simp [R.len], fun m b d h1 h2 l => ?_, fun m k b b' c1 c2 x h1 h2 h3 h4 l1 l2 => R.sep m k b b' c1 c2 x h1 h2 (at_ h3 l1).2 (at_ h4 l2).2 l1 l2⟩, same_upd hF⟩
  · by_cases hb : b = a
    · subst hb; rw [upd_same] at q; cases q; exact ho
    · rw [upd_ne hb] at q; exact R.sub _ _ q
  · obtain ⟨hm, h2⟩ := at_ h2 l
    obtain ⟨a1, a2, a3⟩ := R.cel m b d h1 h2 l
    refine ⟨a1.mono (same_upd hF) fun _ _ _ q => q, a2, fun x mx => ?_⟩
    rw [upd_ne (by intro z; subst z; exact hm (R.sep m n b _ d c _ h1 ha h2 hs l hl mx List.mem_cons_self))]
    exact a3 x mx
/-- the last cells are forgotten -/
theorem Rp.take (R : Rp G F r S H) (k : Nat) : Rp G F (r.take k) (S.take k) H := by
  have i1 : ∀ {α : Type} {l : List α} {n : Nat} {a : α}, (l.take k)[n]? = some a → l[n]? = some a := fun {α l n a} h => by
    have hn : n < (l.take k).length := (List.getElem?_eq_some_iff.mp h).1
    rw [List.length_take] at hn
    rwa [List.getElem?_take_of_lt (by omega)] at h
  exact ⟨R.sub, by simp [R.len], fun n l c h1 h2 h3 => R.cel n l c (i1 h1) (i1 h2) h3, fun n m a a' c c' b h1 h2 h3 h4 => R.sep n m a a' c c' b (i1 h1) (i1 h2) (i1 h3) (i1 h4)⟩
theorem Ext.take {F' : Hp} {r' : Pl} (e : Ext F F' r r') (k : Nat) (hk : r.length ≤ k) : Ext F F' r (r'.take k) := ⟨e.sub, fun n a t h => by
  obtain ⟨t', h'⟩ := e.pre n a t h
  have hn : n < r.length := (List.getElem?_eq_some_iff.mp h).1
  exact ⟨t', by rw [List.getElem?_take_of_lt (by omega)]; exact h'⟩⟩
/-- the list that a cell stands for -/
theorem Rp.list (R : Rp G F r S H) {n : Nat} {a : Addr} {t : List Addr} {ds : List D} (ha : r[n]? = some (a :: t)) (hs : S[n]? = some (.lst ds)) : ∃ xs, H a = some (.lst xs) ∧ IsL G F xs ds := by
  obtain ⟨⟨a', xs, e, h1, h2⟩, _, _⟩ := R.cel n _ _ ha hs (fun z => by cases z)
  cases e
  exact ⟨xs, h1, h2⟩
end
end DL

/-! Readings over data. -/
namespace DL
open PySem PySem.Spec L2
set_option autoImplicit false

/-! ### what is wanted behind a term -/
inductive IsX (G : Gx) (F : Hp) : List (Str × V) → List (Str × D) → Prop
  | nil : IsX G F [] []
  | cons {x : Str} {v : V} {vs : List (Str × V)} {d : D} {ds : List (Str × D)} : Is G F v d → IsX G F vs ds → IsX G F ((x, v) :: vs) ((x, d) :: ds)
def XnIs (G : Gx) (F : Hp) (c : Value) (d : Option Addr) (x : Xn) : Prop :=
  c = .ref (G.xc x.c) ∧ ((x.fs = [] ∧ d = none) ∨ ∃ dd vs, d = some dd ∧ F dd = some (.xd vs) ∧ IsX G F vs x.fs)

def Post (G : Gx) (W : WX) (σ : St) {A B : Type} (Rel : Hp → Pl → B → A → Prop) (F : Hp) (r : Pl) (m : M A) (Q : B → Hp → Prop) : Prop := match m with
  | none => False
  | some (.ok a S) => ∀ F' r' b H', Ext F F' r r' → Rp G F' r' S H' → Rel F' r' b a → Q b H'
  | some (.ex x S) => ∀ F' r' c d H', Ext F F' r r' → Rp G F' r' S H' → XnIs G F' c d x → W c d σ H'
theorem Post.mono {G : Gx} {W : WX} {σ : St} {A B : Type} {Rel : Hp → Pl → B → A → Prop} {F F' : Hp} {r r' : Pl} {m : M A} {Q : B → Hp → Prop} (h : Post G W σ Rel F r m Q) (e : Ext F F' r r') : Post G W σ Rel F' r' m Q := by
  cases m with
  | none => exact h
  | some z =>
    cases z with
    | ok a S => exact fun F2 r2 b H' e2 R2 q => h F2 r2 b H' (e.trans e2) R2 q
    | ex x S => exact fun F2 r2 c d H' e2 R2 q => h F2 r2 c d H' (e.trans e2) R2 q
theorem Post.imp {G : Gx} {W : WX} {σ : St} {A B : Type} {Rel : Hp → Pl → B → A → Prop} {F : Hp} {r : Pl} {m : M A} {Q Q' : B → Hp → Prop} (h : Post G W σ Rel F r m Q) (k : ∀ b H, Q b H → Q' b H) : Post G W σ Rel F r m Q' := by
  cases m with
  | none => exact h
  | some z =>
    cases z with
    | ok a S => exact fun F2 r2 b H' e2 R2 q => k _ _ (h F2 r2 b H' e2 R2 q)
    | ex x S => exact h
/-- a known answer -/
theorem Post.done {G : Gx} {W : WX} {σ : St} {A B : Type} {Rel : Hp → Pl → B → A → Prop} {F : Hp} {r : Pl} {a : A} {S : Store} {Q : B → Hp → Prop} (h : Post G W σ Rel F r (some (.ok a S)) Q) {F' : Hp} {r' : Pl} {b : B} {H' : Hp} (e : Ext F F' r r') (R : Rp G F' r' S H') (q : Rel F' r' b a) : Q b H' := h F' r' b H' e R q
/-- a term first, then another -/
theorem Post.bnd {G : Gx} {W : WX} {σ : St} {A B A' B' : Type} {Rel : Hp → Pl → B → A → Prop} {Rel' : Hp → Pl → B' → A' → Prop} {F : Hp} {r : Pl} {m : M A} {k : A → Store → M A'} {Q : B' → Hp → Prop} (h : Post G W σ Rel' F r (DL.bnd m k) Q) :
    Post G W σ Rel F r m fun b H1 => ∃ F1 r1 S1 a, Ext F F1 r r1 ∧ Rp G F1 r1 S1 H1 ∧ Rel F1 r1 b a ∧ Post G W σ Rel' F1 r1 (k a S1) Q := by
  cases m with
  | none => exact h
  | some z =>
    cases z with
    | ok a S => exact fun F1 r1 b H1 e R q => ⟨F1, r1, S, a, e, R, q, Post.mono (m := k a S) h e⟩
    | ex x S => exact h
theorem Post.bnD {G : Gx} {W : WX} {σ : St} {A' B' : Type} {Rel' : Hp → Pl → B' → A' → Prop} {F : Hp} {r : Pl} {m : M U} {k : D → Store → M A'} {Q : B' → Hp → Prop} (h : Post G W σ Rel' F r (DL.bnD m k) Q) :
    Post G W σ (IsU G) F r m fun b H1 => ∃ F1 r1 S1 d, Ext F F1 r r1 ∧ Rp G F1 r1 S1 H1 ∧ Is G F1 b d ∧ Post G W σ Rel' F1 r1 (k d S1) Q := by
  refine Post.imp (Post.bnd (Rel := IsU G) h) fun b H1 ⟨F1, r1, S1, u, e, R, q, p⟩ => ?_
  cases u with
  | loc n => exact p.elim
  | d d => cases q with | d q => exact ⟨F1, r1, S1, d, e, R, q, p⟩
theorem Post.giv {G : Gx} {W : WX} {σ : St} {F : Hp} {r : Pl} {o : Option D} {S : Store} {Q : VK} (h : Post G W σ (IsU G) F r (DL.giv o S) Q) : ∃ d, o = some d ∧ ∀ F' v H', Same F F' → Rp G F' r S H' → Is G F' v d → Q v H' := by
  cases o with
  | none => exact h.elim
  | some d => exact ⟨d, rfl, fun F' v H' e R q => h F' r v H' (.cells e) R (.d q)⟩

/-! ### slots -/
structure Lo (G : Gx) (F : Hp) (r : Pl) (σ : St) (e : Env) : Prop where
  len : σ.length = e.length
  at_ : ∀ (i : Nat) (u : U), e[i]? = some (some u) → ∃ v, σ[i]? = some (some v) ∧ IsU G F r v u
theorem Lo.mono {G : Gx} {F F' : Hp} {r r' : Pl} {σ : St} {e : Env} (h : Lo G F r σ e) (x : Ext F F' r r') : Lo G F' r' σ e :=
  ⟨h.len, fun i u q => let ⟨v, a, b⟩ := h.at_ i u q; ⟨v, a, b.mono x⟩⟩
theorem Lo.set {G : Gx} {F : Hp} {r : Pl} {σ : St} {e : Env} (h : Lo G F r σ e) (i : Nat) {v : V} {u : U} (q : IsU G F r v u) : Lo G F r (σ.set i (some v)) (e.set i (some u)) := by
  refine ⟨by simp [h.len], fun j w hj => ?_⟩
  rcases set_at hj with ⟨rfl, e1⟩ | ⟨ne, hj⟩
  · cases e1
    have hl : j < (e.set j (some u)).length := (List.getElem?_eq_some_iff.mp hj).1
    exact ⟨v, by rw [List.getElem?_set_self (by rw [h.len]; simpa using hl)], q⟩
  · obtain ⟨v', a, b⟩ := h.at_ j w hj
    exact ⟨v', by rw [List.getElem?_set_ne (Ne.symm ne)]; exact a, b⟩
theorem Lo.clr {G : Gx} {F : Hp} {r : Pl} {σ : St} {e : Env} (h : Lo G F r σ e) (i : Nat) : Lo G F r (σ.set i none) (e.set i none) := by
  refine ⟨by simp [h.len], fun j w hj => ?_⟩
  rcases set_at hj with ⟨rfl, e1⟩ | ⟨ne, hj⟩
  · cases e1
  · obtain ⟨v', a, b⟩ := h.at_ j w hj
    exact ⟨v', by rw [List.getElem?_set_ne (Ne.symm ne)]; exact a, b⟩
theorem Lo.wipe {G : Gx} {F : Hp} {r : Pl} {σ : St} {e : Env} (h : Lo G F r σ e) : ∀ vs : List Nat, Lo G F r (L2.wipe σ vs) (wipeE e vs)
  | [] => h
  | v :: vs => by
    unfold L2.wipe wipeE
    exact (Lo.wipe h vs).clr v
theorem Lo.start {G : Gx} {F : Hp} {r : Pl} {N : List Str} {vs : List V} {us : List U} {d : Df} (hn : d.nn = N.length) (h : Paired (IsU G F r) vs us) : Lo G F r (L2.start N vs) (start0 d us) := by
  have hl : vs.length = us.length := Paired.length h
  refine ⟨by unfold L2.start start0; simp [hl, hn], fun i u q => ?_⟩
  unfold start0 at q
  unfold L2.start
  by_cases hi : i < us.length
  · rw [List.getElem?_append_left (by simpa using hi), List.getElem?_map] at q
    rw [List.getElem?_append_left (by simp [hl, hi]), List.getElem?_map]
    cases e : us[i]? with
    | none => rw [e] at q; cases q
    | some w =>
      rw [e] at q
      cases q
      have get : ∀ {vs : List V} {us : List U} {i : Nat} {u : U}, Paired (IsU G F r) vs us → us[i]? = some u → ∃ v, vs[i]? = some v ∧ IsU G F r v u := by
        intro vs us i u h
        induction h generalizing i with
        | nil => intro e; simp at e
        | cons h _ ih =>
          intro e
          cases i with
          | zero => simp at e; subst e; exact ⟨_, rfl, h⟩
          | succ i => obtain ⟨v, a, b⟩ := ih (by simpa using e); exact ⟨v, by simpa using a, b⟩
      obtain ⟨v, a, b⟩ := get h e
      exact ⟨v, by rw [a]; rfl, b⟩
  · rw [List.getElem?_append_right (by simpa using hi), List.getElem?_replicate] at q
    split at q <;> cases q

/-! ### readings -/
section
variable (G : Gx) (Γ : Ev) (W : WX)
def rdE (a : E) : TE := fun σ H Q => ∃ F r S e, Rp G F r S H ∧ Lo G F r σ e ∧ Post G W σ (IsU G) F r (evE Γ a e S) Q
def rdT (a : E) : TT := fun σ H Q => ∃ F r S e, Rp G F r S H ∧ Lo G F r σ e ∧ Post G W σ (fun _ _ (b : Bool) c => b = c) F r (evT Γ a e S) Q
def rdL (a : E) : TA := fun σ H Q => ∃ F r S e, Rp G F r S H ∧ Lo G F r σ e ∧ Post G W σ (fun F r => Paired (IsU G F r)) F r (evL Γ a e S) Q
def rdP (a : E) : TO := fun σ H Q => ∃ F r S e, Rp G F r S H ∧ Lo G F r σ e ∧ Post G W σ (fun _ _ (b : Option Int) c => b = c) F r (evP Γ a e S) Q
end
theorem pe_imp {X : Cx} {e : Expr} {t t' : TE} (h : PE X e t) (k : ∀ σ H Q, t' σ H Q → t σ H Q) : PE X e t' := ⟨fun pins s σ H Q I q => h.run pins s σ H Q I (k σ H Q q)⟩
theorem pt_imp {X : Cx} {e : Expr} {t t' : TT} (h : PT X e t) (k : ∀ σ H Q, t' σ H Q → t σ H Q) : PT X e t' := ⟨fun pins s σ H Q I q => h.run pins s σ H Q I (k σ H Q q)⟩
theorem pw_imp {X : Cx} {e : Expr} {t t' : TT} (h : PW X e t) (k : ∀ σ H Q, t' σ H Q → t σ H Q) : PW X e t' := ⟨fun wh pins s σ H Q I q => h.run wh pins s σ H Q I (k σ H Q q)⟩
theorem pa_imp {X : Cx} {e : List Expr} {t t' : TA} (h : PA X e t) (k : ∀ σ H Q, t' σ H Q → t σ H Q) : PA X e t' := ⟨fun pos pins s σ H Q I q => h.run pos pins s σ H Q I (k σ H Q q)⟩
theorem po_imp {X : Cx} {e : Option Expr} {t t' : TO} (h : PO X e t) (k : ∀ σ H Q, t' σ H Q → t σ H Q) : PO X e t' := ⟨fun pins s σ H Q I q => h.run pins s σ H Q I (k σ H Q q)⟩
theorem ps_imp {X : Cx} {e : Stmt} {t t' : TS} (h : PS X e t) (k : ∀ D σ H, t' D σ H → t D σ H) : PS X e t' := ⟨fun pins s σ H D I q => h.run pins s σ H D I (k D σ H q)⟩
theorem pss_imp {X : Cx} {e : List Stmt} {t t' : TS} (h : PSs X e t) (k : ∀ D σ H, t' D σ H → t D σ H) : PSs X e t' := ⟨fun pins s σ H D I q => h.run pins s σ H D I (k D σ H q)⟩

/-! ### operators over data -/
/-- two values of data in, data out, by g -/
def rD2 (G : Gx) (g : D → D → Option D) : R2 := fun x y H Q => ∃ F r S d1 d2 d, Rp G F r S H ∧ Is G F x d1 ∧ Is G F y d2 ∧ g d1 d2 = some d ∧ ∀ F' v H', Same F F' → Rp G F' r S H' → Is G F' v d → Q v H'
section
variable {G : Gx} {Γ : Ev} {W : WX} {X : Cx}
theorem opr_imp {f : Value → Value → Sem Value} {t t' : R2} (h : OpR X f t) (k : ∀ x y H Q, t' x y H Q → t x y H Q) : OpR X f t' := fun pins s σ H x y v u Q I rx ry q => h pins s σ H x y v u Q I rx ry (k x y H Q q)
theorem two {a b : E} {g : D → D → Option D} {σ : St} {H : Hp} {Q : VK} {F : Hp} {r : Pl} {S : Store} {e : Env} (R : Rp G F r S H) (L : Lo G F r σ e)
    (p : Post G W σ (IsU G) F r (bnD (evE Γ a e S) fun x S1 => bnD (evE Γ b e S1) fun y S2 => giv (g x y) S2) Q) :
    rdE G Γ W a σ H fun x H1 => rdE G Γ W b σ H1 fun y H2 => rD2 G g x y H2 Q := by
  refine ⟨F, r, S, e, R, L, Post.imp (Post.bnD p) fun x H1 ⟨F1, r1, S1, d1, e1, R1, q1, p1⟩ => ?_⟩
  refine ⟨F1, r1, S1, e, R1, L.mono e1, Post.imp (Post.bnD p1) fun y H2 ⟨F2, r2, S2, d2, e2, R2, q2, p2⟩ => ?_⟩
  obtain ⟨d, h1, h2⟩ := Post.giv p2
  exact ⟨F2, r2, S2, d1, d2, d, R2, q1.mono e2.sub, q2, h1, h2⟩
theorem rp_lists {F : Hp} {r : Pl} {S : Store} {H : Hp} {x : V} {l : List D} (R : Rp G F r S H) (h : Is G F x (.lst l)) : ∃ a xs, x = .ref a ∧ H a = some (.lst xs) ∧ IsL G F xs l := by
  cases h with | lst h t => exact ⟨_, _, rfl, R.sub _ _ h, t⟩
theorem rp_tups {F : Hp} {r : Pl} {S : Store} {H : Hp} {x : V} {l : List D} (R : Rp G F r S H) (h : Is G F x (.tup l)) : ∃ a xs, x = .ref a ∧ SqT G.K H a xs ∧ IsL G F xs l := by
  cases h with | tup h t => exact ⟨_, _, rfl, same_sqT R.sub h, t⟩
/-- a new list, a new tuple -/
theorem new_lst {F : Hp} {r : Pl} {S : Store} {H : Hp} {p : Addr} {xs : List V} {l : List D} (R : Rp G F r S H) (hp : H p = none) (t : IsL G F xs l) : Rp G (upd F p (.lst xs)) r S (upd H p (.lst xs)) ∧ Same F (upd F p (.lst xs)) ∧ Is G (upd F p (.lst xs)) (.ref p) (.lst l) := by
  obtain ⟨R1, s1⟩ := R.new (o := .lst xs) hp
  exact ⟨R1, s1, .lst upd_same (t.mono s1)⟩
theorem new_tup {F : Hp} {r : Pl} {S : Store} {H : Hp} {p : Addr} {xs : List V} {l : List D} (R : Rp G F r S H) (hp : H p = none) (t : IsL G F xs l) : Rp G (upd F p (.tup xs)) r S (upd H p (.tup xs)) ∧ Same F (upd F p (.tup xs)) ∧ Is G (upd F p (.tup xs)) (.ref p) (.tup l) := by
  obtain ⟨R1, s1⟩ := R.new (o := .tup xs) hp
  exact ⟨R1, s1, .tup (SqT.of upd_same) (t.mono s1)⟩
end
end DL

/-! Operators, comparisons, subscripts over data. -/
namespace DL
open PySem PySem.Spec L2
set_option autoImplicit false
section
variable {G : Gx} {X : Cx}

/-! ### arithmetic -/
theorem or_add (hK : X.K = G.K) : OpR X (binaryOp .Add) (rD2 G (bopD .add)) := by
  refine opr_imp (OpR.or op_add (OpR.or op_add_str (OpR.or op_catA op_cat))) fun x y H Q h => ?_
  obtain ⟨F, r, S, d1, d2, d, R, h1, h2, hg, q⟩ := h
  unfold bopD at hg
  split at hg
  all_goals first | (exfalso; contradiction) | skip
  all_goals first | contradiction | skip
  · cases hg; cases h1; cases h2
    exact .inl ⟨_, _, rfl, rfl, q F _ H (Same.refl F) R (.int _)⟩
  · split at hg
    · rename_i hl
      cases hg; cases h1; cases h2
      exact .inr (.inl ⟨_, _, rfl, rfl, by rw [sizeLine_eq]; exact hl, q F _ H (Same.refl F) R (.str _)⟩)
    · cases hg
  · split at hg
    · rename_i hl
      cases hg
      obtain ⟨a, xs, rfl, ha, ta⟩ := rp_tups R h1
      obtain ⟨b, ys, rfl, hb, tb⟩ := rp_tups R h2
      refine .inr (.inr (.inl ⟨a, b, xs, ys, rfl, rfl, by rw [hK]; exact ha, by rw [hK]; exact hb, by rw [ta.length, tb.length, sizeLine_eq]; exact hl, fun e => ?_, fun _ e => ?_, fun _ _ p hp => ?_⟩))
      · subst e
        cases ta
        exact q F _ H (Same.refl F) R h2
      · subst e
        cases tb
        rw [List.append_nil] at q
        exact q F _ H (Same.refl F) R h1
      · obtain ⟨R1, s1, i1⟩ := new_tup R hp (ta.app tb)
        exact q _ _ _ s1 R1 i1
    · cases hg
  · split at hg
    · rename_i hl
      cases hg
      obtain ⟨a, xs, rfl, ha, ta⟩ := rp_lists R h1
      obtain ⟨b, ys, rfl, hb, tb⟩ := rp_lists R h2
      refine .inr (.inr (.inr ⟨a, b, xs, ys, rfl, rfl, ha, hb, by rw [ta.length, tb.length, sizeLine_eq]; exact hl, fun p hp => ?_⟩))
      obtain ⟨R1, s1, i1⟩ := new_lst R hp (ta.app tb)
      exact q _ _ _ s1 R1 i1
    · cases hg
theorem or_sub : OpR X (binaryOp .Sub) (rD2 G (bopD .sub)) := by
  refine opr_imp op_sub fun x y H Q h => ?_
  obtain ⟨F, r, S, d1, d2, d, R, h1, h2, hg, q⟩ := h
  unfold bopD at hg
  split at hg
  all_goals first | contradiction | skip
  cases hg; cases h1; cases h2
  exact ⟨_, _, rfl, rfl, q F _ H (Same.refl F) R (.int _)⟩
theorem small64_of {i : Int} (h : small64 i = true) : -(2 ^ 64) < i ∧ i < 2 ^ 64 := by
  unfold small64 at h
  simpa using h
theorem or_fdiv : OpR X (binaryOp .FloorDiv) (rD2 G (bopD .fdiv)) := by
  refine opr_imp op_fdiv fun x y H Q h => ?_
  obtain ⟨F, r, S, d1, d2, d, R, h1, h2, hg, q⟩ := h
  unfold bopD at hg
  split at hg
  all_goals first | contradiction | skip
  split at hg
  · rename_i hl
    cases hg; cases h1; cases h2
    exact ⟨_, _, rfl, rfl, hl, q F _ H (Same.refl F) R (.int _)⟩
  · cases hg
theorem or_mod : OpR X (binaryOp .Mod) (rD2 G (bopD .mod)) := by
  refine opr_imp op_mod fun x y H Q h => ?_
  obtain ⟨F, r, S, d1, d2, d, R, h1, h2, hg, q⟩ := h
  unfold bopD at hg
  split at hg
  all_goals first | contradiction | skip
  split at hg
  · rename_i hl
    cases hg; cases h1; cases h2
    exact ⟨_, _, rfl, rfl, hl, q F _ H (Same.refl F) R (.int _)⟩
  · cases hg
theorem or_pow : OpR X (binaryOp .Pow) (rD2 G (bopD .pow)) := by
  refine opr_imp op_pow fun x y H Q h => ?_
  obtain ⟨F, r, S, d1, d2, d, R, h1, h2, hg, q⟩ := h
  unfold bopD at hg
  split at hg
  all_goals first | contradiction | skip
  split at hg
  · rename_i hl
    cases hg; cases h1; cases h2
    exact ⟨_, _, rfl, rfl, hl, q F _ H (Same.refl F) R (.int _)⟩
  · cases hg

/-! ### comparisons -/
def rD2B (G : Gx) (g : D → D → Option Bool) : R2 := rD2 G fun x y => (g x y).map D.bl
mutual
def toPy : D → PyData
  | .non => .none
  | .bl b => .bool b
  | .int i => .int i
  | .str x => .str x
  | .tup l => .tuple (toPys l)
  | .lst l => .list (toPys l)
  | _ => .none
def toPys : List D → List PyData
  | [] => []
  | x :: r => toPy x :: toPys r
end
mutual
theorem lay_of : ∀ (n : Nat) (d : D), okD n d = true → (toPy d).canLay0 = true ∧ (toPy d).depth ≤ n
  | _, .non, _ => ⟨rfl, Nat.zero_le _⟩
  | _, .bl _, _ => ⟨rfl, Nat.zero_le _⟩
  | _, .int _, _ => ⟨rfl, Nat.zero_le _⟩
  | _, .str x, h => ⟨by unfold okD at h; unfold toPy PyData.canLay0; exact h, Nat.zero_le _⟩
  | n + 1, .tup l, h => by
    have q := lays_of n l (by unfold okD at h; exact h)
    unfold toPy PyData.canLay0 PyData.depth
    exact ⟨q.1, Nat.succ_le_succ q.2⟩
  | n + 1, .lst l, h => by
    have q := lays_of n l (by unfold okD at h; exact h)
    unfold toPy PyData.canLay0 PyData.depth
    exact ⟨q.1, Nat.succ_le_succ q.2⟩
  | 0, .tup l, h => by simp [okD] at h
  | 0, .lst l, h => by simp [okD] at h
  | 0, .map _, h => by simp [okD] at h
  | 0, .drv _, h => by simp [okD] at h
  | 0, .scr _, h => by simp [okD] at h
  | _ + 1, .map _, h => by simp [okD] at h
  | _ + 1, .drv _, h => by simp [okD] at h
  | _ + 1, .scr _, h => by simp [okD] at h
theorem lays_of : ∀ (n : Nat) (l : List D), okDs n l = true → PyData.canLayAll0 (toPys l) = true ∧ PyData.depthAll (toPys l) ≤ n
  | _, [], _ => ⟨by unfold toPys PyData.canLayAll0; rfl, Nat.zero_le _⟩
  | n, x :: r, h => by
    unfold okDs at h
    rw [Bool.and_eq_true] at h
    have q1 := lay_of n x h.1
    have q2 := lays_of n r h.2
    unfold toPys PyData.canLayAll0 PyData.depthAll
    rw [Bool.and_eq_true]
    exact ⟨⟨q1.1, q2.1⟩, Nat.max_le.mpr ⟨q1.2, q2.2⟩⟩
end
mutual
theorem eqv_of : ∀ (n m : Nat) (a b : D), okD n a = true → okD m b = true → (toPy a).eqv (toPy b) = eqD a b
  | n, m, a, b, ha, hb => by
    cases a <;> cases b <;> first
      | (simp [okD] at ha; done)
      | (simp [okD] at hb; done)
      | (cases n <;> simp [okD] at ha; done)
      | (cases m <;> simp [okD] at hb; done)
      | (simp only [toPy, PyData.eqv, eqD]; done)
      | skip
    · simp only [toPy, PyData.eqv, eqD]
      rename_i x y
      rw [Bool.eq_iff_iff]; simp
    · rename_i x y
      cases n with
      | zero => simp [okD] at ha
      | succ n =>
        cases m with
        | zero => simp [okD] at hb
        | succ m =>
          simp only [toPy, PyData.eqv, eqD]
          exact eqvs_of n m x y (by unfold okD at ha; exact ha) (by unfold okD at hb; exact hb)
    · rename_i x y
      cases n with
      | zero => simp [okD] at ha
      | succ n =>
        cases m with
        | zero => simp [okD] at hb
        | succ m =>
          simp only [toPy, PyData.eqv, eqD]
          exact eqvs_of n m x y (by unfold okD at ha; exact ha) (by unfold okD at hb; exact hb)
theorem eqvs_of : ∀ (n m : Nat) (a b : List D), okDs n a = true → okDs m b = true → PyData.eqvAll (toPys a) (toPys b) = eqDs a b
  | _, _, [], [], _, _ => by simp only [toPys, PyData.eqvAll, eqDs]
  | _, _, [], _ :: _, _, _ => by simp only [toPys, PyData.eqvAll, eqDs]
  | _, _, _ :: _, [], _, _ => by simp only [toPys, PyData.eqvAll, eqDs]
  | n, m, x :: r, y :: s, ha, hb => by
    unfold okDs at ha hb
    rw [Bool.and_eq_true] at ha hb
    simp only [toPys, PyData.eqvAll, eqDs]
    rw [eqv_of n m x y ha.1 hb.1, eqvs_of n m r s ha.2 hb.2]
end
mutual
theorem dp_of {F H : Hp} (e : Same F H) : ∀ (n : Nat) (d : D) (v : V), okD n d = true → Is G F v d → Dp G.K H v (toPy d)
  | _, .non, _, _, .non => .non
  | _, .bl _, _, _, .bl _ => .bl _
  | _, .int _, _, _, .int _ => .int _
  | _, .str _, _, _, .str _ => .str _
  | n + 1, .tup l, _, h, .tup a t => by
    unfold toPy
    exact .tup (same_sqT e a) (dps_of e n l _ (by unfold okD at h; exact h) t)
  | n + 1, .lst l, _, h, .lst a t => by
    unfold toPy
    exact .lst (SqL.of (e _ _ a)) (dps_of e n l _ (by unfold okD at h; exact h) t)
  | 0, .tup l, _, h, _ => by simp [okD] at h
  | 0, .lst l, _, h, _ => by simp [okD] at h
  | 0, .map _, _, h, _ => by simp [okD] at h
  | 0, .drv _, _, h, _ => by simp [okD] at h
  | 0, .scr _, _, h, _ => by simp [okD] at h
  | _ + 1, .map _, _, h, _ => by simp [okD] at h
  | _ + 1, .drv _, _, h, _ => by simp [okD] at h
  | _ + 1, .scr _, _, h, _ => by simp [okD] at h
theorem dps_of {F H : Hp} (e : Same F H) : ∀ (n : Nat) (l : List D) (vs : List V), okDs n l = true → IsL G F vs l → DpAll G.K H vs (toPys l)
  | _, [], _, _, .nil => by unfold toPys; exact .nil
  | n, x :: r, _, h, .cons a t => by
    unfold okDs at h
    rw [Bool.and_eq_true] at h
    unfold toPys
    exact .cons (dp_of e n x _ h.1 a) (dps_of e n r _ h.2 t)
end
theorem shaped_of {d : D} (h : okD 50 d = true) : SeqAt.shaped (toPy d) = true := by
  obtain ⟨h1, h2⟩ := lay_of 50 d h
  unfold SeqAt.shaped
  rw [Bool.and_eq_true]
  exact ⟨h1, decide_eq_true (by omega)⟩
theorem scal_of {F : Hp} {x y : V} {a b : D} (hs : DL.scal a b = true) (h1 : Is G F x a) (h2 : Is G F y b) : L2.scal x y = true ∧ decide (x = y) = eqD a b := by
  cases h1 <;> cases h2 <;> first
    | (simp [DL.scal] at hs; done)
    | (refine ⟨rfl, ?_⟩; simp only [eqD]; rw [Bool.eq_iff_iff]; simp)
/-! a dict and a tuple -/
theorem dict_of {F : Hp} {r : Pl} {S : Store} {H : Hp} {pins : List (Addr × Obj)} {σ : L2.St} {s : Shared} {v : V} {kvs : List (Str × D)} (hK : X.K = G.K) (I : Inv X pins σ H s) (R : Rp G F r S H) (h : Is G F v (.map kvs)) : ∃ a o, v = .ref a ∧ s.heap.get? a = some o ∧ o.cls = .type "dict" := by
  cases h with
  | map e t =>
    obtain ⟨hz, hS, vs, r, dd⟩ := I.hok _ _ (R.sub _ _ e)
    obtain ⟨o, h1, h2⟩ := dd.typeIs
    exact ⟨_, o, rfl, h1, h2⟩
  | kmp k =>
    obtain ⟨es, n, kd, k⟩ := k
    exact ⟨_, _, rfl, I.kIn _ _ (by rw [hK]; exact kd.at_), rfl⟩
theorem tup_eq_declines (l b : Addr) (items : Array Value) (n : Nat) (dd : Option Addr) (sl : Array (Option Value)) (o : Obj) :
    Meets (Builtin.«tuple.__eq__» ⟨[.ref l, .ref b], []⟩) (fun _ R s => s.heap.get? l = some { cls := .type "tuple", dict := dd, data := .seq items n, slots := sl } ∧ s.heap.get? b = some { o with cls := .type "dict" } ∧ R (.ok (.ret .notImplemented)) s) :=
  .of_wp fun prog w A R s h => by
    obtain ⟨hp, g, d, tk, os⟩ := s
    obtain ⟨hl, hb, h⟩ := h
    have f1 := F.sub_dict_tuple
    wp_walk using AutoSeq1.wpAny_loadPart' hl, AutoSeq1.wpAny_loadPart' hb
    exact ⟨_, rfl, h⟩
theorem tup_ne_declines (l b : Addr) (items : Array Value) (n : Nat) (dd : Option Addr) (sl : Array (Option Value)) (o : Obj) :
    Meets (Builtin.«tuple.__ne__» ⟨[.ref l, .ref b], []⟩) (fun _ R s => s.heap.get? l = some { cls := .type "tuple", dict := dd, data := .seq items n, slots := sl } ∧ s.heap.get? b = some { o with cls := .type "dict" } ∧ R (.ok (.ret .notImplemented)) s) :=
  .of_wp fun prog w A R s h => by
    obtain ⟨hp, g, d, tk, os⟩ := s
    obtain ⟨hl, hb, h⟩ := h
    have f1 := F.sub_dict_tuple
    wp_walk using AutoSeq1.wpAny_loadPart' hl, AutoSeq1.wpAny_loadPart' hb
    exact ⟨_, rfl, h⟩
section
variable {P : Program} {w : World} {A : Around} {E : Value → Shared → Prop} {s : Shared} {a b : Addr} {o : Obj} {items : Array Value} {Q : Value → Shared → Prop}
theorem dict_eq_no (ha : s.heap.get? a = some o) (hc : o.cls = .type "dict") (hb : s.TypeIs (.ref b) "tuple") (q : Q .notImplemented s) : wpAny (model P w) A (call (.builtin "dict.__eq__") [.ref a, .ref b]) Q E s := by
  have hT : s.TypeIs (.ref a) "dict" := ⟨o, ha, hc⟩
  refine wpAny_call_entry PySem.F.slot_dict_eq hT PySem.F.entry_dict_eq ?_ (PySem.F.args_dict_eq_2 _ _)
  show wpAny _ _ (Builtin.Dict.dictSlotArgs "__eq__" ⟨[.ref a, .ref b], []⟩ >>= _) _ _ s
  refine wpAny_bind ?_
  unfold Builtin.Dict.dictSlotArgs
  refine wpAny_bind (wpAny_notOrdered_dict hT ?_)
  show wpAny _ _ (pure (Value.ref a, Value.ref b)) _ _ s
  refine wpAny_pure ?_
  refine wpAny_bind (wpAny_isInstance (T := "tuple") hb PySem.F.sub_tuple_dict ?_)
  simp only [Bool.not_false, if_true]
  exact wpAny_bind (wpAny_rule (wpAny_pure ⟨_, rfl, q⟩))
theorem dict_ne_no (ha : s.heap.get? a = some o) (hc : o.cls = .type "dict") (hb : s.TypeIs (.ref b) "tuple") (q : Q .notImplemented s) : wpAny (model P w) A (call (.builtin "dict.__ne__") [.ref a, .ref b]) Q E s := by
  have hT : s.TypeIs (.ref a) "dict" := ⟨o, ha, hc⟩
  refine wpAny_call_entry PySem.F.slot_dict_ne hT PySem.F.entry_dict_ne ?_ (PySem.F.args_dict_ne_2 _ _)
  show wpAny _ _ (Builtin.Dict.dictSlotArgs "__ne__" ⟨[.ref a, .ref b], []⟩ >>= _) _ _ s
  refine wpAny_bind ?_
  unfold Builtin.Dict.dictSlotArgs
  refine wpAny_bind (wpAny_notOrdered_dict hT ?_)
  show wpAny _ _ (pure (Value.ref a, Value.ref b)) _ _ s
  refine wpAny_pure ?_
  refine wpAny_bind (wpAny_isInstance (T := "tuple") hb PySem.F.sub_tuple_dict ?_)
  simp only [Bool.not_false, if_true]
  exact wpAny_bind (wpAny_rule (wpAny_pure ⟨_, rfl, q⟩))
theorem ne_dt (ha : s.heap.get? a = some o) (hc : o.cls = .type "dict") (hb : s.heap.IsTuple b items) : a ≠ b := fun e => by
  subst e
  obtain ⟨o2, ho2, hc2, _⟩ := hb
  rw [ha] at ho2
  cases ho2
  rw [hc] at hc2
  exact absurd hc2 (by simp)
theorem rc_dt (ha : s.heap.get? a = some o) (hc : o.cls = .type "dict") (hb : s.heap.IsTuple b items) (hu : A.units < cLine) (q : Q (.bool false) s) : wpAny (model P w) A (richCompare .Eq (.ref a) (.ref b)) Q E s := by
  have hne := ne_dt ha hc hb
  obtain ⟨⟨cls2, dd2, data2, sl2⟩, ho2, hc2, n2, hd2⟩ := id hb
  simp only at hc2 hd2
  subst hc2 hd2
  have ha' : s.heap.get? a = some { o with cls := .type "dict" } := by rw [ha, ← hc]
  exact SeqAt.rc_eq_decline_or (k := false) (Ta := "dict") (Tb := "tuple") ⟨_, ha, hc⟩ ⟨_, ho2, rfl⟩ (by decide) F.sub_tuple_dict F.slot_dict_eq F.slot_tuple_eq_refl
    (fun _ hq => dict_eq_no ha hc ⟨_, ho2, rfl⟩ hq)
    (fun _ hq => call_meets F.slot_tuple_eq_refl ⟨_, ho2, rfl⟩ F.entry_tuple_eq (F.args_tuple_eq_2 _ _) (tup_eq_declines b a items n2 dd2 sl2 o) ⟨ho2, ha', hq⟩)
    (fun _ hq => wpAny_isSame_ref_other hne ha ho2 (by rw [hc]; simp) hq) (.inr hu) q
theorem rn_dt (ha : s.heap.get? a = some o) (hc : o.cls = .type "dict") (hb : s.heap.IsTuple b items) (hu : A.units < cLine) (q : Q (.bool true) s) : wpAny (model P w) A (richCompare .NotEq (.ref a) (.ref b)) Q E s := by
  have hne := ne_dt ha hc hb
  obtain ⟨⟨cls2, dd2, data2, sl2⟩, ho2, hc2, n2, hd2⟩ := id hb
  simp only at hc2 hd2
  subst hc2 hd2
  have ha' : s.heap.get? a = some { o with cls := .type "dict" } := by rw [ha, ← hc]
  exact SeqAt.rc_ne_decline_or (k := false) (Ta := "dict") (Tb := "tuple") ⟨_, ha, hc⟩ ⟨_, ho2, rfl⟩ (by decide) F.sub_tuple_dict F.slot_dict_ne F.slot_tuple_ne_refl
    (fun _ hq => dict_ne_no ha hc ⟨_, ho2, rfl⟩ hq)
    (fun _ hq => call_meets F.slot_tuple_ne_refl ⟨_, ho2, rfl⟩ F.entry_tuple_ne (F.args_tuple_ne_2 _ _) (tup_ne_declines b a items n2 dd2 sl2 o) ⟨ho2, ha', hq⟩)
    (fun _ hq => wpAny_isSame_ref_other hne ha ho2 (by rw [hc]; simp) hq) (.inr hu) q
end
/-- a dict and a tuple, b their answer -/
def rDT (G : Gx) (b : Bool) : R2 := fun x y H Q => ∃ F r S kvs l, Rp G F r S H ∧ Is G F x (.map kvs) ∧ Is G F y (.tup l) ∧ Q (.bl b) H
theorem op_dt (hK : X.K = G.K) (hu : X.A.units + 64 < cLine) : OpR X (compareOp .Eq) (rDT G false) := by
  intro pins s σ H x y v u Q I rx ry h
  obtain ⟨F, r, S, kvs, l, R, h1, h2, q⟩ := h
  obtain ⟨a, o, rfl, ho, hc⟩ := dict_of hK I R h1
  obtain ⟨b, ys, rfl, hb, tb⟩ := rp_tups R h2
  cases rx
  cases ry
  obtain ⟨its, r, hT, hs⟩ := I.tuple (by rw [hK]; exact hb)
  exact rc_dt ho hc hT (by omega) ⟨.bl false, H, I, rfl, q⟩
theorem op_dtn (hK : X.K = G.K) (hu : X.A.units + 64 < cLine) : OpR X (compareOp .NotEq) (rDT G true) := by
  intro pins s σ H x y v u Q I rx ry h
  obtain ⟨F, r, S, kvs, l, R, h1, h2, q⟩ := h
  obtain ⟨a, o, rfl, ho, hc⟩ := dict_of hK I R h1
  obtain ⟨b, ys, rfl, hb, tb⟩ := rp_tups R h2
  cases rx
  cases ry
  obtain ⟨its, r, hT, hs⟩ := I.tuple (by rw [hK]; exact hb)
  exact rn_dt ho hc hT (by omega) ⟨.bl true, H, I, rfl, q⟩
theorem eqC_cases {a b : D} {k : Bool} (h : eqC a b = some k) : (DL.scal a b = true ∧ k = eqD a b) ∨ (okD 50 a = true ∧ okD 50 b = true ∧ k = eqD a b) ∨ (k = false ∧ ∃ kvs l, a = .map kvs ∧ b = .tup l) := by
  unfold eqC at h
  split at h
  · rename_i c
    cases h
    rw [Bool.or_eq_true, Bool.and_eq_true] at c
    rcases c with c | c
    · exact .inl ⟨c, rfl⟩
    · exact .inr (.inl ⟨c.1, c.2, rfl⟩)
  · split at h
    · rename_i c
      cases h
      unfold mapTup at c
      split at c
      · exact .inr (.inr ⟨rfl, _, _, rfl, rfl⟩)
      · cases c
    · cases h
theorem or_eq (hK : X.K = G.K) (hu : X.A.units + 64 < cLine) : OpR X (compareOp .Eq) (rD2B G eqC) := by
  refine opr_imp (OpR.or op_eq (OpR.or (op_eqD hu) (op_dt hK hu))) fun x y H Q h => ?_
  obtain ⟨F, r, S, d1, d2, d, R, h1, h2, hg, q⟩ := h
  rw [Option.map_eq_some_iff] at hg
  obtain ⟨k, hg, rfl⟩ := hg
  rcases eqC_cases hg with ⟨c, rfl⟩ | ⟨c1, c2, rfl⟩ | ⟨rfl, kvs, l, rfl, rfl⟩
  · obtain ⟨a1, a2⟩ := scal_of c h1 h2
    exact .inl ⟨a1, by rw [a2]; exact q F _ H (Same.refl F) R (.bl _)⟩
  · refine .inr (.inl ⟨toPy d1, toPy d2, ?_, ?_, shaped_of c1, shaped_of c2, ?_⟩)
    · rw [hK]; exact dp_of R.sub 50 d1 x c1 h1
    · rw [hK]; exact dp_of R.sub 50 d2 y c2 h2
    · rw [eqv_of 50 50 d1 d2 c1 c2]; exact q F _ H (Same.refl F) R (.bl _)
  · exact .inr (.inr ⟨F, r, S, kvs, l, R, h1, h2, q F _ H (Same.refl F) R (.bl _)⟩)
theorem or_ne (hK : X.K = G.K) (hu : X.A.units + 64 < cLine) : OpR X (compareOp .NotEq) (rD2B G fun a b => (eqC a b).map (!·)) := by
  refine opr_imp (OpR.or op_ne (OpR.or (op_neD hu) (op_dtn hK hu))) fun x y H Q h => ?_
  obtain ⟨F, r, S, d1, d2, d, R, h1, h2, hg, q⟩ := h
  simp only [Option.map_map, Option.map_eq_some_iff, Function.comp] at hg
  obtain ⟨k, hg, rfl⟩ := hg
  rcases eqC_cases hg with ⟨c, rfl⟩ | ⟨c1, c2, rfl⟩ | ⟨rfl, kvs, l, rfl, rfl⟩
  · obtain ⟨a1, a2⟩ := scal_of c h1 h2
    exact .inl ⟨a1, by rw [a2]; exact q F _ H (Same.refl F) R (.bl _)⟩
  · refine .inr (.inl ⟨toPy d1, toPy d2, ?_, ?_, shaped_of c1, shaped_of c2, ?_⟩)
    · rw [hK]; exact dp_of R.sub 50 d1 x c1 h1
    · rw [hK]; exact dp_of R.sub 50 d2 y c2 h2
    · rw [eqv_of 50 50 d1 d2 c1 c2]; exact q F _ H (Same.refl F) R (.bl _)
  · exact .inr (.inr ⟨F, r, S, kvs, l, R, h1, h2, q F _ H (Same.refl F) R (.bl _)⟩)
theorem or_int {op : CmpOp} {f : Int → Int → Bool} (h : OpR X (compareOp op) (rI0 fun i j => .bl (f i j))) : OpR X (compareOp op) (rD2B G (intC f)) := by
  refine opr_imp h fun x y H Q h => ?_
  obtain ⟨F, r, S, d1, d2, d, R, h1, h2, hg, q⟩ := h
  unfold intC at hg
  cases d1 <;> cases d2 <;> first | (simp at hg; done) | skip
  simp at hg
  subst hg
  cases h1; cases h2
  exact ⟨_, _, rfl, rfl, q F _ H (Same.refl F) R (.bl _)⟩
theorem or_is : OpR X (compareOp .Is) (rD2B G (cmpD .is)) := by
  refine opr_imp op_isN fun x y H Q h => ?_
  obtain ⟨F, r, S, d1, d2, d, R, h1, h2, hg, q⟩ := h
  cases d2 <;> first | (simp [cmpD] at hg; done) | skip
  cases h2
  refine ⟨rfl, ?_⟩
  have e : d = .bl (decide (x = V.non)) := by
    simp only [cmpD, Option.map_some, Option.some.injEq] at hg
    rw [← hg]
    cases h1 <;> simp
  subst e
  exact q F _ H (Same.refl F) R (.bl _)
theorem or_isn : OpR X (compareOp .IsNot) (rD2B G (cmpD .isn)) := by
  refine opr_imp op_notN fun x y H Q h => ?_
  obtain ⟨F, r, S, d1, d2, d, R, h1, h2, hg, q⟩ := h
  cases d2 <;> first | (simp [cmpD] at hg; done) | skip
  cases h2
  refine ⟨rfl, ?_⟩
  have e : d = .bl (!decide (x = V.non)) := by
    simp only [cmpD, Option.map_some, Option.some.injEq] at hg
    rw [← hg]
    cases h1 <;> simp
  subst e
  exact q F _ H (Same.refl F) R (.bl _)
end
end DL

/-! Membership, subscripts, slices, built-in calls over data. -/
namespace DL
open PySem PySem.Spec L2
set_option autoImplicit false
section
variable {G : Gx} {X : Cx}

/-! ### in -/
theorem flat_of {F : Hp} {v : V} {d : D} (h : flat d = true) (q : Is G F v d) : flatV v = true := by
  cases q <;> first | rfl | (simp [flat] at h; done)
theorem flats_of {F : Hp} : ∀ {vs : List V} {l : List D}, l.all flat = true → IsL G F vs l → vs.all flatV = true
  | _, [], _, .nil => rfl
  | _, x :: r, h, .cons a t => by
    rw [List.all_cons, Bool.and_eq_true] at h
    rw [List.all_cons, Bool.and_eq_true]
    exact ⟨flat_of h.1 a, flats_of h.2 t⟩
theorem eqV_of {F : Hp} {v w : V} {a b : D} (ha : flat a = true) (hb : flat b = true) (h1 : Is G F v a) (h2 : Is G F w b) : eqV v w = eqD a b := by
  cases h1 <;> cases h2 <;> first
    | (simp [flat] at ha; done)
    | (simp [flat] at hb; done)
    | (simp only [eqV, eqD]; done)
    | (simp only [eqV, eqD]; rw [Bool.eq_iff_iff]; simp)
theorem inV_of {F : Hp} {v : V} {a : D} (ha : flat a = true) (h1 : Is G F v a) : ∀ {vs : List V} {l : List D}, l.all flat = true → IsL G F vs l → inV v vs = l.any fun z => eqD z a
  | _, [], _, .nil => rfl
  | _, x :: r, h, .cons q t => by
    rw [List.all_cons, Bool.and_eq_true] at h
    unfold inV
    rw [List.any_cons, List.any_cons, eqV_of h.1 ha q h1]
    exact congrArg _ (inV_of ha h1 h.2 t)
/-- in a dict -/
def rInM (K : PySem.W.Frag) (w : World) (neg : Bool) : R2 := fun x y H Q => ∃ (z : Str) (p : Addr) (b : Bool), x = .str z ∧ y = .ref p ∧
  ((∃ kvs, H p = some (.dK kvs) ∧ b = (valV kvs (.inr z)).isSome) ∨ ∃ es n r, KDict K w p es n ∧ PySem.W.nsIn K p z = some r ∧ b = r.isSome) ∧ Q (.bl (if neg then !b else b)) H
theorem op_in_map (hu : X.A.units + 1 < cLine) : OpR X (compareOp .In) (rInM X.K X.w false) := by
  intro pins s σ H x y v u Q I rx ry h
  obtain ⟨z, p, b, rfl, rfl, h, q⟩ := h
  rcases h with ⟨kvs, e, rfl⟩ | ⟨es, n, r, k, e, rfl⟩
  · cases ry
    exact d_in hu I (DGet.k (k := Sum.inr z) e) rx fun s' I' => ⟨.bl _, H, I', rfl, q⟩
  · exact op_in_kd k pins s σ H _ _ v u Q I rx ry ⟨z, r, rfl, rfl, e, q⟩
theorem op_nin_map (hu : X.A.units + 1 < cLine) : OpR X (compareOp .NotIn) (rInM X.K X.w true) := by
  intro pins s σ H x y v u Q I rx ry h
  obtain ⟨z, p, b, rfl, rfl, h, q⟩ := h
  rcases h with ⟨kvs, e, rfl⟩ | ⟨es, n, r, k, e, rfl⟩
  · cases ry
    exact d_notIn hu I (DGet.k (k := Sum.inr z) e) rx fun s' I' => ⟨.bl _, H, I', rfl, q⟩
  · exact op_notIn_kd k pins s σ H _ _ v u Q I rx ry ⟨z, r, rfl, rfl, e, q⟩
theorem mem_cases {neg : Bool} (hK : X.K = G.K) (hw : X.w = G.w) {x y : V} {H : Hp} {Q : VK} (h : rD2B G (fun a b => (memD a b).map fun z => if neg then !z else z) x y H Q) : rIn X.K neg x y H Q ∨ rInM X.K X.w neg x y H Q := by
  obtain ⟨F, r, S, d1, d2, d, R, h1, h2, hg, q⟩ := h
  cases d2 with
  | tup l =>
    simp only [memD] at hg
    cases c : (flat d1 && l.all flat) with
    | false => rw [c] at hg; simp at hg
    | true =>
      rw [c] at hg
      simp at hg
      subst hg
      rw [Bool.and_eq_true] at c
      obtain ⟨a, xs, rfl, ha, ta⟩ := rp_tups R h2
      refine .inl ⟨a, xs, rfl, .inr (by rw [hK]; exact ha), flat_of c.1 h1, flats_of c.2 ta, ?_⟩
      rw [inV_of c.1 h1 c.2 ta]
      exact q F _ H (Same.refl F) R (.bl _)
  | lst l =>
    simp only [memD] at hg
    cases c : (flat d1 && l.all flat) with
    | false => rw [c] at hg; simp at hg
    | true =>
      rw [c] at hg
      simp at hg
      subst hg
      rw [Bool.and_eq_true] at c
      obtain ⟨a, xs, rfl, ha, ta⟩ := rp_lists R h2
      refine .inl ⟨a, xs, rfl, .inl (SqL.of ha), flat_of c.1 h1, flats_of c.2 ta, ?_⟩
      rw [inV_of c.1 h1 c.2 ta]
      exact q F _ H (Same.refl F) R (.bl _)
  | map kvs =>
    cases d1 <;> first | (simp [memD] at hg; done) | skip
    rename_i z
    simp [memD] at hg
    subst hg
    cases h1
    cases h2 with
    | map e t =>
      refine .inr ⟨z, _, _, rfl, rfl, .inl ⟨_, R.sub _ _ e, rfl⟩, ?_⟩
      rcases t.look (x := z) with ⟨v, d, e1, e2, _⟩ | ⟨e1, e2⟩
      · rw [e1]; rw [e2] at q; exact q F _ H (Same.refl F) R (.bl _)
      · rw [e1]; rw [e2] at q; exact q F _ H (Same.refl F) R (.bl _)
    | kmp k =>
      obtain ⟨es, n, kd, k⟩ := k
      have k := k z
      cases e : kvs.lookup z with
      | none =>
        rw [e] at k q
        exact .inr ⟨z, _, _, rfl, rfl, .inr ⟨es, n, none, by rw [hK, hw]; exact kd, by rw [hK]; exact k, rfl⟩, q F _ H (Same.refl F) R (.bl _)⟩
      | some d =>
        rw [e] at k q
        cases d <;> first | exact k.elim | skip
        obtain ⟨t, k⟩ := k
        exact .inr ⟨z, _, _, rfl, rfl, .inr ⟨es, n, some _, by rw [hK, hw]; exact kd, by rw [hK]; exact k, rfl⟩, q F _ H (Same.refl F) R (.bl _)⟩
  | _ => simp [memD] at hg
theorem or_in (hK : X.K = G.K) (hw : X.w = G.w) (hu : X.A.units + 64 < cLine) : OpR X (compareOp .In) (rD2B G memD) :=
  opr_imp (OpR.or op_in_seq (op_in_map (by omega))) fun x y H Q h => mem_cases (neg := false) hK hw (by
    obtain ⟨F, r, S, d1, d2, d, R, h1, h2, hg, q⟩ := h
    refine ⟨F, r, S, d1, d2, d, R, h1, h2, ?_, q⟩
    simp only at hg ⊢
    rw [← hg]
    cases memD d1 d2 <;> rfl)
theorem or_nin (hK : X.K = G.K) (hw : X.w = G.w) (hu : X.A.units + 64 < cLine) : OpR X (compareOp .NotIn) (rD2B G fun a b => (memD a b).map (!·)) :=
  opr_imp (OpR.or op_notIn_seq (op_nin_map (by omega))) fun x y H Q h => mem_cases (neg := true) hK hw h
/-- every comparison -/
def opC : Cop → CmpOp
  | .eq => .Eq | .ne => .NotEq | .lt => .Lt | .le => .LtE | .gt => .Gt | .ge => .GtE | .mem => .In | .nmem => .NotIn | .is => .Is | .isn => .IsNot
theorem or_cmp (hK : X.K = G.K) (hw : X.w = G.w) (hu : X.A.units + 64 < cLine) : ∀ o : Cop, OpR X (compareOp (opC o)) (rD2B G (cmpD o))
  | .eq => or_eq hK hu
  | .ne => or_ne hK hu
  | .lt => or_int op_lt
  | .le => or_int op_le
  | .gt => or_int op_gt
  | .ge => or_int op_ge
  | .mem => or_in hK hw hu
  | .nmem => or_nin hK hw hu
  | .is => or_is
  | .isn => or_isn
end

/-! ### subscripts -/
section
variable {G : Gx} {X : Cx}
theorem plc_eq (n : Nat) (i : Int) : plc n i = ixN n i := rfl
theorem at_is {F : Hp} {vs : List V} {l : List D} {i : Int} {d : D} (h : IsL G F vs l) (e : at_ l i = some d) : ∃ v, atI vs i = some v ∧ Is G F v d := by
  unfold at_ at e
  unfold atI
  rw [h.length, ← plc_eq]
  cases q : plc l.length i with
  | none => rw [q] at e; cases e
  | some j =>
    rw [q] at e
    exact h.get e
theorem ixr_imp {t t' : R2} (h : IxR X t) (k : ∀ x y H Q, t' x y H Q → t x y H Q) : IxR X t' := fun a b pins s σ H x y v u Q I rx ry q hs => h a b pins s σ H x y v u Q I rx ry (k x y H Q q) hs
/-- d[k] of a dict that is tracked -/
def rIxM : R2 := fun x y H Q => ∃ (p : Addr) (z : Str) (kvs : List (Key × V)) (v : V), x = .ref p ∧ y = .str z ∧ H p = some (.dK kvs) ∧ valV kvs (.inr z) = some v ∧ Q v H
theorem ix_map (hu : X.A.units + 1 < cLine) : IxR X rIxM := by
  intro a b pins s σ H x y v u Q I rx ry h hs
  obtain ⟨p, z, kvs, w, rfl, rfl, e, l, q⟩ := h
  cases rx
  obtain ⟨hz, hS, vs, r, dd⟩ : kvs.length ≤ sizeLine ∧ (p == sysModules) = false ∧ ∃ vs, KV kvs vs ∧ s.heap.DictOf (mixKind X.prog X.w) p vs := I.hok p _ e
  refine PyProof.Rows.tail_any dd.mapOf.typeIs PySem.slot_dict_getitem.lookup ?_ hs
  exact d_getItem hu I (DGet.k (k := Sum.inr z) e |> fun q => by rw [l] at q; exact q) ry fun w' s' I' r' => ⟨w, H, I', r', q⟩
theorem or_ix (hK : X.K = G.K) (hw : X.w = G.w) (hu : X.A.units + 64 < cLine) : IxR X (rD2 G ixD) := by
  refine ixr_imp (IxR.or ix_list (IxR.or ix_tup (IxR.or (ix_map (by omega)) ix_kdict))) fun x y H Q h => ?_
  obtain ⟨F, r, S, d1, d2, d, R, h1, h2, hg, q⟩ := h
  unfold ixD at hg
  split at hg
  all_goals first | contradiction | skip
  · obtain ⟨a, xs, rfl, ha, ta⟩ := rp_tups R h1
    obtain ⟨v, e, i⟩ := at_is ta hg
    cases h2
    exact .inr (.inl ⟨a, xs, _, v, rfl, rfl, by rw [hK]; exact ha, e, q F _ H (Same.refl F) R i⟩)
  · obtain ⟨a, xs, rfl, ha, ta⟩ := rp_lists R h1
    obtain ⟨v, e, i⟩ := at_is ta hg
    cases h2
    exact .inl ⟨a, xs, _, v, rfl, rfl, SqL.of ha, e, q F _ H (Same.refl F) R i⟩
  · rename_i kvs z
    cases h2
    cases h1 with
    | map e t =>
      rcases t.look (x := z) with ⟨v, d', e1, e2, i⟩ | ⟨e1, e2⟩
      · rw [e2] at hg; cases hg
        exact .inr (.inr (.inl ⟨_, z, _, v, rfl, rfl, R.sub _ _ e, e1, q F _ H (Same.refl F) R i⟩))
      · rw [e2] at hg; cases hg
    | kmp k =>
      obtain ⟨es, n, kd, k⟩ := k
      have k := k z
      rw [hg] at k
      cases d <;> first | exact k.elim | skip
      obtain ⟨t, k⟩ := k
      exact .inr (.inr (.inr ⟨_, z, .int _, rfl, rfl, ⟨es, n, _, by rw [hK]; exact kd.at_, by rw [hw]; exact kd.lit, by rw [hK]; exact k, ⟨_, rfl⟩⟩, q F _ H (Same.refl F) R (.int _)⟩))

/-! ### slices -/
def rD1S (G : Gx) (g : D → Option Int → Option Int → Option D) : V → Option Int → Option Int → Hp → VK → Prop := fun x lo hi H Q => ∃ F r S d1 d, Rp G F r S H ∧ Is G F x d1 ∧ g d1 lo hi = some d ∧ ∀ F' v H', Same F F' → Rp G F' r S H' → Is G F' v d → Q v H'
theorem clip_eq (n d : Nat) (o : Option Int) : clip n d o = HT.sIx n d o := by cases o <;> rfl
theorem cut_is {F : Hp} {vs : List V} {l : List D} (lo hi : Option Int) (h : IsL G F vs l) : IsL G F (cutV vs lo hi) (cut l lo hi) := by
  unfold cutV cut
  rw [clip_eq, clip_eq, h.length]
  exact (h.drop _).take _
theorem slr_imp {t t' : V → Option Int → Option Int → Hp → VK → Prop} (h : SlR X t) (k : ∀ x lo hi H Q, t' x lo hi H Q → t x lo hi H Q) : SlR X t' := fun pins s σ H x v vl vu lo hi sl Q I rx hs pl pu q => h pins s σ H x v vl vu lo hi sl Q I rx hs pl pu (k x lo hi H Q q)
theorem cut_all {A : Type} {l : List A} {lo hi : Option Int} (h1 : clip l.length 0 lo = 0) (h2 : clip l.length l.length hi = l.length) : cut l lo hi = l := by
  unfold cut
  rw [h1, h2]
  simp
theorem or_sl (hK : X.K = G.K) : SlR X (rD1S G slD) := by
  refine slr_imp (SlR.or sl_list (SlR.or sl_tupA sl_str)) fun x lo hi H Q h => ?_
  obtain ⟨F, r, S, d1, d, R, h1, hg, q⟩ := h
  unfold slD at hg
  split at hg
  all_goals first | contradiction | skip
  · cases hg
    obtain ⟨a, xs, rfl, ha, ta⟩ := rp_tups R h1
    refine .inr (.inl ⟨a, xs, rfl, by rw [hK]; exact ha, fun ⟨e1, e2⟩ => ?_, fun _ p hp => ?_⟩)
    · rw [cut_all (by rw [clip_eq, ← ta.length]; exact e1) (by rw [clip_eq, ← ta.length]; exact e2)] at q
      exact q F _ H (Same.refl F) R h1
    · obtain ⟨R1, s1, i1⟩ := new_tup R hp (cut_is lo hi ta)
      exact q _ _ _ s1 R1 i1
  · cases hg
    obtain ⟨a, xs, rfl, ha, ta⟩ := rp_lists R h1
    refine .inl ⟨a, xs, rfl, SqL.of ha, fun p hp => ?_⟩
    obtain ⟨R1, s1, i1⟩ := new_lst R hp (cut_is lo hi ta)
    exact q _ _ _ s1 R1 i1
  · rename_i z
    split at hg
    · rename_i hl
      cases hg; cases h1
      refine .inr (.inr ⟨_, rfl, by rw [sizeLine_eq]; exact hl, ?_⟩)
      refine q F _ H (Same.refl F) R ?_
      have e : cutS z lo hi = (⟨(cut z.cps.toList lo hi).toArray⟩ : Str) := by
        unfold cutS cut
        rw [clip_eq, clip_eq]
        simp only [Array.length_toList]
        rfl
      rw [e]; exact .str _
    · cases hg
end
end DL

/-! Built-in calls over data. -/
namespace DL
open PySem PySem.Spec L2
set_option autoImplicit false
section
variable {G : Gx} {X : Cx}
/-- values in, data out -/
def rBi (G : Gx) (g : List U → Store → Option D) : List V → Hp → VK → Prop := fun xs H Q => ∃ F r S us d, Rp G F r S H ∧ Paired (IsU G F r) xs us ∧ g us S = some d ∧ ∀ F' v H', Same F F' → Rp G F' r S H' → Is G F' v d → Q v H'
theorem callr_imp {f : Value} {t t' : List V → Hp → VK → Prop} (h : CallR X f t) (k : ∀ xs H Q, t' xs H Q → t xs H Q) : CallR X f t' := fun pins s σ H xs us Q I r q => h pins s σ H xs us Q I r (k xs H Q q)
theorem one_d {F : Hp} {r : Pl} {xs : List V} {u : U} (h : Paired (IsU G F r) xs [u]) : ∃ x, xs = [x] ∧ IsU G F r x u := by
  cases h with
  | cons h t => cases t; exact ⟨_, rfl, h⟩
theorem lst1_is {F : Hp} {r : Pl} : ∀ {xs : List V} {us : List U} {l : List D}, Paired (IsU G F r) xs us → lst1 us = some l → IsL G F xs l
  | _, [], l, .nil, e => by simp [lst1] at e; subst e; exact .nil
  | _, .d d :: us, l, .cons h t, e => by
    simp only [lst1, Option.map_eq_some_iff] at e
    obtain ⟨m, e1, e2⟩ := e
    subst e2
    cases h with
    | d h => exact .cons h (lst1_is t e1)
  | _, .loc n :: us, l, .cons h t, e => by simp [lst1] at e
theorem lst1_map : ∀ l : List D, lst1 (l.map U.d) = some l
  | [] => rfl
  | x :: r => by simp [lst1, lst1_map r]
theorem intsOf_is {F : Hp} : ∀ {vs : List V} {l : List D} {ns : List Int}, IsL G F vs l → intsOf l = some ns → vs = ns.map V.int
  | _, [], ns, .nil, e => by simp [intsOf] at e; subst e; rfl
  | _, d :: l, ns, .cons h t, e => by
    cases d <;> first | (simp [intsOf] at e; done) | skip
    simp only [intsOf, Option.map_eq_some_iff] at e
    obtain ⟨m, e1, e2⟩ := e
    subst e2
    cases h
    rw [intsOf_is t e1]; rfl
theorem blsOf_is {F : Hp} : ∀ {vs : List V} {l : List D} {ns : List Bool}, IsL G F vs l → blsOf l = some ns → vs = ns.map V.bl
  | _, [], ns, .nil, e => by simp [blsOf] at e; subst e; rfl
  | _, d :: l, ns, .cons h t, e => by
    cases d <;> first | (simp [blsOf] at e; done) | skip
    simp only [blsOf, Option.map_eq_some_iff] at e
    obtain ⟨m, e1, e2⟩ := e
    subst e2
    cases h
    rw [blsOf_is t e1]; rfl
theorem strsOf_is {F : Hp} : ∀ {vs : List V} {l : List D} {ns : List Str}, IsL G F vs l → strsOf l = some ns → vs = ns.map V.str
  | _, [], ns, .nil, e => by simp [strsOf] at e; subst e; rfl
  | _, d :: l, ns, .cons h t, e => by
    cases d <;> first | (simp [strsOf] at e; done) | skip
    simp only [strsOf, Option.map_eq_some_iff] at e
    obtain ⟨m, e1, e2⟩ := e
    subst e2
    cases h
    rw [strsOf_is t e1]; rfl
theorem maxI_is : ∀ {ns : List Int} {m : Int}, maxI ns = some m → m ∈ ns ∧ ∀ y ∈ ns, y ≤ m
  | [], m, e => by cases e
  | [a], m, e => by simp [maxI] at e; subst e; simp
  | a :: b :: r, m, e => by
    simp only [maxI, Option.map_eq_some_iff] at e
    obtain ⟨k, e1, e2⟩ := e
    obtain ⟨h1, h2⟩ := maxI_is e1
    split at e2
    · subst e2
      refine ⟨List.mem_cons_of_mem _ h1, fun y hy => ?_⟩
      rcases List.mem_cons.mp hy with q | q
      · subst q; omega
      · exact h2 y q
    · subst e2
      refine ⟨List.mem_cons_self, fun y hy => ?_⟩
      rcases List.mem_cons.mp hy with q | q
      · subst q; exact Int.le_refl _
      · have := h2 y q; omega
theorem minI_is : ∀ {ns : List Int} {m : Int}, minI ns = some m → m ∈ ns ∧ ∀ y ∈ ns, m ≤ y
  | [], m, e => by cases e
  | [a], m, e => by simp [minI] at e; subst e; simp
  | a :: b :: r, m, e => by
    simp only [minI, Option.map_eq_some_iff] at e
    obtain ⟨k, e1, e2⟩ := e
    obtain ⟨h1, h2⟩ := minI_is e1
    split at e2
    · subst e2
      refine ⟨List.mem_cons_of_mem _ h1, fun y hy => ?_⟩
      rcases List.mem_cons.mp hy with q | q
      · subst q; omega
      · exact h2 y q
    · subst e2
      refine ⟨List.mem_cons_self, fun y hy => ?_⟩
      rcases List.mem_cons.mp hy with q | q
      · subst q; exact Int.le_refl _
      · have := h2 y q; omega
/-- a list of data, or one that may still change -/
theorem biU_cases {b : Bi} {us : List U} {S : Store} {d : D} {F : Hp} {r : Pl} {H : Hp} {xs : List V} (R : Rp G F r S H) (h : Paired (IsU G F r) xs us) (e : biU b us S = some d) :
    (∃ l, IsL G F xs l ∧ biD b l = some d) ∨ ∃ a ys l, xs = [.ref a] ∧ H a = some (.lst ys) ∧ IsL G F ys l ∧ ((b = .len ∧ d = .int l.length) ∨ (b = .tuple ∧ d = .tup l)) := by
  unfold biU at e
  cases q : lst1 us with
  | some l => rw [q] at e; exact .inl ⟨l, lst1_is h q, e⟩
  | none =>
    rw [q] at e
    simp only at e
    split at e
    · rename_i n
      split at e
      · rename_i l hl
        cases e
        obtain ⟨x, rfl, hx⟩ := one_d h
        cases hx with
        | loc hr =>
          obtain ⟨ys, h1, h2⟩ := R.list hr hl
          exact .inr ⟨_, ys, l, rfl, h1, h2, .inl ⟨rfl, rfl⟩⟩
      · cases e
    · rename_i n
      split at e
      · rename_i l hl
        cases e
        obtain ⟨x, rfl, hx⟩ := one_d h
        cases hx with
        | loc hr =>
          obtain ⟨ys, h1, h2⟩ := R.list hr hl
          exact .inr ⟨_, ys, l, rfl, h1, h2, .inr ⟨rfl, rfl⟩⟩
      · cases e
    · cases e
theorem cr_len (hK : X.K = G.K) : CallR X (.builtin "len") (rBi G (biU .len)) := by
  refine callr_imp call_len fun xs H Q h => ?_
  obtain ⟨F, r, S, us, d, R, hp, hg, q⟩ := h
  rcases biU_cases R hp hg with ⟨l, hl, e⟩ | ⟨a, ys, l, rfl, h1, h2, ⟨_, rfl⟩ | ⟨c, _⟩⟩
  · unfold biD at e
    split at e <;> first | contradiction | skip
    · cases e
      cases hl with
      | cons h t =>
        cases t
        obtain ⟨a, xs, rfl, ha, ta⟩ := rp_tups R h
        exact ⟨_, _, rfl, .inr ⟨xs, by rw [hK]; exact ha, rfl⟩, by rw [ta.length]; exact q F _ H (Same.refl F) R (.int _)⟩
    · cases e
      cases hl with
      | cons h t =>
        cases t
        obtain ⟨a, xs, rfl, ha, ta⟩ := rp_lists R h
        exact ⟨_, _, rfl, .inl ⟨xs, SqL.of ha, rfl⟩, by rw [ta.length]; exact q F _ H (Same.refl F) R (.int _)⟩
    · split at e
      · rename_i hz
        cases e
        cases hl with
        | cons h t =>
          cases t
          cases h
          exact ⟨_, _, rfl, ⟨by rw [sizeLine_eq]; exact hz, rfl⟩, q F _ H (Same.refl F) R (.int _)⟩
      · cases e
  · exact ⟨_, _, rfl, .inl ⟨ys, SqL.of h1, rfl⟩, by rw [h2.length]; exact q F _ H (Same.refl F) R (.int _)⟩
  · cases c
theorem cr_tuple (hK : X.K = G.K) : CallR X (.type "tuple") (rBi G (biU .tuple)) := by
  refine callr_imp call_tuple_of fun xs H Q h => ?_
  obtain ⟨F, r, S, us, d, R, hp, hg, q⟩ := h
  rcases biU_cases R hp hg with ⟨l, hl, e⟩ | ⟨a, ys, l, rfl, h1, h2, ⟨c, _⟩ | ⟨_, rfl⟩⟩
  · unfold biD at e
    split at e <;> first | contradiction | skip
    · cases e
      cases hl with
      | cons h t =>
        cases t
        obtain ⟨a, xs, rfl, ha, ta⟩ := rp_lists R h
        refine ⟨a, xs, rfl, .inl ⟨SqL.of ha, fun p hp => ?_⟩⟩
        obtain ⟨R1, s1, i1⟩ := new_tup R hp ta
        exact q _ _ _ s1 R1 i1
    · cases e
      cases hl with
      | cons h t =>
        cases t
        obtain ⟨a, xs, rfl, ha, ta⟩ := rp_tups R h
        exact ⟨a, xs, rfl, .inr ⟨by rw [hK]; exact ha, q F _ H (Same.refl F) R h⟩⟩
  · cases c
  · refine ⟨a, ys, rfl, .inl ⟨SqL.of h1, fun p hp => ?_⟩⟩
    obtain ⟨R1, s1, i1⟩ := new_tup R hp h2
    exact q _ _ _ s1 R1 i1
theorem biU_no {b : Bi} (h1 : b ≠ .len) (h2 : b ≠ .tuple) {us : List U} {S : Store} {d : D} {F : Hp} {r : Pl} {H : Hp} {xs : List V} (R : Rp G F r S H) (h : Paired (IsU G F r) xs us) (e : biU b us S = some d) : ∃ l, IsL G F xs l ∧ biD b l = some d := by
  rcases biU_cases R h e with q | ⟨_, _, _, _, _, _, ⟨c, _⟩ | ⟨c, _⟩⟩
  · exact q
  · exact absurd c h1
  · exact absurd c h2
theorem cr_list (hK : X.K = G.K) : CallR X (.type "list") (rBi G (biU .list)) := by
  refine callr_imp call_list_of fun xs H Q h => ?_
  obtain ⟨F, r, S, us, d, R, hp, hg, q⟩ := h
  obtain ⟨l, hl, e⟩ := biU_no (by decide) (by decide) R hp hg
  unfold biD at e
  split at e <;> first | contradiction | skip
  · cases e
    cases hl with
    | cons h t =>
      cases t
      obtain ⟨a, xs, rfl, ha, ta⟩ := rp_lists R h
      refine ⟨a, xs, rfl, .inl (SqL.of ha), fun p hp => ?_⟩
      obtain ⟨R1, s1, i1⟩ := new_lst R hp ta
      exact q _ _ _ s1 R1 i1
  · cases e
    cases hl with
    | cons h t =>
      cases t
      obtain ⟨a, xs, rfl, ha, ta⟩ := rp_tups R h
      refine ⟨a, xs, rfl, .inr (by rw [hK]; exact ha), fun p hp => ?_⟩
      obtain ⟨R1, s1, i1⟩ := new_lst R hp ta
      exact q _ _ _ s1 R1 i1
theorem cr_abs : CallR X (.builtin "abs") (rBi G (biU .abs)) := by
  refine callr_imp call_abs fun xs H Q h => ?_
  obtain ⟨F, r, S, us, d, R, hp, hg, q⟩ := h
  obtain ⟨l, hl, e⟩ := biU_no (by decide) (by decide) R hp hg
  unfold biD at e
  split at e <;> first | contradiction | skip
  cases e
  cases hl with
  | cons h t =>
    cases t
    cases h
    exact ⟨_, rfl, q F _ H (Same.refl F) R (.int _)⟩
theorem lst_one {F : Hp} {r : Pl} {S : Store} {H : Hp} {xs : List V} {l : List D} (R : Rp G F r S H) (h : IsL G F xs [.lst l]) : ∃ a ys, xs = [.ref a] ∧ H a = some (.lst ys) ∧ IsL G F ys l := by
  cases h with
  | cons h t =>
    cases t
    obtain ⟨a, ys, rfl, ha, ta⟩ := rp_lists R h
    exact ⟨a, ys, rfl, ha, ta⟩
/-- sum of a tuple of numbers -/
theorem cr_sumT (hc : X.calm = true) : CallR X (.builtin "sum") (fun xs H Q => ∃ (a : Addr) (ns : List Int), xs = [.ref a] ∧ SqT X.K H a (ns.map V.int) ∧ Q (.int ns.sum) H) := by
  intro pins s σ H vs us Q I r h
  obtain ⟨a, ns, rfl, hs, q⟩ := h
  obtain ⟨its, rv, hT, _⟩ := I.tuple hs
  rw [Vals.ref1 r]
  obtain ⟨ys, hy⟩ := rv.ints.allInts.items
  have e2 := rv.ints.numsOf
  have e3 : its = (intItems ys).toList := by rw [← hy]
  rw [e3, nums_intItems] at e2
  refine PySem.W.ktm_sumG (I.ok.hd hc) (by rw [← hy]; exact hT) fun h' tk t' hk => ?_
  rw [preSum_eq, List.take_of_length_le (by simp), e2]
  exact ⟨.int _, H, I.kept hk, ⟨_, rfl⟩, q⟩
theorem tup_one {F : Hp} {r : Pl} {S : Store} {H : Hp} {xs : List V} {l : List D} (R : Rp G F r S H) (h : IsL G F xs [.tup l]) : ∃ a ys, xs = [.ref a] ∧ SqT G.K H a ys ∧ IsL G F ys l := by
  cases h with
  | cons h t =>
    cases t
    obtain ⟨a, ys, rfl, ha, ta⟩ := rp_tups R h
    exact ⟨a, ys, rfl, ha, ta⟩
theorem cr_sumD (hK : X.K = G.K) (hc : X.calm = true) : CallR X (.builtin "sum") (rBi G (biU .sum)) := by
  refine callr_imp (CallR.or (cr_sum hc) (cr_sumT hc)) fun xs H Q h => ?_
  obtain ⟨F, r, S, us, d, R, hp, hg, q⟩ := h
  obtain ⟨l, hl, e⟩ := biU_no (by decide) (by decide) R hp hg
  unfold biD at e
  split at e <;> first | contradiction | skip
  · obtain ⟨a, ys, rfl, ha, ta⟩ := lst_one R hl
    rw [Option.map_eq_some_iff] at e
    obtain ⟨ns, e1, e2⟩ := e
    subst e2
    have := intsOf_is ta e1
    subst this
    exact .inl ⟨a, ns, rfl, SqL.of ha, q F _ H (Same.refl F) R (.int _)⟩
  · obtain ⟨a, ys, rfl, ha, ta⟩ := tup_one R hl
    rw [Option.map_eq_some_iff] at e
    obtain ⟨ns, e1, e2⟩ := e
    subst e2
    have := intsOf_is ta e1
    subst this
    exact .inr ⟨a, ns, rfl, by rw [hK]; exact ha, q F _ H (Same.refl F) R (.int _)⟩
theorem cr_anyD (hc : X.calm = true) : CallR X (.builtin "any") (rBi G (biU .any)) := by
  refine callr_imp (cr_any hc) fun xs H Q h => ?_
  obtain ⟨F, r, S, us, d, R, hp, hg, q⟩ := h
  obtain ⟨l, hl, e⟩ := biU_no (by decide) (by decide) R hp hg
  unfold biD at e
  split at e <;> first | contradiction | skip
  obtain ⟨a, ys, rfl, ha, ta⟩ := lst_one R hl
  rw [Option.map_eq_some_iff] at e
  obtain ⟨ns, e1, e2⟩ := e
  subst e2
  have := blsOf_is ta e1
  subst this
  exact ⟨a, ns, rfl, SqL.of ha, q F _ H (Same.refl F) R (.bl _)⟩
theorem cr_allD (hc : X.calm = true) : CallR X (.builtin "all") (rBi G (biU .all)) := by
  refine callr_imp (cr_all hc) fun xs H Q h => ?_
  obtain ⟨F, r, S, us, d, R, hp, hg, q⟩ := h
  obtain ⟨l, hl, e⟩ := biU_no (by decide) (by decide) R hp hg
  unfold biD at e
  split at e <;> first | contradiction | skip
  obtain ⟨a, ys, rfl, ha, ta⟩ := lst_one R hl
  rw [Option.map_eq_some_iff] at e
  obtain ⟨ns, e1, e2⟩ := e
  subst e2
  have := blsOf_is ta e1
  subst this
  exact ⟨a, ns, rfl, SqL.of ha, q F _ H (Same.refl F) R (.bl _)⟩
theorem cr_maxD (hc : X.calm = true) : CallR X (.builtin "max") (rBi G (biU .max)) := by
  refine callr_imp (cr_max hc) fun xs H Q h => ?_
  obtain ⟨F, r, S, us, d, R, hp, hg, q⟩ := h
  obtain ⟨l, hl, e⟩ := biU_no (by decide) (by decide) R hp hg
  unfold biD at e
  split at e <;> first | contradiction | skip
  obtain ⟨a, ys, rfl, ha, ta⟩ := lst_one R hl
  rw [Option.map_eq_some_iff] at e
  obtain ⟨m, e1, e2⟩ := e
  rw [Option.bind_eq_some_iff] at e1
  obtain ⟨ns, e1, e3⟩ := e1
  subst e2
  have := intsOf_is ta e1
  subst this
  obtain ⟨h1, h2⟩ := maxI_is e3
  refine ⟨a, ns, rfl, SqL.of ha, List.length_pos_of_mem h1, fun k k1 k2 => ?_⟩
  have e : k = m := Int.le_antisymm (h2 k k1) (k2 m h1)
  subst e
  exact q F _ H (Same.refl F) R (.int _)
theorem cr_minD (hc : X.calm = true) : CallR X (.builtin "min") (rBi G (biU .min)) := by
  refine callr_imp (cr_min hc) fun xs H Q h => ?_
  obtain ⟨F, r, S, us, d, R, hp, hg, q⟩ := h
  obtain ⟨l, hl, e⟩ := biU_no (by decide) (by decide) R hp hg
  unfold biD at e
  split at e <;> first | contradiction | skip
  obtain ⟨a, ys, rfl, ha, ta⟩ := lst_one R hl
  rw [Option.map_eq_some_iff] at e
  obtain ⟨m, e1, e2⟩ := e
  rw [Option.bind_eq_some_iff] at e1
  obtain ⟨ns, e1, e3⟩ := e1
  subst e2
  have := intsOf_is ta e1
  subst this
  obtain ⟨h1, h2⟩ := minI_is e3
  refine ⟨a, ns, rfl, SqL.of ha, List.length_pos_of_mem h1, fun k k1 k2 => ?_⟩
  have e : k = m := Int.le_antisymm (k2 m h1) (h2 k k1)
  subst e
  exact q F _ H (Same.refl F) R (.int _)

/-! ### isinstance -/
/-- a drive's class, and what isinstance says of it -/
structure DrvOk (G : Gx) : Prop where
  cl : Cls G.K (G.cd 0)
  ca : PySem.W.findIn G.K (.ref (G.cd 0)) "__class__" = some (some (.builtin "object.__class__"))
  cg : PySem.W.specialIn G.K (.builtin "object.__class__") "__get__" = some (some (.builtin "getset_descriptor.__get__"))
  ct : PySem.W.takesIn G.K (.builtin "object.__class__") = some true
  mo : PySem.W.mroIn G.K (G.cd 0) (.type "object") = some true
  self : PySem.W.kitOne G.K (.ref (G.cd 0)) (.ref (G.cd 0)) = some true
  to : ∀ n ∈ ["int", "bool", "str", "tuple", "list", "dict"], PySem.W.kitOne G.K (.ref (G.cd 0)) (.type n) = some false
  off : ∀ n ∈ ["NoneType", "int", "bool", "str", "tuple", "list", "dict"], PySem.W.kitOne G.K (.type n) (.ref (G.cd 0)) = some false
def tyN : Ty → String
  | .int => "int" | .bool => "bool" | .str => "str" | .tup => "tuple" | .lst => "list" | .dict => "dict" | .drv => ""
/-- the class of a value -/
def ofD (G : Gx) : D → Value
  | .non => .type "NoneType"
  | .bl _ => .type "bool"
  | .int _ => .type "int"
  | .str _ => .type "str"
  | .tup _ => .type "tuple"
  | .lst _ => .type "list"
  | .map _ => .type "dict"
  | .drv _ => .ref (G.cd 0)
  | .scr _ => .type "list"
theorem sqT_ty {F H : Hp} {K : PySem.W.Frag} {a : Addr} {xs : List V} (e : Same F H) (h : SqT K F a xs) : TyX K H (.ref a) (.type "tuple") := by
  rcases h with (h | ⟨o, h⟩) | ⟨o, its, n, hk, hc, _⟩
  · exact .base (.tup (e _ _ h))
  · exact .fTuple (e _ _ h)
  · exact .kTuple hk hc
theorem sqL_ty {F H : Hp} {K : PySem.W.Frag} {a : Addr} {xs : List V} (e : Same F H) (h : SqL K F a xs) : TyX K H (.ref a) (.type "list") := by
  rcases h with (h | ⟨o, h⟩) | ⟨o, its, n, hk, hc, _⟩
  · exact .base (.lst (e _ _ h))
  · exact .base (.frz (e _ _ h))
  · exact .kList hk hc
theorem ty_of {F H : Hp} {v : V} {d : D} (e : Same F H) (hd : ∀ t, d = .drv t → DrvOk G) (h : Is G F v d) : TyX G.K H v (ofD G d) := by
  cases h with
  | non => exact .base .non
  | bl b => exact .base (.bl b)
  | int i => exact .base (.int i)
  | str x => exact .base (.str x)
  | tup h t => exact sqT_ty e h
  | lst h t => exact .base (.lst (e _ _ h))
  | map h t => exact .base (.dK (e _ _ h))
  | kmp k =>
    obtain ⟨es, n, kd, _⟩ := k
    exact .kDict kd.at_ rfl
  | drv h t =>
    have D := hd _ rfl
    exact .base (.ins (e _ _ h) D.cl D.ca D.cg D.ct D.mo)
  | scr h t => exact sqL_ty e h
end
end DL

/-! An own exception class whose __init__ says super().__init__('..') and then stores its parameters. -/
namespace DX
open PySem PySem.W PySem.Calls PyProof.Rows
set_option autoImplicit false

/-- the text of such an __init__ -/
structure XTx where
  m : Str
  k : Nat
  p0 : Pos
  p1 : Pos
  p2 : Pos
  p3 : Pos
  p4 : Pos
  p5 : Pos
def XTx.call (x : XTx) : Expr := .Call (.Attribute (.Call (.Name "super" x.p0) [] [] x.p1) "__init__" x.p2) [.Constant (.str x.m) x.k x.p3] [] x.p4
def XTx.stm (x : XTx) : Stmt := .Expr x.call x.p5
/-- a method's call is plain here -/
def XTx.plain (x : XTx) (env : Env) : Prop := ∃ pl : Sem Bool, eval x.call env = (do
  let ov ← attributeBase (.Call (.Name "super" x.p0) [] [] x.p1) "__init__" env (eval (.Call (.Name "super" x.p0) [] [] x.p1) env)
  standAt x.p2.atName
  let (f, first) ← holding [ov] (getMethod ov "__init__" pl)
  callWith x.p4 f first (backTo x.p4 (starEach [.Constant (.str x.m) x.k x.p3] env)) [])
structure FTx where
  f : Str
  q0 : Pos
  q1 : Pos
  q2 : Pos
  q3 : Pos
def FTx.stm (x : FTx) : Stmt := .Assign [.Attribute (.Name "self" x.q0) x.f x.q1] (.Name x.f x.q2) x.q3

/-- what is known of the class and of its __init__ -/
structure XmF (K : Frag) (P : Program) (C fI : Addr) (name qual : Str) (params : Arguments) (scope : Scope) (tx : XTx) (fs : List FTx) : Prop where
  oex : L2.OexC K C
  init : findIn K (.ref C) "__init__" = some (some (.ref fI))
  typ : typeIn K (.ref fI) = some (.type "function")
  fn : ∃ (oc : Value) (od : Option Addr) (dV kV doc pm : Value) (an : Option Addr) (cda : Addr) (ct : Value) (cc : Addr) (osl : Array (Option Value)) (ccl : Value) (cdd : Option Addr) (vs : Array Value) (ccs : Array (Option Value)) (file : Str) (tf : Tok) (cl : Value) (cld : Option Addr) (csl : Array (Option Value)) (cd : ClassData) (ar : Arg),
    K.lookup fI = some ⟨oc, od, .func (ksFn name qual params (tx.stm :: fs.map FTx.stm) scope dV kV doc pm an (.ref cda) ct cc), osl⟩ ∧ codeIn K (.ref cda) qual = true ∧
    K.lookup cda = some ⟨ccl, cdd, .fields vs, ccs⟩ ∧ vs[2]? = some (.str file tf) ∧ ((P.main.file : Str) == file) = true ∧
    K.lookup cc = some ⟨cl, cld, .cell (some (.ref C)), csl⟩ ∧ clsIn K C = some cd ∧ alongIn K "__init__" ((cd.mro.dropWhile (· != .ref C)).drop 1) = some (some (.builtin "ValueError.__init__")) ∧
    (params.posonlyargs ++ params.args).head? = some ar ∧ ar.arg = "self" ∧
    ∀ us : List Value, us.length = fs.length + 1 → bindArgs (ksFn name qual params (tx.stm :: fs.map FTx.stm) scope dV kV doc pm an (.ref cda) ct cc) ⟨us, []⟩ = pure ((("self" : Str) :: fs.map FTx.f).zip us)
  ve : subIn K (.ref C) (.type "ValueError") = some true
  self : mroIn K C (.ref C) = some true
  stat : nsIn K cStatics "thirdparty.any" = some none
  top : (P.main.scope.names.lookup ("super" : Str)).isSome = false
  no : ∀ x ∈ fs, findIn K (.ref C) x.f = some none
  call : ∀ L cda cc : Addr, tx.plain (ksEnv qual scope L fI (.ref cda) cc)
  kind : scope.kind = .function
  co : scope.isCoroutine = false
  gen : scope.isGenerator = false
  cell : ∀ x ∈ scope.names, x.2 ≠ .cell
  ks : scope.names.lookup ("super" : Str) = some .globalImplicit
  kc : scope.names.lookup ("__class__" : Str) = some .free
  kself : scope.names.lookup ("self" : Str) = some .local
  kf : ∀ x ∈ fs, scope.names.lookup x.f = some .local ∧ (x.f == ("__debug__" : Str)) = false

section
variable {prog : Program} {w : World} {A : Around} {R : Result → Shared → Prop} {h : Heap} {g : Array GenState} {d : Drawn} {t : Nat} {os : OsState}
variable {K : Frag} {C fI : Addr} {name qual : Str} {params : Arguments} {scope : Scope} {tx : XTx} {fs : List FTx} {mg : Str → Option Value}

theorem in_but {h h' : Heap} {e : Addr} (X : K.In h) (n : K.lookup e = none) (k : ∀ b o, b ≠ e → h.get? b = some o → h'.get? b = some o) : K.In h' := fun a o q =>
  k a o (fun z => by rw [z, n] at q; cases q) (X a o q)
theorem ns_but {h h' : Heap} {e L : Addr} {m : Str → Option Value} (X : h.Ns L m) (n : L ≠ e) (k : ∀ b o, b ≠ e → h.get? b = some o → h'.get? b = some o) : h'.Ns L m := by
  obtain ⟨o, es, ep, ho, r⟩ := X
  exact ⟨o, es, ep, k _ _ n ho, r⟩

theorem super_at {L cda cc e t0 : Addr} {dV kV doc pm ct oc ccl cl : Value} {od cdd cld : Option Addr} {an : Option Addr} {osl ccs csl : Array (Option Value)} {vs : Array Value} {file : Str} {tf : Tok} {cd : ClassData} {ar : Arg} {m mb : Str → Option Value} {bd : List Stmt} {E : Value → Shared → Prop} {Q : Flow → Shared → Prop}
    (Z : XmF K prog C fI name qual params scope tx fs) (X : K.In h) (hKe : K.lookup e = none) (hns : h.Ns L m) (hself : m "self" = some (.ref e)) (hLe : L ≠ e) (hx : h.get? e = some (PySem.HandSPX.excO C t0))
    (hg : h.Ns mainGlobals mg) (hmg : mg "super" = none) (hb : h.Ns builtinsNs mb) (hmb : mb "super" = bootBuiltins "super")
    (hf : K.lookup fI = some ⟨oc, od, .func (ksFn name qual params bd scope dV kV doc pm an (.ref cda) ct cc), osl⟩) (hcda : K.lookup cda = some ⟨ccl, cdd, .fields vs, ccs⟩) (hvs : vs[2]? = some (.str file tf)) (hfile : ((prog.main.file : Str) == file) = true)
    (hcell : K.lookup cc = some ⟨cl, cld, .cell (some (.ref C)), csl⟩) (hcd : clsIn K C = some cd) (hal : alongIn K "__init__" ((cd.mro.dropWhile (· != .ref C)).drop 1) = some (some (.builtin "ValueError.__init__")))
    (hp : (params.posonlyargs ++ params.args).head? = some ar) (har : ar.arg = "self")
    (hq : ∀ h' t' t1, (∀ b o, b ≠ e → h.get? b = some o → h'.get? b = some o) → h'.get? e = some (PySem.HandSPX.excO C t1) → Q .next ⟨h', g, d, t', os⟩) :
    _root_.PySem.wpAt (model prog w) A (.func bd (ksEnv qual scope L fI (.ref cda) cc)) (exec tx.stm (ksEnv qual scope L fI (.ref cda) cc)) Q E ⟨h, g, d, t, os⟩ := by
  have hC := Z.oex.cls
  obtain ⟨nm, q, N, bs, bm, sn, sub, ab, col, dd, k0, k1, k2, k3, k5, hC, hbm⟩ := hC
  obtain ⟨oD, hD1, hD2⟩ : ∃ oD, h.get? C = some oD ∧ oD.data = .cls cd := by
    unfold clsIn at hcd
    split at hcd
    · rename_i c d cd' sl ho
      cases hcd
      exact ⟨_, X _ _ ho, rfl⟩
    · cases hcd
  have hxC : e ≠ C := by
    intro z
    rw [← z, hx] at hD1
    cases hD1
    cases hD2
  obtain ⟨pl, hpl⟩ := Z.call L cda cc
  have hi : interactive (ksEnv qual scope L fI (.ref cda) cc) = false := by
    unfold interactive
    rw [show (ksEnv qual scope L fI (.ref cda) cc).scope.kind = .function from Z.kind]
    rfl
  refine ks_wpAt_Expr_any (hi := hi) (ks_wpAt_MethodCall (pl := pl) (he := hpl) (ks_wpAt_super_base (env := ksEnv qual scope L fI (.ref cda) cc) Z.ks Z.kc rfl rfl (X _ _ hf) rfl hp rfl (X _ _ hcda) rfl hvs hfile Z.top ?_))
  refine ks_loadName_global Z.kind Z.ks (loadGlobal_builtin (env := ksEnv qual scope L fI (.ref cda) cc) hg hmg hb (hmb.trans (show bootBuiltins "super" = some (.type "super") from rfl)) ⟨rfl, ?_⟩)
  refine wpAny_loadName_free (c := cc) Z.kind Z.kc rfl ⟨_, X _ _ hcell, rfl⟩ ?_
  rw [har]
  refine wpAny_loadName_local Z.kind Z.kself hns hself ?_
  refine ks_wpAny_isType_cls hD1 hD2 ⟨rfl, ?_⟩
  refine ks_wpAny_call_super hD1 hD2 hx rfl (fun c z => by cases z) (looks_mroIn X Z.self) fun h1 e1 k1 => ?_
  have X1 : K.In h1 := X.keeps k1
  have hx1 := k1 _ _ hx
  have I1 : InstAt h1 e (PySem.HandSPX.excO C t0) C none := ⟨hx1, rfl, rfl, trivial⟩
  refine kxs_getMethod kxs_ValueError (x := e) (C := C) (D := C) e1 (looks_opaque X1 Z.stat) (l₀ := cd.mro) (fun A Q E s k q => wpAny_bind ((looks_clsIn X1 hcd) A _ E s k (wpAny_pure q))) rfl X1 hal (I1.type.andThen (looks_subIn X1 Z.ve)) hxC rfl ?_
  have hu : (h1.push (kxs_mw "ValueError.__init__" e)).get? h1.objs.size = some (kxs_mw "ValueError.__init__" e) := Heap.get?_push_at rfl rfl
  have k2 : ∀ b o, h1.get? b = some o → (h1.push (kxs_mw "ValueError.__init__" e)).get? b = some o := fun b o z => Heap.get?_push_of_some _ z
  have he2 := k2 _ _ hx1
  have hC2 := k2 _ _ (X1 _ _ hC)
  refine kxs_callWith (i := "ValueError.__init__") (u := h1.objs.size) (x := e) rfl (evalArgs_plain (spliced_cons (wpAny_Constant_str (k := tx.k) (pos := tx.p3) (spliced_nil ⟨hu, ?_⟩))))
  refine wpAny_call (codeAny_of_tree ?_)
  show wpAny _ A.in1 (callAny (.ref h1.objs.size) ⟨[.str tx.m (t + 1)], []⟩) _ _ _
  simp only [callAny]
  refine wpAny_bind (wpAny_load hu ?_)
  simp only [kxs_mw, show (Value.type "method-wrapper" == Value.type "method" || Value.type "method-wrapper" == Value.type "builtin_function_or_method" || Value.type "method-wrapper" == Value.type "method-wrapper") = true by decide, if_true]
  refine KFB.if_so (by decide) ?_
  refine wpAny_bind (check_bound_init F.excBase_ValueError.toExcCallFacts hC2 he2 rfl ?_)
  refine wpAny_bind (wpAny_pure (wpAny_pure ?_))
  refine ⟨plainId_quiet F.excBase_ValueError.init.plain _, codeAny_builtin F.excBase_ValueError.initEntry ?_⟩
  refine exc_init_tree (cls := .ref C) (t0 := t0) (dv := none) (c2 := .none) (c3 := .none) (b4 := .bool false) he2 (by show 1 ≤ sizeLine; rw [sizeLine_eq]; omega) fun h' k e' t' => ?_
  exact hq h' _ _ (fun b o hb z => k b o hb (k2 _ _ (k1 _ _ z))) e'

/-- the last statements: the first field makes the dict -/
theorem store1 {L e t1 cda cc : Addr} {x : FTx} {u : Value} {m : Str → Option Value} {bd : List Stmt} {E : Value → Shared → Prop} {Q : Flow → Shared → Prop}
    (Z : XmF K prog C fI name qual params scope tx fs) (hx : x ∈ fs) (X : K.In h) (hns : h.Ns L m) (hself : m "self" = some (.ref e)) (hu : m x.f = some u) (he : h.get? e = some (PySem.HandSPX.excO C t1))
    (hq : ∀ h' t' dx, (∀ b o, b ≠ e → h.get? b = some o → h'.get? b = some o) → h.objs.size ≤ dx → dx ≠ e → h'.get? e = some { cls := .ref C, dict := some dx, data := .fields #[.ref t1, .none, .none, .none, .bool false, .none] } →
      h'.Ns1 dx (fun y => if y = x.f then some u else none) → Q .next ⟨h', g, d, t', os⟩) :
    _root_.PySem.wpAt (model prog w) A (.func bd (ksEnv qual scope L fI (.ref cda) cc)) (exec x.stm (ksEnv qual scope L fI (.ref cda) cc)) Q E ⟨h, g, d, t, os⟩ := by
  obtain ⟨nm, q, N, bs, bm, sn, sub, ab, col, dd, k0, k1, k2, k3, k5, hC, hbm⟩ := Z.oex.cls
  have hcl : clsIn K C = some { name := nm, bases := bs, mro := .ref C :: bm, ns := N, qualname := q, hasDict := true, slotNames := sn, subclasses := sub, abstract := ab, collection := col, hasDel := false } := by unfold clsIn; rw [hC] <;> rfl
  refine ks_wpAt_Assign_Attr (wpAt_of_wpAny (wpAny_Name (wpAny_loadName_local Z.kind (Z.kf x hx).1 hns hu ?_) (Z.kf x hx).2))
  refine wpAny_Name (wpAny_loadName_local Z.kind Z.kself hns hself ?_)
  refine set_plain X (ox := PySem.HandSPX.excO C t1) (od := none) ⟨he, rfl, rfl, trivial⟩ Z.oex.sa ?_
  refine PySem.HandSPX.exc_osa X he hcl (show PySem.HandSPX.refsVE (.ref C :: bm) = true from hbm) rfl (Z.no x hx) fun h' tk' dx k dn dne hx' hn => ?_
  exact hq h' tk' dx k dn dne hx' hn
/-- a further field -/
theorem store2 {L e t1 cda cc dx : Addr} {x : FTx} {u : Value} {m m0 : Str → Option Value} {nl : List Str} {bd : List Stmt} {E : Value → Shared → Prop} {Q : Flow → Shared → Prop}
    (Z : XmF K prog C fI name qual params scope tx fs) (hx : x ∈ fs) (X : K.In h) (hns : h.Ns L m) (hself : m "self" = some (.ref e)) (hu : m x.f = some u)
    (he : h.get? e = some { cls := .ref C, dict := some dx, data := .fields #[.ref t1, .none, .none, .none, .bool false, .none] }) (hd : h.Ns1 dx m0) (hw : Within m0 nl) (hl : nl.length ≤ 1000)
    (hq : ∀ h' t', (∀ b o, b ≠ dx → h.get? b = some o → h'.get? b = some o) → h'.Ns1 dx (fun y => if y = x.f then some u else m0 y) → Q .next ⟨h', g, d, t', os⟩) :
    _root_.PySem.wpAt (model prog w) A (.func bd (ksEnv qual scope L fI (.ref cda) cc)) (exec x.stm (ksEnv qual scope L fI (.ref cda) cc)) Q E ⟨h, g, d, t, os⟩ := by
  obtain ⟨nm, q, N, bs, bm, sn, sub, ab, col, dd, k0, k1, k2, k3, k5, hC, hbm⟩ := Z.oex.cls
  have hcl : clsIn K C = some { name := nm, bases := bs, mro := .ref C :: bm, ns := N, qualname := q, hasDict := true, slotNames := sn, subclasses := sub, abstract := ab, collection := col, hasDel := false } := by unfold clsIn; rw [hC] <;> rfl
  obtain ⟨oD, _, _, hoD, _, _⟩ := hd.count hw
  refine ks_wpAt_Assign_Attr (wpAt_of_wpAny (wpAny_Name (wpAny_loadName_local Z.kind (Z.kf x hx).1 hns hu ?_) (Z.kf x hx).2))
  refine wpAny_Name (wpAny_loadName_local Z.kind Z.kself hns hself ?_)
  refine set_plain X (ox := { cls := .ref C, dict := some dx, data := .fields #[.ref t1, .none, .none, .none, .bool false, .none] }) (od := some oD) ⟨he, rfl, rfl, hoD⟩ Z.oex.sa ?_
  refine PySem.OEX.osa_old X he hd hw hl hcl (show PySem.HandSPX.refsVE (.ref C :: bm) = true from hbm) rfl (Z.no x hx) fun h' tk' k hn => ?_
  exact hq h' tk' k hn

/-- the pairs, one field or two -/
def Ends1 (h : Heap) (g : Array GenState) (d : Drawn) (os : OsState) (R : Result → Shared → Prop) (C e : Addr) (m : Str → Option Value) : Prop :=
  ∀ h' t' t1 dx, (∀ b o, b ≠ e → h.get? b = some o → h'.get? b = some o) → h.objs.size ≤ dx → dx ≠ e → h'.get? e = some { cls := .ref C, dict := some dx, data := .fields #[.ref t1, .none, .none, .none, .bool false, .none] } → h'.Ns1 dx m → R (.ok (.ret .none)) ⟨h', g, d, t', os⟩
theorem xinit1 {e t0 : Addr} {x : FTx} {u : Value} {mb : Str → Option Value} (Z : XmF K prog C fI name qual params scope tx [x]) (X : K.In h) (hKe : K.lookup e = none) (he : h.get? e = some (PySem.HandSPX.excO C t0))
    (hg : h.Ns mainGlobals mg) (hmg : mg "super" = none) (hb : h.Ns builtinsNs mb) (hmb : mb "super" = bootBuiltins "super") (hgl : mainGlobals ≠ e) (hbl : builtinsNs ≠ e) (lim : h.NoLimit) (hroom : A.depth < recursionLimit) (hne : x.f ≠ "self")
    (hq : Ends1 h g d os R C e fun y => if y = x.f then some u else none) : codeAny (model prog w) A (.call (.ref fI) ⟨[.ref e, u], []⟩) R ⟨h, g, d, t, os⟩ := by
  obtain ⟨oc, od, dV, kV, doc, pm, an, cda, ct, cc, osl, ccl, cdd, vs, ccs, file, tf, cl, cld, csl, cd, ar, f1, f2, f3, f4, f5, f6, f7, f8, f9, f10, f11⟩ := Z.fn
  refine ks_codeAny_call_defAt (s := ⟨h, g, d, t, os⟩) (binds := [(("self" : Str), .ref e), (x.f, u)]) hroom (X _ _ f1) rfl lim (codeRec_of X f2) rfl (BindsTo.of_eq (f11 [.ref e, u] rfl)) Z.cell (fun y hy => ?_) (fun h0 hns k0 => ?_) Z.co Z.gen Z.kind
  · rcases List.mem_cons.mp hy with rfl | hy
    · exact Z.kself
    · rw [List.mem_singleton.mp hy]; exact (Z.kf x (by simp)).1
  · have hL : ∃ o, h0.get? h.objs.size = some o := by
      obtain ⟨o, es, ep, ho, _⟩ := hns
      exact ⟨o, ho⟩
    have hLe : h.objs.size ≠ e := fun z => by
      have := Heap.lt_size he
      rw [z] at this
      exact absurd this (Nat.lt_irrefl _)
    have m1 : (([(("self" : Str), Value.ref e), (x.f, u)] : List (Str × Value)).reverse.lookup ("self" : Str)) = some (.ref e) := by
      have e1 : (("self" : Str) == x.f) = false := by simpa using Ne.symm hne
      simp [List.lookup_cons, e1]
    have m2 : (([(("self" : Str), Value.ref e), (x.f, u)] : List (Str × Value)).reverse.lookup x.f) = some u := by simp [List.lookup_cons]
    have X0 : K.In h0 := X.keeps k0
    refine ks_wpAt_execs_cons (super_at (e := e) (t0 := t0) Z X0 hKe hns m1 hLe (k0 _ _ he) (hg.keeps k0) hmg (hb.keeps k0) hmb f1 f3 f4 f5 f6 f7 f8 f9 f10 fun h1 t1 t2 k1 e1 => ?_)
    have X1 : K.In h1 := in_but X0 hKe k1
    have n1 := ns_but hns hLe k1
    refine ks_wpAt_execs_cons (store1 (e := e) Z (by simp) X1 n1 m1 m2 e1 fun h2 t3 dx k2 l2 dne e2 n2 => wpAt_of_wpAny (wpAny_execs_nil ?_))
    refine hq h2 _ t2 dx (fun b o hb' z => k2 b o hb' (k1 b o hb' (k0 b o z))) ?_ dne e2 n2
    obtain ⟨o, ho⟩ := hL
    exact Nat.le_of_lt (Nat.lt_of_lt_of_le (Heap.lt_size (k1 _ _ hLe ho)) l2)
theorem xinit2 {e t0 : Addr} {x y : FTx} {u v : Value} {mb : Str → Option Value} (Z : XmF K prog C fI name qual params scope tx [x, y]) (X : K.In h) (hKe : K.lookup e = none) (he : h.get? e = some (PySem.HandSPX.excO C t0))
    (hg : h.Ns mainGlobals mg) (hmg : mg "super" = none) (hb : h.Ns builtinsNs mb) (hmb : mb "super" = bootBuiltins "super") (hgl : mainGlobals ≠ e) (hbl : builtinsNs ≠ e) (lim : h.NoLimit) (hroom : A.depth < recursionLimit) (hne : x.f ≠ "self") (hne2 : y.f ≠ "self") (hne3 : y.f ≠ x.f)
    (hq : Ends1 h g d os R C e fun z => if z = y.f then some v else if z = x.f then some u else none) : codeAny (model prog w) A (.call (.ref fI) ⟨[.ref e, u, v], []⟩) R ⟨h, g, d, t, os⟩ := by
  obtain ⟨oc, od, dV, kV, doc, pm, an, cda, ct, cc, osl, ccl, cdd, vs, ccs, file, tf, cl, cld, csl, cd, ar, f1, f2, f3, f4, f5, f6, f7, f8, f9, f10, f11⟩ := Z.fn
  refine ks_codeAny_call_defAt (s := ⟨h, g, d, t, os⟩) (binds := [(("self" : Str), .ref e), (x.f, u), (y.f, v)]) hroom (X _ _ f1) rfl lim (codeRec_of X f2) rfl (BindsTo.of_eq (f11 [.ref e, u, v] rfl)) Z.cell (fun z hy => ?_) (fun h0 hns k0 => ?_) Z.co Z.gen Z.kind
  · rcases List.mem_cons.mp hy with rfl | hy
    · exact Z.kself
    · rcases List.mem_cons.mp hy with rfl | hy
      · exact (Z.kf x (by simp)).1
      · rw [List.mem_singleton.mp hy]; exact (Z.kf y (by simp)).1
  · have hL : ∃ o, h0.get? h.objs.size = some o := by
      obtain ⟨o, es, ep, ho, _⟩ := hns
      exact ⟨o, ho⟩
    have hLe : h.objs.size ≠ e := fun z => by
      have := Heap.lt_size he
      rw [z] at this
      exact absurd this (Nat.lt_irrefl _)
    have q1 : (("self" : Str) == x.f) = false := by simpa using Ne.symm hne
    have q2 : (("self" : Str) == y.f) = false := by simpa using Ne.symm hne2
    have q3 : (x.f == y.f) = false := by simpa using Ne.symm hne3
    have m1 : (([(("self" : Str), Value.ref e), (x.f, u), (y.f, v)] : List (Str × Value)).reverse.lookup ("self" : Str)) = some (.ref e) := by simp [List.lookup_cons, q1, q2]
    have m2 : (([(("self" : Str), Value.ref e), (x.f, u), (y.f, v)] : List (Str × Value)).reverse.lookup x.f) = some u := by simp [List.lookup_cons, q3]
    have m3 : (([(("self" : Str), Value.ref e), (x.f, u), (y.f, v)] : List (Str × Value)).reverse.lookup y.f) = some v := by simp [List.lookup_cons]
    have X0 : K.In h0 := X.keeps k0
    refine ks_wpAt_execs_cons (super_at (e := e) (t0 := t0) Z X0 hKe hns m1 hLe (k0 _ _ he) (hg.keeps k0) hmg (hb.keeps k0) hmb f1 f3 f4 f5 f6 f7 f8 f9 f10 fun h1 t1 t2 k1 e1 => ?_)
    have X1 : K.In h1 := in_but X0 hKe k1
    have n1 := ns_but hns hLe k1
    refine ks_wpAt_execs_cons (store1 (e := e) Z (by simp) X1 n1 m1 m2 e1 fun h2 t3 dx k2 l2 dne e2 n2 => ?_)
    have X2 : K.In h2 := in_but X1 hKe k2
    have n2' := ns_but n1 hLe k2
    have hw : Within (fun z => if z = x.f then some u else none) [x.f] := fun z hz => by
      by_cases q : z = x.f
      · rw [q]; exact List.mem_cons_self ..
      · exact absurd (if_neg q) hz
    refine ks_wpAt_execs_cons (store2 (e := e) Z (by simp) X2 n2' m1 m3 e2 n2 hw (by simp) fun h3 t4 k3 n3 => wpAt_of_wpAny (wpAny_execs_nil ?_))
    obtain ⟨o, ho⟩ := hL
    have ld : h.objs.size < dx := Nat.lt_of_lt_of_le (Heap.lt_size (k1 _ _ hLe ho)) l2
    refine hq h3 _ t2 dx (fun b o hb' z => k3 b o ?_ (k2 b o hb' (k1 b o hb' (k0 b o z)))) (Nat.le_of_lt ld) dne (k3 _ _ (Ne.symm dne) e2) n3
    intro q
    have := Heap.lt_size z
    rw [q] at this
    exact absurd (Nat.lt_trans this ld) (Nat.lt_irrefl _)
end
end DX

/-! Exceptions of own classes are made and caught. -/
namespace DX
open PySem PySem.Spec PyProof.Rows L2
set_option autoImplicit false

/-- C() of a class without __init__ -/
theorem pmk_zero {X : Cx} {C : Addr} {bmB : List Value} {B newId initId : String} {x : Str} {p pos : Pos} (Z : ExcBaseFacts B newId initId bmB) (q : PySem.W.excIn X.K C bmB newId = true) (gC : X.mg x = some (.ref C)) (kC : PySem.W.keepIn X.K (.ref C) = true) (r : Raises X (.ref C)) (hg : Gl X x)
    (hdb : (x == ("__debug__" : Str)) = false) : PMk X (.Call (.Name x p) [] [] pos) (fun _ H Q => Q (.ref C) none H) := by
  intro pins s σ H Q I want
  refine wpAny_Call_Name_kw (ld_glob I hg gC ?_ hdb)
  refine PySem.W.callWith_K0 I.kIn kC ?_
  show wpAny _ _ (call (.ref C) []) _ _ _
  obtain ⟨bm, N, nm, qn, bs, hdct, sn, sub, ab, col, dd, k0, k1, k2, k3, k5, mN, c1, c2, c3, c4⟩ := exc_obj I.kIn q
  refine wpAny_call_exc_subT Z c4 c1 c2 c3 (fun h' e made => ?_) (by show 0 ≤ sizeLine; omega)
  exact mk_of I made r want (I.hok.gone made.new)

section
variable {X : Cx} {C fI : Addr} {name qual : Str} {params : Arguments} {scope : Scope} {tx : XTx} {fs : List FTx} {x : Str} {e : Expr} {es : List Expr} {p pos : Pos} {ta : TA}
def tMkX (C : Addr) (names : List Str) (ta : TA) : L2.St → Hp → XK → Prop := fun σ H Q => ta σ H fun vs H1 => vs.length = names.length ∧ ∀ d, H1 d = none → Q (.ref C) (some d) (upd H1 d (.xd (names.zip vs)))
/-- what is left: the exception apart, its dict tracked -/
theorem made {pins : List (Addr × Obj)} {σ : L2.St} {H1 : Hp} {hp h' : Heap} {g : Array GenState} {dr : Drawn} {tk tk' : Nat} {os : OsState} {a t1 dx : Addr} {vs : List (Str × V)} {m : Str → Option Value} {Q : XK} (Z : OexC X.K C) (I1 : Inv X pins σ H1 ⟨hp, g, dr, tk, os⟩)
    (ha : hp.objs.size ≤ a) (k : ∀ b o, hp.get? b = some o → h'.get? b = some o) (hsz : hp.objs.size ≤ dx) (dne : dx ≠ a) (hx : h'.get? a = some ({ cls := .ref C, dict := some dx, data := .fields #[.ref t1, .none, .none, .none, .bool false, .none] } : Obj))
    (hn : h'.Ns1 dx m) (rel : ∀ f, RelO (vs.lookup f) (m f)) (q : ∀ d, H1 d = none → Q (.ref C) (some d) (upd H1 d (.xd vs))) : MkP X pins σ Q (.ref a) ⟨h', g, dr, tk', os⟩ := by
  obtain ⟨G, g1, g2⟩ := restrict h' fun b => decide (b ≠ a)
  have gk : ∀ b, b ≠ a → G.get? b = h'.get? b := fun b hb => g1 b (decide_eq_true hb)
  have ga : G.get? a = none := g2 a (by simp)
  have n0 : H1 a = none := I1.hok.fresh ha
  have nd : H1 dx = none := I1.hok.fresh hsz
  have old : ∀ b o, hp.get? b = some o → G.get? b = some o := fun b o z => by
    rw [gk b (Nat.ne_of_lt (Nat.lt_of_lt_of_le (Heap.lt_size z) ha))]
    exact k b o z
  have okx : ObjOk X.prog X.w (upd H1 dx (.xd vs)) G dx (.xd vs) := ⟨m, hn.at fun o y => (gk dx dne).trans y, rel⟩
  have J : Inv X pins σ (upd H1 dx (.xd vs)) ⟨G, g, dr, tk', os⟩ := I1.laid (t' := tk') (a := dx) (o := .xd vs) (h' := G) old hsz okx
  refine ⟨a, _, _, ⟨G, g, dr, tk', os⟩, _, .ref C, some dx, rfl, J, fun b o z => ?_, ga, hx, ⟨rfl, rfl⟩, rfl, rfl, ?_, rfl, I1.bare, raises_own Z.exC Z.tyC, q dx nd⟩
  · by_cases hb : b = a
    · rw [hb, ga] at z; cases z
    · exact (gk b hb).symm.trans z
  · rw [upd_ne (Ne.symm dne)]; exact n0
theorem relO_two {f g : Str} {y z : V} {u v : Value} (hne : g ≠ f) (ry : RelV y u) (rz : RelV z v) (n : Str) : RelO (List.lookup n [(f, y), (g, z)]) (if n = g then some v else if n = f then some u else none) := by
  by_cases h1 : n = g
  · subst h1
    have : (n == f) = false := by simpa using hne
    rw [if_pos rfl, List.lookup_cons, this, List.lookup_cons]
    simp only [beq_self_eq_true]
    exact rz
  · rw [if_neg h1]
    have e1 : (n == g) = false := by simpa using h1
    by_cases h2 : n = f
    · subst h2
      rw [if_pos rfl, List.lookup_cons]
      simp only [beq_self_eq_true]
      exact ry
    · have e2 : (n == f) = false := by simpa using h2
      rw [if_neg h2, List.lookup_cons, e2, List.lookup_cons, e1]
      exact True.intro
/-- C(e, ..), one field or two -/
theorem pmk_x (Z : XmF X.K X.prog C fI name qual params scope tx fs) (hfs : (∃ f, fs = [f] ∧ f.f ≠ "self") ∨ ∃ f f2, fs = [f, f2] ∧ f.f ≠ "self" ∧ f2.f ≠ "self" ∧ f2.f ≠ f.f) (hr : Room 1 X.A) (hg : Gl X x) (hm : X.mg x = some (.ref C)) (hs : X.mg "super" = none) (ha : PA X (e :: es) ta)
    (hdb : (x == ("__debug__" : Str)) = false) (he : starEach (e :: es) X.env = (false, eval e X.env) :: starEach es X.env) (hpl : (backTo pos (starEach es X.env)).any (·.1) = false) :
    PMk X (.Call (.Name x p) (e :: es) [] pos) (tMkX C (fs.map FTx.f) ta) := by
  intro pins s σ H Q I want
  obtain ⟨nm, q, N, bs, bm, sn, sub, ab, col, dd, k0, k1, k2, k3, k5, hC, hbm⟩ := Z.oex.cls
  refine wpAny_Call_Name_kw (ld_glob I hg hm ?_ hdb)
  refine PySem.W.callWith_K (h₀ := X.base) I.ok.mod.kin Z.oex.kC (thn (ha.run pos pins s σ H _ I want) fun us s1 ⟨vs, H1, I1, r1, hz, q1⟩ => ⟨I1.kIn, ?_⟩) he hpl
  show wpAny _ _ (call (.ref C) us) _ _ _
  obtain ⟨hp, g, dr, tk, os⟩ := s1
  have sz : hp.objs.size ≤ hp.objs.size + 1 := Nat.le_succ _
  have kk : ∀ b o, hp.get? b = some o → ((hp.push (PySem.W.kdv_tup us)).push (PySem.HandSPX.excO C hp.objs.size)).get? b = some o := fun b o z => Heap.get?_push_of_some _ (Heap.get?_push_of_some _ z)
  have hget : ((hp.push (PySem.W.kdv_tup us)).push (PySem.HandSPX.excO C hp.objs.size)).get? (hp.objs.size + 1) = some (PySem.HandSPX.excO C hp.objs.size) := by heap_get
  have hlen : us.length = fs.length := by rw [← Paired.length r1, hz, List.length_map]
  have small : fs.length ≤ 2 := by rcases hfs with ⟨f, rfl, _⟩ | ⟨f, f2, rfl, _⟩ <;> simp
  have hus : us.length ≤ sizeLine := by rw [hlen, sizeLine_eq]; omega
  obtain ⟨mb, b1, b2⟩ := I1.mod.blt
  have bk := I1.bk
  have K2 := I1.kIn.keeps kk
  have e0 := (I1.env0.make C us [])
  have rm := (hr.make C us []).depth
  have lt : ∀ b o, X.base.get? b = some o → b ≠ hp.objs.size + 1 := fun b o z => Nat.ne_of_lt (Nat.lt_succ_of_lt (Heap.lt_size (bk b o z)))
  have hKe : X.K.lookup (hp.objs.size + 1) = none := by
    cases z : X.K.lookup (hp.objs.size + 1) with
    | none => rfl
    | some o => exact absurd rfl (lt _ _ (I.ok.mod.kin _ _ z))
  have ng : mainGlobals ≠ hp.objs.size + 1 := by
    obtain ⟨o, _, _, z, _⟩ := I.ok.mod.glob
    exact lt _ _ z
  have nb : builtinsNs ≠ hp.objs.size + 1 := by
    obtain ⟨o, _, _, z, _⟩ := b1
    exact lt _ _ z
  refine wpAny_call (PySem.HandSPX.call_own F.excBase_ValueError (fun Y => PySem.HandSPX.refsVE_contains Y bm hbm) (I1.kIn _ _ hC) (PySem.W.looks_findIn I1.kIn Z.init) (fun self => PySem.W.bind_fn I1.kIn self Z.typ) hus ?_)
  have lim : ((hp.push (PySem.W.kdv_tup us)).push (PySem.HandSPX.excO C hp.objs.size)).NoLimit := I.ok.mod.nolimit.keeps fun b o z => kk _ _ (bk b o z)
  have gl : ((hp.push (PySem.W.kdv_tup us)).push (PySem.HandSPX.excO C hp.objs.size)).Ns mainGlobals X.mg := I.ok.mod.glob.keeps fun b o z => kk _ _ (bk b o z)
  have bl : ((hp.push (PySem.W.kdv_tup us)).push (PySem.HandSPX.excO C hp.objs.size)).Ns builtinsNs mb := b1.keeps fun b o z => kk _ _ (bk b o z)
  have away : ∀ {h' : Heap}, (∀ b o, b ≠ hp.objs.size + 1 → ((hp.push (PySem.W.kdv_tup us)).push (PySem.HandSPX.excO C hp.objs.size)).get? b = some o → h'.get? b = some o) → ∀ b o, hp.get? b = some o → h'.get? b = some o := fun {h'} k b o z =>
    k b o (Nat.ne_of_lt (Nat.lt_succ_of_lt (Heap.lt_size z))) (kk b o z)
  have grow : hp.objs.size ≤ ((hp.push (PySem.W.kdv_tup us)).push (PySem.HandSPX.excO C hp.objs.size)).objs.size := by
    rw [Heap.size_push, Heap.size_push]; omega
  rcases hfs with ⟨f, rfl, n1⟩ | ⟨f, f2, rfl, n1, n2, n3⟩
  · match us, r1, hlen with
    | [u], r1, _ =>
      cases r1 with
      | @cons y _ _ _ ry rt =>
        cases rt
        refine xinit1 Z K2 hKe hget gl hs bl (b2 "super" (by decide)) ng nb lim rm n1 fun h' t' t1 dx k sz2 dne hx hn => ⟨rfl, ?_⟩
        exact made Z.oex I1 sz (away k) (Nat.le_trans grow sz2) dne hx hn (relO_put (fs := []) ry fun z => True.intro) q1
  · match us, r1, hlen with
    | [u, v], r1, _ =>
      cases r1 with
      | @cons y _ _ _ ry rt =>
        cases rt with
        | @cons y2 _ _ _ ry2 rt2 =>
          cases rt2
          refine xinit2 Z K2 hKe hget gl hs bl (b2 "super" (by decide)) ng nb lim rm n1 n2 n3 fun h' t' t1 dx k sz2 dne hx hn => ⟨rfl, ?_⟩
          exact made Z.oex I1 sz (away k) (Nat.le_trans grow sz2) dne hx hn (relO_two n3 ry ry2) q1
end

/-! ### try with several clauses, with names or without -/
def goneE (D : Ends) : Option Nat → Ends
  | none => D
  | some i => { nx := fun σ' H' => D.nx (σ'.set i none) H', rt := D.rt, bk := fun σ' H' => D.bk (σ'.set i none) H', ct := fun σ' H' => D.ct (σ'.set i none) H' }
def hasE (σ : L2.St) (a : Addr) : Option Nat → L2.St
  | none => σ
  | some i => σ.set i (some (.ref a))
structure Cl where
  c : Value
  nm : Option Nat
  ts : Addr → Value → Option Addr → TS
/-- what the clauses wish -/
def wHx (K : PySem.W.Frag) (Wo : WX) (D : Ends) : List Cl → WX
  | [] => Wo
  | k :: r => fun cls d σ H => ∃ b, PySem.W.exmOne K cls k.c = some b ∧ (b = true → ∀ a, H a = none → k.ts a cls d (goneE D k.nm) (hasE σ a k.nm) H) ∧ (b = false → wHx K Wo D r cls d σ H)
/-- the name of a clause -/
def NmOk (X : Cx) : Option Str → Option Nat → Prop
  | none, none => True
  | some n, some i => X.N[i]? = some n ∧ X.env.kindOf n = some .local
  | _, _ => False
inductive Hx (X : Cx) : List ExceptHandler → List Cl → Prop
  | nil : Hx X [] []
  | cons {x : Str} {n : Option Str} {k : Cl} {b₀ : Stmt} {suite : List Stmt} {np pos' : Pos} {hds : List ExceptHandler} {l : List Cl} (hc : Names X x k.c) (hn : NmOk X n k.nm)
      (hsu : ∀ (a : Addr) (oe : Obj) (cls : Value) (d : Option Addr) (pn : List (Addr × Obj)), Zc cls d oe → (∃ vs, oe.data = .fields vs) → PSs (X.suite a ((a, oe) :: pn)) (b₀ :: suite) (k.ts a cls d)) (r : Hx X hds l) :
      Hx X (.ExceptHandler (some (.Name x np)) n (b₀ :: suite) pos' :: hds) (k :: l)
section
variable {X : Cx} {body : List Stmt} {h₀ : ExceptHandler} {hds : List ExceptHandler} {l : List Cl} {pos : Pos} {tb : WX → TS} {Wo : WX}
theorem ps_try_hx (stk : X.stack = X.env :: X.outer) (frm : X.env.frame = some X.env.locals) (nd : X.N.Nodup) (tk : Takes X Wo)
    (bodyOk : ∀ (W : WX) (pn : List (Addr × Obj)) (xe : Value → Shared → Prop), Takes (X.tr pn xe) W → PassesOwn (model X.prog X.w) X.A X.env xe → PSs (X.tr pn xe) body (tb W))
    (cls_ : Hx X (h₀ :: hds) l) : PS X (.Try body (h₀ :: hds) [] [] pos) (fun D σ H => tb (wHx X.K Wo D l) D σ H) := by
  refine ⟨fun pins s σ H D I want => ?_⟩
  have ok0 := I.ok
  have hFr : X.A.frames = some (X.env :: X.outer) := by rw [ok0.frames, stk]
  refine wpAny_Try_except ?_
  refine wpAny_mono ((bodyOk (wHx X.K Wo D l) (X.pn ++ pins) (fun ex z₁ => wpAny (model X.prog X.w) X.A (noteFrame ex X.env) (fun _ z₂ => wpAny (model X.prog X.w) X.A (setFlight ex none) (fun _ z₃ =>
    wpAny (model X.prog X.w) X.A (handleBy ex X.env (h₀ :: hds)) (SP X pins D) X.xe z₃) X.xe z₂) X.xe z₁) (fun u z' air => ?_) PassesOwn.looking).run [] s σ H D (I.toTry _) want) (fun fl z1 hsp => ?_) (fun ex z1 he => he)
  · obtain ⟨a, B, zI, pins', σ', H', cl, d, rfl, J', nb, up, sky, na, osE, ag, w⟩ := air
    have J : Inv X pins σ' H' zI := J'.ofTry ok0
    have sky2 : Sky B (X.env :: X.outer) a (Zc cl d) X.env.locals z'.heap := by rw [← stk]; exact sky
    show wpAny (model X.prog X.w) X.A (noteFrame (.ref a) X.env) _ _ _
    refine Sky.land Zc.steady hFr frm sky2 fun h3 fly3 up3 => ?_
    have J3 : Inv X pins σ' H' { z' with heap := h3 } := J.landed nb fly3.1 (up.trans up3) osE ag
    obtain ⟨o3, v3, at3, zc3, dat3⟩ := fly3.there
    have apart : ∀ {hh : Heap} {o : Obj} {vs : Array Value}, hh.FunFrames B (X.env :: X.outer) → hh.get? a = some o → o.data = .fields vs → a ∉ frs (X.env :: X.outer) := fun {hh o vs} ff ea dd hm => by
      obtain ⟨_, o', e', isno⟩ := ff.mem hm
      rw [ea] at e'; cases e'
      exact isno _ dd
    have out := apart fly3.2.2.1 at3 dat3
    have neL : a ≠ X.env.locals := fun z => out (List.mem_filterMap.mpr ⟨X.env, List.mem_cons_self, by rw [frm, z]⟩)
    have neF : a ∉ X.fs := fun hm => by
      obtain ⟨ev, hev, qv⟩ := List.mem_filterMap.mp hm
      exact out (List.mem_filterMap.mpr ⟨ev, List.mem_cons_of_mem _ hev, qv⟩)
    have S3 := J3.suite at3 dat3 na neL neF
    have along : ∀ {hs : List ExceptHandler} {ks : List Cl}, Hx X hs ks → wHx X.K Wo D ks cl d σ' H' → wpAny (model X.prog X.w) X.A (handleBy (.ref a) X.env hs) (SP X pins D) X.xe { z' with heap := h3 } := by
      intro hs ks hk
      induction hk with
      | nil =>
        intro w
        refine wpAny_handleBy_nil ?_
        obtain ⟨f1, f2, f3, o, vs, T, oT, ts', at0, zc, dt, i1, rest⟩ := id fly3
        unfold PySem.passOn
        refine wpAny_bind (wpAny_field at0 dt i1 ?_)
        rw [if_neg (show ¬ ((Value.ref T == Value.none) = true) from by simp)]
        have goes : wpAny (model X.prog X.w) X.A (setFlight (.ref a) X.env.frame) (fun _ z4 => wpAny (model X.prog X.w) X.A (throw (.ref a) : Sem Flow) (SP X pins D) X.xe z4) X.xe { z' with heap := h3 } := by
          rw [frm]
          refine HandSPX.setFlight_upZ fly3 fun h4 held4 up4 => wpAny_throw (tk _ _ ?_)
          exact ⟨a, B, zI, pins, σ', H', cl, d, rfl, J, nb, (up.trans up3).trans up4, .inr (.inr (by rw [stk]; exact held4)), na, osE, ag, w⟩
        first
          | exact wpAny_bind (wpAny_pure (wpAny_bind goes))
          | exact wpAny_bind goes
      | @cons x n k b₀ suite np pos' hds2 l2 hc hn hsu r ih =>
        intro w
        obtain ⟨b, said, yes, no⟩ := w
        refine wpAny_handleBy_cons (codeAny_handlers_test ?_) (by intro q; cases q)
        have look1 : PySem.W.Looks (model X.prog X.w) h3 (typeOf (.ref a)) cl := fun A Q E s kp q => wpAny_typeOf_ref (kp _ _ at3) (by rw [zc3.1]; exact q)
        have look2 := PySem.W.exm_one (M := model X.prog X.w) (J3.kIn) look1 said
        have named : ∀ {Q : Value → Shared → Prop} {E : Value → Shared → Prop}, Q k.c { z' with heap := h3 } → wpAny (model X.prog X.w) (X.A.mark (some (.ref a))) (eval (.Name x np) X.env) Q E { z' with heap := h3 } := fun {Q E} q => by
          obtain ⟨glob, dbg, have1 | ⟨have1, have2, have3⟩⟩ := hc
          · exact ld_glob (X := X.suite a ((a, o3) :: (X.pn ++ pins))) S3 glob have1 q dbg
          · exact ld_blt (X := X.suite a ((a, o3) :: (X.pn ++ pins))) S3 glob have1 have2 q have3 dbg
        refine named (look2.here ?_)
        cases b with
        | false =>
          show wpAny _ X.A (handleBy (.ref a) X.env hds2) _ _ _
          exact ih (no rfl)
        | true =>
          have yes1 := yes rfl a na
          obtain ⟨kc, kn, kt⟩ := k
          cases n with
          | none =>
            cases kn with
            | some i => exact hn.elim
            | none =>
              refine codeAny_handlers_suite ?_
              refine HandSPX.lands_againZ fly3 fun h4 fly4 up4 => ?_
              have J4 : Inv X pins σ' H' { z' with heap := h4 } := J.landed nb fly4.1 ((up.trans up3).trans up4) osE ag
              obtain ⟨o4, v4, at4, zc4, dat4⟩ := fly4.there
              have S4 := J4.suite at4 dat4 na neL neF
              refine wpAny_mono ((hsu a o4 cl d (X.pn ++ pins) zc4 ⟨_, dat4⟩).run [] _ _ H' _ S4 yes1) (fun fl z6 sp => ?_) (fun _ _ z => False.elim z)
              cases fl with
              | next => obtain ⟨σ6, H6, S6, q6⟩ := sp; exact ⟨_, _, S6.unsuite ok0, q6⟩
              | brk => obtain ⟨σ6, H6, S6, q6⟩ := sp; exact ⟨_, _, S6.unsuite ok0, q6⟩
              | cont => obtain ⟨σ6, H6, S6, q6⟩ := sp; exact ⟨_, _, S6.unsuite ok0, q6⟩
              | ret u => obtain ⟨v6, σ6, H6, S6, r6, q6⟩ := sp; exact ⟨_, _, _, S6.unsuite ok0, r6, q6⟩
          | some n =>
            cases kn with
            | none => exact hn.elim
            | some i =>
              obtain ⟨hi, hl⟩ := hn
              refine codeAny_handlers_suite_as ?_
              refine HandSPX.lands_againZ fly3 fun h4 fly4 up4 => ?_
              have J4 : Inv X pins σ' H' { z' with heap := h4 } := J.landed nb fly4.1 ((up.trans up3).trans up4) osE ag
              obtain ⟨o4, v4, at4, zc4, dat4⟩ := fly4.there
              have S4 := J4.suite at4 dat4 na neL neF
              refine store_ok (X := X.suite a ((a, o4) :: (X.pn ++ pins))) (v := .ref a) S4 nd hi (.inl hl) rfl (fun z5 S5 => ?_) (.inr hl)
              refine wpAny_mono ((hsu a o4 cl d (X.pn ++ pins) zc4 ⟨_, dat4⟩).run [] z5 _ H' _ S5 yes1) (fun fl z6 sp => ?_) (fun _ _ z => False.elim z)
              have off : ∀ {σ6 : L2.St} {H6 : Hp} {Q : Shared → Prop}, Inv (X.suite a ((a, o4) :: (X.pn ++ pins))) [] σ6 H6 z6 → (∀ z7, Inv X pins (σ6.set i none) H6 z7 → Q z7) →
                  wpAny (model X.prog X.w) X.A (do bindName X.env n .none; unbindBehindTheSuite X.env n pos') (fun _ z7 => Q z7) X.xe z6 := fun {σ6 H6 Q} S6 hq => gone_ok (S6.unsuite ok0) nd hi hl hq
              cases fl with
              | next => obtain ⟨σ6, H6, S6, q6⟩ := sp; exact off S6 fun z7 J7 => ⟨_, _, J7, q6⟩
              | brk => obtain ⟨σ6, H6, S6, q6⟩ := sp; exact off S6 fun z7 J7 => ⟨_, _, J7, q6⟩
              | cont => obtain ⟨σ6, H6, S6, q6⟩ := sp; exact off S6 fun z7 J7 => ⟨_, _, J7, q6⟩
              | ret u => obtain ⟨v6, σ6, H6, S6, r6, q6⟩ := sp; exact off S6 fun z7 J7 => ⟨_, _, _, J7, r6, q6⟩
    exact along cls_ w
  · cases fl with
    | next => obtain ⟨σ2, H2, J2, q⟩ := hsp; exact wpAny_execs_nil ⟨σ2, H2, J2.ofTry ok0, q⟩
    | brk => obtain ⟨σ2, H2, J2, q⟩ := hsp; exact ⟨σ2, H2, J2.ofTry ok0, q⟩
    | cont => obtain ⟨σ2, H2, J2, q⟩ := hsp; exact ⟨σ2, H2, J2.ofTry ok0, q⟩
    | ret u => obtain ⟨v, σ2, H2, J2, r, q⟩ := hsp; exact ⟨v, σ2, H2, J2.ofTry ok0, r, q⟩
end
end DX

/-! Expressions over data, one construct a lemma. -/
namespace DL
open PySem PySem.Spec L2
set_option autoImplicit false

/-! ### what an expression's form settles -/
def plainE : Expr → Bool
  | .Starred .. => false
  | .Set .. => false
  | .Slice .. => false
  | _ => true
theorem star_cons {e : Expr} (h : plainE e = true) (es : List Expr) (env : PySem.Env) : starEach (e :: es) env = (false, eval e env) :: starEach es env := by
  cases e <;> first | rfl | (simp [plainE] at h)
theorem nobeh {e : Expr} (h : plainE e = true) (o : CmpOp) : behindInMarks o e = false := by
  cases e <;> first | rfl | (simp [plainE] at h)
theorem plainix {e : Expr} (h : plainE e = true) : PlainIx e := by
  intro o i
  cases e <;> first | rfl | (simp [plainE] at h)
theorem plains (env : PySem.Env) (pos : Pos) : ∀ es : List Expr, es.all plainE = true → (backTo pos (starEach es env)).any (·.1) = false
  | [], _ => rfl
  | e :: es, h => by
    rw [List.all_cons, Bool.and_eq_true] at h
    rw [star_cons h.1]
    show (false || (backTo pos (starEach es env)).any (·.1)) = false
    rw [plains env pos es h.2]
    rfl
theorem foldset {e : Expr} (h : plainE e = true) (env : PySem.Env) (x : Value) : foldedSetIterable e env x = pure x := by
  cases e <;> first | rfl | (simp [plainE] at h)
/-- no test of its own form -/
def valE : Expr → Bool
  | .UnaryOp .Not _ _ => false
  | .BoolOp .. => false
  | .IfExp .. => false
  | .Compare .. => false
  | _ => true
theorem istrue {e : Expr} (h : valE e = true) (env : PySem.Env) : ∀ whole, isTrue e env whole = (do let v ← whole; standAt e.pos; holding [v] (truthy v)) := by
  intro wh
  cases e with
  | UnaryOp o a p => cases o <;> first | rfl | (simp [valE] at h)
  | _ => first | rfl | (simp [valE] at h)
/-! ### the context -/
/-- a def of the text: of a class, or of the module -/
structure Fe where
  cls : Option Nat
  name : Str
  deriving DecidableEq
/-- names by their numbers -/
structure Tb where
  fns : List Fe
  cons : List (Option Str)
  cls : List Str
  free : List Str
  flds : List Str
  props : List (Str × Nat)
  tups : List Str := []
  xcs : List (Option Str) := []
  xs0 : List (Nat × Str) := []
  xs1 : List (Nat × Str × List Str) := []
  xfs : List (Nat × Str) := []
/-- the constant v is a tuple of the module -/
def TupK (G : Gx) (v : V) : Prop := ∃ a o, v = .ref a ∧ G.K.lookup a = some o ∧ o.cls = .type "tuple" ∧ o.dict = none
/-- the class at C, whose __init__ keeps its parameters as fields -/
def XmOk (K : PySem.W.Frag) (P : Program) (C : Addr) (fs : List Str) : Prop := ∃ (fI : Addr) (name qual : Str) (params : Arguments) (scope : Scope) (tx : DX.XTx) (ft : List DX.FTx), DX.XmF K P C fI name qual params scope tx ft ∧ ft.map DX.FTx.f = fs ∧
  ((∃ f, ft = [f] ∧ f.f ≠ "self") ∨ ∃ f f2, ft = [f, f2] ∧ f.f ≠ "self" ∧ f2.f ≠ "self" ∧ f2.f ≠ f.f)
/-- what a def promises, by m -/
def spU (G : Gx) (m : List U → Store → M U) : Sp := fun vs H Q E => ∃ F r S us, Rp G F r S H ∧ Paired (IsU G F r) vs us ∧ Post G (fun c d _ H' => E c d H') [] (IsU G) F r (m us S) Q
/-- the world around a body: its callees keep their promises at level j -/
structure Wd (G : Gx) (Γ : Ev) (tb : Tb) (P : Program) (mg : Str → Option Value) (base : Heap) (j : Nat) : Prop where
  fn : ∀ (f : Nat) (x : Str), tb.fns[f]? = some ⟨none, x⟩ → ∃ a fd ps, mg x = some (.ref a) ∧ PySem.W.keepIn G.K (.ref a) = true ∧ Binds G.K fd ps [] ∧ FnOk P G.w G.K mg base (L2.CX P G.w) j a fd ps (spU G (Γ.fn f))
  mt : ∀ (f c : Nat) (x : Str), tb.fns[f]? = some ⟨some c, x⟩ → c < tb.cls.length → ∃ a fd ps, PySem.W.findIn G.K (.ref (G.cd c)) x = some (some (.ref a)) ∧ PySem.W.isFn G.K (.ref a) = true ∧ PySem.W.keepIn G.K (.ref a) = true ∧ Binds G.K fd ps [] ∧ FnOk P G.w G.K mg base (L2.CX P G.w) j a fd ps (spU G (Γ.fn f))
  pr : ∀ (x : Str) (f : Nat), (x, f) ∈ tb.props → ∃ p a fd ps, PropOf G.K (G.cd 0) x p a ∧ Binds G.K fd ps [] ∧ FnOk P G.w G.K mg base (L2.CX P G.w) j a fd ps (spU G (Γ.fn f))
  cl : ∀ (c : Nat) (x : Str), tb.cls[c]? = some x → mg x = some (.ref (G.cd c)) ∧ Cls G.K (G.cd c) ∧ PySem.W.makesIn G.K (G.cd c) = true ∧ PySem.W.keepIn G.K (.ref (G.cd c)) = true
  nc : Γ.nc = tb.cls.length
  con : ∀ (k : Nat) (x : Str), tb.cons[k]? = some (some x) → ∃ u v, mg x = some u ∧ RelV v u ∧ ∀ F, Is G F v (Γ.con k)
  fr : ∀ x ∈ tb.free, mg x = none
  noat : ∀ c < tb.cls.length, ∀ x ∈ tb.flds, NoAttr G.K (G.cd c) x
  drv : 0 < tb.cls.length → DrvOk G
  tk : ∀ x ∈ tb.tups, ∀ u v, mg x = some u → RelV v u → TupK G v
  xc : ∀ (k : Nat) (x : Str), tb.xcs[k]? = some (some x) → mg x = some (.ref (G.xc k)) ∧ ∀ n < 8, PySem.W.exmOne G.K (.ref (G.xc n)) (.ref (G.xc k)) = some (decide (n = k))
  x0 : ∀ (k : Nat) (x : Str), (k, x) ∈ tb.xs0 → mg x = some (.ref (G.xc k)) ∧ PySem.W.excIn G.K (G.xc k) He.veBase "ValueError.__new__" = true ∧ PySem.W.keepIn G.K (.ref (G.xc k)) = true ∧ PySem.W.subIn G.K (.ref (G.xc k)) (.type "BaseException") = some true ∧ PySem.W.typeIn G.K (.ref (G.xc k)) = some (.type "type")
  x1 : ∀ (k : Nat) (x : Str) (fs : List Str), (k, x, fs) ∈ tb.xs1 → mg x = some (.ref (G.xc k)) ∧ mg "super" = none ∧ XmOk G.K P (G.xc k) fs
  xf : ∀ (k : Nat) (f : Str), (k, f) ∈ tb.xfs → XfC G.K (G.xc k) ∧ PySem.W.findIn G.K (.ref (G.xc k)) f = some none
/-- what is known of a place in the text -/
structure Sc where
  N : List Str
  sc : Scope
  top : Bool
structure Ct (G : Gx) (Γ : Ev) (tb : Tb) (c : Sc) (X : Cx) (W : WX) (j : Nat) : Prop where
  K : X.K = G.K
  w : X.w = G.w
  N : X.N = c.N
  sc : X.env.scope = c.sc
  nd : X.N.Nodup
  calm : X.calm = true
  tk : Takes X W
  top : c.top = true → ∀ x, X.fn x = true
  room : Room (j + 1) X.A
  wd : Wd G Γ tb X.prog X.mg X.base j
section
variable {G : Gx} {Γ : Ev} {tb : Tb} {c : Sc} {X : Cx} {W : WX} {j : Nat}
theorem Ct.un (C : Ct G Γ tb c X W j) : X.A.units + 65 < cLine := by have := C.room.un; omega
theorem Ct.nox (C : Ct G Γ tb c X W j) : Ct G Γ tb c X.nox (fun _ _ _ _ => False) j :=
  ⟨C.K, C.w, C.N, C.sc, C.nd, C.calm, takes0, C.top, C.room, C.wd⟩

def isVisB (c : Sc) (i : Nat) (x : Str) : Bool := decide (c.N[i]? = some x) && (match c.sc.names.lookup x with
  | some .local => true | some .cell => true | some .free => true | _ => false) && !(x == ("__debug__" : Str)) && !(x == ("__classdict__" : Str))
def isLocB (c : Sc) (i : Nat) (x : Str) : Bool := decide (c.N[i]? = some x) && (match c.sc.names.lookup x with
  | some .local => true | some .cell => c.top | _ => false)
def isGlB (c : Sc) (x : Str) : Bool := decide (c.sc.names.lookup x = some .globalImplicit) && !(x == ("__debug__" : Str))
theorem gl_of (C : Ct G Γ tb c X W j) {x : Str} (h : isGlB c x = true) : Gl X x ∧ (x == ("__debug__" : Str)) = false := by
  unfold isGlB at h
  simp only [Bool.and_eq_true, decide_eq_true_eq, Bool.not_eq_true'] at h
  refine ⟨?_, h.2⟩
  show X.env.scope.names.lookup x = _
  rw [C.sc]; exact h.1

/-! ### constants, names -/
variable {pos : Pos}
theorem de_int {i : Int} {k : Nat} : PE X (.Constant (.int i) k pos) (rdE G Γ W (.int i)) := pe_imp pe_int fun σ H Q ⟨F, r, S, e, R, L, p⟩ => Post.done p .refl R (.d (.int i))
theorem de_str {i : Str} {k : Nat} : PE X (.Constant (.str i) k pos) (rdE G Γ W (.str i)) := pe_imp pe_str fun σ H Q ⟨F, r, S, e, R, L, p⟩ => Post.done p .refl R (.d (.str i))
theorem de_bl {i : Bool} {k : Nat} : PE X (.Constant (.bool i) k pos) (rdE G Γ W (.bl i)) := pe_imp pe_bl fun σ H Q ⟨F, r, S, e, R, L, p⟩ => Post.done p .refl R (.d (.bl i))
theorem de_non {k : Nat} : PE X (.Constant .none k pos) (rdE G Γ W .non) := pe_imp pe_non fun σ H Q ⟨F, r, S, e, R, L, p⟩ => Post.done p .refl R (.d .non)
theorem de_var (C : Ct G Γ tb c X W j) {i : Nat} {x : Str} (h : isVisB c i x = true) : PE X (.Name x pos) (rdE G Γ W (.var i)) := by
  unfold isVisB at h
  simp only [Bool.and_eq_true, decide_eq_true_eq, Bool.not_eq_true'] at h
  obtain ⟨⟨⟨h1, h2⟩, h3⟩, h4⟩ := h
  refine pe_imp (pe_var (i := i) (by rw [C.N]; exact h1) ?_ h3 h4) fun σ H Q ⟨F, r, S, e, R, L, p⟩ => ?_
  · unfold Vis
    rw [C.sc]
    split at h2
    · rename_i q; exact .inl q
    · rename_i q; exact .inr (.inl q)
    · rename_i q; exact .inr (.inr q)
    · cases h2
  · unfold evE at p
    split at p
    · rename_i u hu
      obtain ⟨v, a, b⟩ := L.at_ i u hu
      exact ⟨v, a, Post.done p .refl R b⟩
    · exact p.elim
theorem de_con (C : Ct G Γ tb c X W j) {k : Nat} {x : Str} (h : isGlB c x = true) (hk : tb.cons[k]? = some (some x)) : PE X (.Name x pos) (rdE G Γ W (.con k)) := by
  obtain ⟨g1, g2⟩ := gl_of C h
  obtain ⟨u, v, a, b, d⟩ := C.wd.con k x hk
  exact pe_imp (pe_glob g1 a b g2) fun σ H Q ⟨F, r, S, e, R, L, p⟩ => Post.done p .refl R (.d (d F))

/-! ### operators -/
/-- tuple * n that gives the tuple itself -/
theorem tuple_mulSame (l : Addr) (items : Array Value) (n : Nat) (dd : Option Addr) (sl : Array (Option Value)) (x : Int) (u : Tok) (c0 : (decide (x < -(2 ^ 63)) || decide (x ≥ 2 ^ 63)) = false) (c1 : (items.isEmpty || x == 1) = true) :
    Meets (Builtin.«tuple.__mul__» ⟨[.ref l, .int x u], []⟩) (fun _ R s => s.heap.get? l = some { cls := .type "tuple", dict := dd, data := .seq items n, slots := sl } ∧
      R (.ok (.ret (Value.ref l))) s) :=
  .of_wp fun prog w A R s h => by
    obtain ⟨hp, g, d, tk, os⟩ := s
    obtain ⟨hl, h⟩ := h
    have f1 := AutoSeq1.idx_int
    wp_walk using wpAny_loadPart' hl
    repeat (first
      | (refine wpAny_ite_false (decide_eq_false (by rw [c0]; exact Bool.false_ne_true)) ?_; wp_walk using wpAny_loadPart' hl)
      | (refine wpAny_ite_true (decide_eq_true c1) ?_; wp_walk using wpAny_loadPart' hl))
    exact ⟨_, rfl, h⟩
def rRepT1 (K : PySem.W.Frag) : R2 := fun x y H Q => ∃ l k xs, x = .ref l ∧ y = .int k ∧ SqT K H l xs ∧ (xs = [] ∨ k = 1) ∧ -1000000 ≤ k ∧ k ≤ 1000000 ∧ Q (.ref l) H
section
variable {X : Cx} {G : Gx}
theorem op_repT1 : OpR X (binaryOp .Mult) (rRepT1 X.K) := by
  intro pins s σ H x y v u Q I rx ry h
  obtain ⟨l, k, xs, rfl, rfl, hT, h1, h2, h3, q⟩ := h
  cases rx
  obtain ⟨t, rfl⟩ := ry
  obtain ⟨its, r, ⟨⟨cls, dd, data, sl⟩, ho, hc, n, hd⟩, hs⟩ := I.tuple hT
  simp only at hc hd
  subst hc hd
  have hle : its.length = xs.length := r.length.symm
  have c0 : (decide (k < -(2 ^ 63)) || decide (k ≥ 2 ^ 63)) = false := by
    rw [decide_eq_false (by omega), decide_eq_false (by omega)] <;> rfl
  have c1 : (its.toArray.isEmpty || k == 1) = true := by
    rcases h1 with h1 | h1
    · subst h1
      have : its = [] := List.eq_nil_of_length_eq_zero hle
      subst this
      rfl
    · subst h1
      simp
  refine wpAny_binaryOp_repeat_ref (T := "tuple") (U := "int") (by decide) ⟨_, ho, rfl⟩ (fun s' => typeIs_int s' k t) noFill_tuple_mul F.fills_int_mul F.slot_int_rmul repeat_tuple F.slot_int_index.lookup
    (call_meets F.slot_int_rmul (typeIs_int s k t) F.entry_int_rmul (F.args_int_rmul_2 _ _) (int_rmul_tuple k t l its.toArray n dd sl)
      ⟨ho, rfl, ⟨_, ho, rfl⟩, call_meets F.slot_tuple_mul ⟨_, ho, rfl⟩ F.entry_tuple_mul (F.args_tuple_mul_2 _ _) (tuple_mulSame l its.toArray n dd sl k t c0 c1) ⟨ho, ?_⟩⟩)
  exact ⟨.ref l, H, I, rfl, q⟩
theorem str_flat (z : Str) : ∀ k : Nat, (List.replicate k z.cps).foldl (· ++ ·) #[] = ((List.replicate k z.cps.toList).flatten).toArray := by
  have h : ∀ (k : Nat) (acc : Array Nat), (List.replicate k z.cps).foldl (· ++ ·) acc = (acc.toList ++ (List.replicate k z.cps.toList).flatten).toArray := by
    intro k
    induction k with
    | zero => intro acc; simp
    | succ k ih =>
      intro acc
      rw [List.replicate_succ, List.foldl_cons, ih, List.replicate_succ, List.flatten_cons]
      simp
  intro k
  rw [h k #[]]
  simp
theorem op_mulStr : OpR X (binaryOp .Mult) (fun x y H Q => ∃ (z : Str) (k : Int), x = .str z ∧ y = .int k ∧ 1 ≤ k ∧ k ≤ 1000 ∧ z.length ≤ 1000 ∧ Q (.str ⟨(repl z.cps.toList k).toArray⟩) H) := by
  intro pins s σ H x y v u Q I rx ry h
  obtain ⟨z, k, rfl, rfl, h1, h2, h3, q⟩ := h
  obtain ⟨t, rfl⟩ := rx
  obtain ⟨t2, rfl⟩ := ry
  have lm : z.length * k.toNat ≤ 1000000 := by
    have a1 : z.length * k.toNat ≤ 1000 * 1000 := Nat.mul_le_mul h3 (by omega)
    omega
  have ho : ∀ w : Str, w = ⟨(repl z.cps.toList k).toArray⟩ → Q (.str w) H := fun w e => by rw [e]; exact q
  refine PySem.P.mul_str (by rw [decide_eq_false (by omega), decide_eq_false (by omega)] <;> rfl) (fun _ _ => ?_) (fun _ _ => ?_) ?_
  · have d1 : (2 ^ 63 - 1) / (1000 : Int) ≤ (2 ^ 63 - 1) / k := by
      refine Int.le_ediv_of_mul_le (by omega) ?_
      have : (2 ^ 63 - 1 : Int) / 1000 * k ≤ (2 ^ 63 - 1 : Int) / 1000 * 1000 := Int.mul_le_mul_of_nonneg_left h2 (by decide)
      refine Int.le_trans this (by decide)
    have d2 : (1000 : Int) ≤ (2 ^ 63 - 1) / (1000 : Int) := by decide
    omega
  · unfold Builtin.Str.tooLong
    rw [sizeLine_eq]
    exact decide_eq_false (by omega)
  · rw [if_neg (by omega)]
    by_cases hk : (k == 1 || z.length == 0) = true
    · rw [if_pos hk]
      refine ⟨.str z, H, I, ⟨t, rfl⟩, ho z ?_⟩
      rw [Bool.or_eq_true] at hk
      rcases hk with hk | hk
      · have : k = 1 := by simpa using hk
        subst this
        unfold repl
        simp
      · have : z.cps.toList = [] := by
          have : z.cps.size = 0 := by simpa [Str.length] using hk
          exact List.eq_nil_of_length_eq_zero (by simpa using this)
        unfold repl
        rw [this]
        have e : z.cps = #[] := Array.toList_inj.mp this
        have f : (List.replicate k.toNat ([] : List Nat)).flatten = [] := by simp
        rw [f]
        cases z
        simp only at e
        rw [e]
    · rw [if_neg hk]
      have e := str_flat z k.toNat
      refine ⟨?_, .str _, H, I.tok _, ⟨_, rfl⟩, ho _ (by unfold repl; rw [e])⟩
      rw [e, sizeLine_eq]
      show (List.toArray _).size ≤ 16777216
      rw [List.size_toArray, PyProof.Rows.lm_len_rep_flat]
      have : z.cps.toList.length = z.length := by simp [Str.length]
      rw [this, Nat.mul_comm]
      omega
end
theorem or_mul (hK : X.K = G.K) : OpR X (binaryOp .Mult) (rD2 G (bopD .mul)) := by
  refine opr_imp (OpR.or (OpR.or op_mul (OpR.or op_rep op_repT)) (OpR.or op_repT1 op_mulStr)) fun x y H Q h => ?_
  obtain ⟨F, r, S, d1, d2, d, R, h1, h2, hg, q⟩ := h
  unfold bopD at hg
  split at hg
  all_goals first | contradiction | skip
  · split at hg
    · rename_i hl
      cases hg; cases h1; cases h2
      refine .inl (.inl ⟨_, _, rfl, rfl, ?_, q F _ H (Same.refl F) R (.int _)⟩)
      rw [Bool.or_eq_true] at hl
      rcases hl with hl | hl
      · exact .inl (small64_of hl)
      · exact .inr (small64_of hl)
    · cases hg
  · split at hg
    · rename_i l k _ hl
      obtain ⟨hne, k0, k1, k2⟩ := hl
      cases hg; cases h2
      obtain ⟨a, xs, rfl, ha, t⟩ := rp_tups R h1
      refine .inl (.inr (.inr ⟨a, k, xs, rfl, rfl, by rw [hK]; exact ha, ?_, k0, k1, by rw [t.length]; exact k2, fun p hp => ?_⟩))
      · intro e
        subst e
        cases t
        exact hne rfl
      · obtain ⟨R1, s1, i1⟩ := new_tup R hp (t.flat k.toNat)
        exact q _ _ _ s1 R1 i1
    · split at hg
      · rename_i l k _ _ hl
        obtain ⟨h3, k0, k1⟩ := hl
        cases hg; cases h2
        obtain ⟨a, xs, rfl, ha, t⟩ := rp_tups R h1
        refine .inr (.inl ⟨a, k, xs, rfl, rfl, by rw [hK]; exact ha, h3.imp (fun e => ?_) id, k0, k1, q F _ H (Same.refl F) R h1⟩)
        subst e
        cases t
        rfl
      · cases hg
  · split at hg
    · rename_i z k _ hl
      obtain ⟨k0, k1, k2⟩ := hl
      cases hg; cases h1; cases h2
      exact .inr (.inr ⟨z, k, rfl, rfl, k0, k1, k2, q F _ H (Same.refl F) R (.str _)⟩)
    · cases hg
  · split at hg
    · rename_i l k _ hl
      obtain ⟨k0, k1, k2⟩ := hl
      cases hg; cases h2
      obtain ⟨a, xs, rfl, ha, t⟩ := rp_lists R h1
      refine .inl (.inr (.inl ⟨a, k, xs, rfl, rfl, ha, by omega, by omega, ?_, fun p hp => ?_⟩))
      · rw [t.length, sizeLine_eq]
        have hk : k.toNat ≤ 1000 := by omega
        have := Nat.mul_le_mul k2 hk
        omega
      · obtain ⟨R1, s1, i1⟩ := new_lst R hp (t.flat k.toNat)
        exact q _ _ _ s1 R1 i1
    · cases hg
def opB : Bop → Operator
  | .add => .Add | .sub => .Sub | .mul => .Mult | .fdiv => .FloorDiv | .mod => .Mod | .pow => .Pow
theorem or_bop (hK : X.K = G.K) : ∀ o : Bop, OpR X (binaryOp (opB o)) (rD2 G (bopD o))
  | .add => or_add hK
  | .sub => or_sub
  | .mul => or_mul hK
  | .fdiv => or_fdiv
  | .mod => or_mod
  | .pow => or_pow
theorem de_bop (C : Ct G Γ tb c X W j) {a b : E} {ea eb : Expr} {o : Bop} (ha : PE X ea (rdE G Γ W a)) (hb : PE X eb (rdE G Γ W b)) : PE X (.BinOp ea (opB o) eb pos) (rdE G Γ W (.bop o a b)) :=
  pe_imp (pe_op (or_bop C.K o) ha hb) fun σ H Q ⟨F, r, S, e, R, L, p⟩ => two R L (by unfold evE at p; exact p)
theorem de_neg {a : E} {ea : Expr} (ha : PE X ea (rdE G Γ W a)) : PE X (.UnaryOp .USub ea pos) (rdE G Γ W (.neg a)) :=
  pe_imp (pe_un un_neg ha) fun σ H Q ⟨F, r, S, e, R, L, p⟩ => by unfold evE at p; exact ⟨F, r, S, e, R, L, Post.imp (Post.bnD p) fun x H1 ⟨F1, r1, S1, d1, e1, R1, q1, p1⟩ => by
    cases d1 <;> first | exact p1.elim | skip
    cases q1
    exact ⟨_, rfl, Post.done p1 .refl R1 (.d (.int _))⟩⟩
theorem de_cmp (C : Ct G Γ tb c X W j) {a b : E} {ea eb : Expr} {o : Cop} (ha : PE X ea (rdE G Γ W a)) (hb : PE X eb (rdE G Γ W b)) (hp : plainE eb = true) : PE X (.Compare ea [opC o] [eb] pos) (rdE G Γ W (.cmp o a b)) :=
  pe_imp (pe_cmpR (or_cmp C.K C.w (by have := C.un; omega) o) ha hb (nobeh hp _)) fun σ H Q ⟨F, r, S, e, R, L, p⟩ => two R L (by unfold evE at p; exact p)
theorem dt_cmp (C : Ct G Γ tb c X W j) {a b : E} {ea eb : Expr} {o : Cop} (ha : PE X ea (rdE G Γ W a)) (hb : PE X eb (rdE G Γ W b)) (hp : plainE eb = true) : PT X (.Compare ea [opC o] [eb] pos) (rdT G Γ W (.cmp o a b)) :=
  pt_imp (pt_cmpR (or_cmp C.K C.w (by have := C.un; omega) o) ha hb (nobeh hp _)) fun σ H Q ⟨F, r, S, e, R, L, p⟩ => by
    unfold evT at p
    refine ⟨F, r, S, e, R, L, Post.imp (Post.bnD p) fun x H1 ⟨F1, r1, S1, d1, e1, R1, q1, p1⟩ => ?_⟩
    refine ⟨F1, r1, S1, e, R1, L.mono e1, Post.imp (Post.bnD p1) fun y H2 ⟨F2, r2, S2, d2, e2, R2, q2, p2⟩ => ?_⟩
    cases q : cmpD o d1 d2 with
    | none => rw [q] at p2; exact p2.elim
    | some k =>
      rw [q] at p2
      refine ⟨F2, r2, S2, d1, d2, .bl k, R2, q1.mono e2.sub, q2, by simp only [q]; rfl, fun F' v H' s' R' i => ?_⟩
      cases i
      exact ⟨k, rfl, Post.done p2 (.cells s') R' rfl⟩
theorem de_chain (C : Ct G Γ tb c X W j) {a b d : E} {ea eb ed : Expr} {o o' : Cop} (ha : PE X ea (rdE G Γ W a)) (hb : PE X eb (rdE G Γ W b)) (hd : PE X ed (rdE G Γ W d)) (hp : plainE ed = true) :
    PE X (.Compare ea [opC o, opC o'] [eb, ed] pos) (rdE G Γ W (.chain o o' a b d)) := by
  have hu : X.A.units + 64 < cLine := by have := C.un; omega
  refine pe_imp (pe_chain (or_cmp C.K C.w hu o) (or_cmp C.K C.w hu o') ha hb hd (by show behindInMarks (opC o') ed = false; exact nobeh hp _)) fun σ H Q ⟨F, r, S, e, R, L, p⟩ => ?_
  unfold evE at p
  refine ⟨F, r, S, e, R, L, Post.imp (Post.bnD p) fun x H1 ⟨F1, r1, S1, d1, e1, R1, q1, p1⟩ => ?_⟩
  refine ⟨F1, r1, S1, e, R1, L.mono e1, Post.imp (Post.bnD p1) fun y H2 ⟨F2, r2, S2, d2, e2, R2, q2, p2⟩ => ?_⟩
  cases q : cmpD o d1 d2 with
  | none => rw [q] at p2; exact p2.elim
  | some k =>
    rw [q] at p2
    refine ⟨F2, r2, S2, d1, d2, .bl k, R2, q1.mono e2.sub, q2, by simp only [q]; rfl, fun F' v H' s' R' i => ?_⟩
    cases i
    refine ⟨k, rfl, ?_⟩
    cases k with
    | false => exact iteF (Post.done p2 (.cells s') R' (.d (.bl false)))
    | true =>
      refine iteT ⟨F', r2, S2, e, R', (L.mono e1).mono (e2.trans (.cells s')), Post.imp (Post.bnD (p2.mono (.cells s'))) fun z H3 ⟨F3, r3, S3, d3, e3, R3, q3, p3⟩ => ?_⟩
      obtain ⟨dd, h1, h2⟩ := Post.giv p3
      exact ⟨F3, r3, S3, d2, d3, dd, R3, (q2.mono s').mono e3.sub, q3, h1, h2⟩
theorem de_not {a : E} {ea : Expr} (ha : PE X ea (rdE G Γ W a)) : PE X (.UnaryOp .Not ea pos) (rdE G Γ W (.not a)) :=
  pe_imp (pe_not ha) fun σ H Q ⟨F, r, S, e, R, L, p⟩ => by unfold evE at p; exact ⟨F, r, S, e, R, L, Post.imp (Post.bnD p) fun x H1 ⟨F1, r1, S1, d1, e1, R1, q1, p1⟩ => by
    cases d1 <;> first | exact p1.elim | skip
    cases q1
    exact ⟨_, rfl, Post.done p1 .refl R1 (.d (.bl _))⟩⟩
theorem de_and {a b : E} {ea eb : Expr} {rest : List Expr} (ha : PE X ea (rdE G Γ W a)) (hb : PE X (.BoolOp .And (eb :: rest) pos) (rdE G Γ W b)) : PE X (.BoolOp .And (ea :: eb :: rest) pos) (rdE G Γ W (.and a b)) :=
  pe_imp (pe_and ha hb) fun σ H Q ⟨F, r, S, e, R, L, p⟩ => by unfold evE at p; exact ⟨F, r, S, e, R, L, Post.imp (Post.bnD p) fun x H1 ⟨F1, r1, S1, d1, e1, R1, q1, p1⟩ => by
    cases d1 <;> first | exact p1.elim | skip
    rename_i k
    cases q1
    refine ⟨k, rfl, ?_⟩
    cases k with
    | true => exact iteT ⟨F1, r1, S1, e, R1, L.mono e1, p1⟩
    | false => exact iteF (Post.done p1 .refl R1 (.d (.bl false)))⟩
theorem de_or {a b : E} {ea eb : Expr} {rest : List Expr} (ha : PE X ea (rdE G Γ W a)) (hb : PE X (.BoolOp .Or (eb :: rest) pos) (rdE G Γ W b)) : PE X (.BoolOp .Or (ea :: eb :: rest) pos) (rdE G Γ W (.or a b)) :=
  pe_imp (pe_or ha hb) fun σ H Q ⟨F, r, S, e, R, L, p⟩ => by unfold evE at p; exact ⟨F, r, S, e, R, L, Post.imp (Post.bnD p) fun x H1 ⟨F1, r1, S1, d1, e1, R1, q1, p1⟩ => by
    cases d1 <;> first | exact p1.elim | skip
    rename_i k
    cases q1
    refine ⟨k, rfl, ?_⟩
    cases k with
    | true => exact iteT (Post.done p1 .refl R1 (.d (.bl true)))
    | false => exact iteF ⟨F1, r1, S1, e, R1, L.mono e1, p1⟩⟩
theorem de_ite {t a b : E} {et ea eb : Expr} (ht : PT X et (rdT G Γ W t)) (ha : PE X ea (rdE G Γ W a)) (hb : PE X eb (rdE G Γ W b)) : PE X (.IfExp et ea eb pos) (rdE G Γ W (.ite t a b)) :=
  pe_imp (pe_ifExp ht ha hb) fun σ H Q ⟨F, r, S, e, R, L, p⟩ => by unfold evE at p; exact ⟨F, r, S, e, R, L, Post.imp (Post.bnd (Rel := fun _ _ (b : Bool) c => b = c) p) fun k H1 ⟨F1, r1, S1, k', e1, R1, q1, p1⟩ => by
    subst q1
    cases k with
    | true => exact iteT ⟨F1, r1, S1, e, R1, L.mono e1, p1⟩
    | false => exact iteF ⟨F1, r1, S1, e, R1, L.mono e1, p1⟩⟩

/-! ### tests -/
theorem dt_not {a : E} {ea : Expr} (ha : PT X ea (rdT G Γ W a)) : PT X (.UnaryOp .Not ea pos) (rdT G Γ W (.not a)) :=
  pt_imp (pt_not ha) fun σ H Q ⟨F, r, S, e, R, L, p⟩ => by unfold evT at p; exact ⟨F, r, S, e, R, L, Post.imp (Post.bnd (Rel := fun _ _ (b : Bool) c => b = c) p) fun k H1 ⟨F1, r1, S1, k', e1, R1, q1, p1⟩ => by
    subst q1
    exact Post.done p1 .refl R1 rfl⟩
theorem dt_and {a b : E} {ea eb : Expr} {rest : List Expr} (ha : PT X ea (rdT G Γ W a)) (hb : PW X (.BoolOp .And (eb :: rest) pos) (rdT G Γ W b)) : PW X (.BoolOp .And (ea :: eb :: rest) pos) (rdT G Γ W (.and a b)) :=
  pw_imp (pw_and ha hb) fun σ H Q ⟨F, r, S, e, R, L, p⟩ => by unfold evT at p; exact ⟨F, r, S, e, R, L, Post.imp (Post.bnd (Rel := fun _ _ (b : Bool) c => b = c) p) fun k H1 ⟨F1, r1, S1, k', e1, R1, q1, p1⟩ => by
    subst q1
    cases k with
    | true => exact iteT ⟨F1, r1, S1, e, R1, L.mono e1, p1⟩
    | false => exact iteF (Post.done p1 .refl R1 rfl)⟩
theorem dt_or {a b : E} {ea eb : Expr} {rest : List Expr} (ha : PT X ea (rdT G Γ W a)) (hb : PW X (.BoolOp .Or (eb :: rest) pos) (rdT G Γ W b)) : PW X (.BoolOp .Or (ea :: eb :: rest) pos) (rdT G Γ W (.or a b)) :=
  pw_imp (pw_or ha hb) fun σ H Q ⟨F, r, S, e, R, L, p⟩ => by unfold evT at p; exact ⟨F, r, S, e, R, L, Post.imp (Post.bnd (Rel := fun _ _ (b : Bool) c => b = c) p) fun k H1 ⟨F1, r1, S1, k', e1, R1, q1, p1⟩ => by
    subst q1
    cases k with
    | true => exact iteT (Post.done p1 .refl R1 rfl)
    | false => exact iteF ⟨F1, r1, S1, e, R1, L.mono e1, p1⟩⟩
/-- a test by its value, a bool -/
theorem dt_val {a : E} {ea : Expr} (ha : PE X ea (rdE G Γ W a)) (hv : valE ea = true) (he : ∀ e S, evT Γ a e S = bnD (evE Γ a e S) fun d S1 => match d with | .bl k => some (.ok k S1) | _ => none) : PT X ea (rdT G Γ W a) :=
  pt_imp (pt_val ha (istrue hv _)) fun σ H Q ⟨F, r, S, e, R, L, p⟩ => by rw [he] at p; exact ⟨F, r, S, e, R, L, Post.imp (Post.bnD p) fun x H1 ⟨F1, r1, S1, d1, e1, R1, q1, p1⟩ => by
    cases d1 <;> first | exact p1.elim | skip
    cases q1
    exact ⟨_, rfl, Post.done p1 .refl R1 rfl⟩⟩
/-- a if t else b, as a test -/
theorem dt_ite {t a b : E} {et ea eb : Expr} (ht : PT X et (rdT G Γ W t)) (ha : PT X ea (rdT G Γ W a)) (hb : PT X eb (rdT G Γ W b)) : PT X (.IfExp et ea eb pos) (rdT G Γ W (.ite t a b)) := by
  refine ⟨fun pins s σ H Q I ⟨F, r, S, e, R, L, p⟩ => ?_⟩
  show wpAny _ _ (isTrue et X.env (eval et X.env) >>= fun k => if k = true then isTrue ea X.env (eval ea X.env) else isTrue eb X.env (eval eb X.env)) _ _ _
  unfold evT at p
  refine wpAny_bind (thn (ht.run pins s σ H (fun k H1 => ∃ F1 r1 S1, Rp G F1 r1 S1 H1 ∧ Lo G F1 r1 σ e ∧ Post G W σ (fun _ _ (b : Bool) c => b = c) F1 r1 (if k = true then evT Γ a e S1 else evT Γ b e S1) Q) I
    ⟨F, r, S, e, R, L, Post.imp (Post.bnd (Rel := fun _ _ (b : Bool) c => b = c) p) fun k H1 ⟨F1, r1, S1, k', e1, R1, q1, p1⟩ => by subst q1; exact ⟨F1, r1, S1, R1, L.mono e1, p1⟩⟩) fun k s1 ⟨H1, I1, F1, r1, S1, R1, L1, p1⟩ => ?_)
  cases k with
  | true => rw [if_pos rfl] at p1; rw [if_pos rfl]; exact ha.run pins s1 σ H1 Q I1 ⟨F1, r1, S1, e, R1, L1, p1⟩
  | false => rw [if_neg Bool.false_ne_true] at p1; rw [if_neg Bool.false_ne_true]; exact hb.run pins s1 σ H1 Q I1 ⟨F1, r1, S1, e, R1, L1, p1⟩
end
end DL

/-! Expressions over data: subscripts, displays, calls. -/
namespace DL
open PySem PySem.Spec L2
set_option autoImplicit false
section
variable {G : Gx} {Γ : Ev} {tb : Tb} {c : Sc} {X : Cx} {W : WX} {j : Nat} {pos : Pos}

/-! ### subscripts -/
theorem de_ix (C : Ct G Γ tb c X W j) {a i : E} {ea ei : Expr} (ha : PE X ea (rdE G Γ W a)) (hi : PE X ei (rdE G Γ W i)) (hp : plainE ei = true) : PE X (.Subscript ea ei pos) (rdE G Γ W (.ix a i)) :=
  pe_imp (pe_ix (IxR.or (or_ix C.K C.w (by have := C.un; omega)) ix_list) ha hi (plainix hp)) fun σ H Q ⟨F, r, S, e, R, L, p⟩ => by
    unfold evE at p
    refine ⟨F, r, S, e, R, L, Post.imp (Post.bnd (Rel := IsU G) p) fun x H1 ⟨F1, r1, S1, u, e1, R1, q1, p1⟩ => ?_⟩
    refine ⟨F1, r1, S1, e, R1, L.mono e1, Post.imp (Post.bnD p1) fun y H2 ⟨F2, r2, S2, d2, e2, R2, q2, p2⟩ => ?_⟩
    cases q1 with
    | d q1 =>
      obtain ⟨d, h1, h2⟩ := Post.giv p2
      exact .inl ⟨F2, r2, S2, _, d2, d, R2, q1.mono e2.sub, q2, h1, h2⟩
    | loc q1 =>
      simp only at p2
      split at p2
      · rename_i l k hl
        cases q2
        obtain ⟨d, h1, h2⟩ := Post.giv p2
        obtain ⟨t', h3⟩ := e2.pre _ _ _ q1
        obtain ⟨xs, h4, h5⟩ := R2.list h3 hl
        obtain ⟨v, h6, h7⟩ := at_is h5 h1
        exact .inr ⟨_, xs, _, v, rfl, rfl, SqL.of h4, h6, h2 F2 v H2 (Same.refl _) R2 h7⟩
      · exact p2.elim
theorem do_nil : PO X none (rdP G Γ W .nil) := po_imp po_none fun σ H Q ⟨F, r, S, e, R, L, p⟩ => Post.done p .refl R rfl
theorem do_some {a t : E} {ea : Expr} (ha : PE X ea (rdE G Γ W a)) : PO X (some ea) (rdP G Γ W (.cons a t)) := po_imp (po_some ha) fun σ H Q ⟨F, r, S, e, R, L, p⟩ => by
  unfold evP at p
  exact ⟨F, r, S, e, R, L, Post.imp (Post.bnD p) fun x H1 ⟨F1, r1, S1, d1, e1, R1, q1, p1⟩ => by
    cases d1 <;> first | exact p1.elim | skip
    cases q1
    exact ⟨_, rfl, Post.done p1 .refl R1 rfl⟩⟩
theorem de_sl (C : Ct G Γ tb c X W j) {a lo hi : E} {ea : Expr} {el eh : Option Expr} {p2 : Pos} (ha : PE X ea (rdE G Γ W a)) (hl : PO X el (rdP G Γ W lo)) (hh : PO X eh (rdP G Γ W hi)) : PE X (.Subscript ea (.Slice el eh none p2) pos) (rdE G Γ W (.sl a lo hi)) :=
  pe_imp (pe_slice (or_sl C.K) ha hl hh) fun σ H Q ⟨F, r, S, e, R, L, p⟩ => by
    unfold evE at p
    refine ⟨F, r, S, e, R, L, Post.imp (Post.bnD p) fun x H1 ⟨F1, r1, S1, d1, e1, R1, q1, p1⟩ => ?_⟩
    refine ⟨F1, r1, S1, e, R1, L.mono e1, Post.imp (Post.bnd (Rel := fun _ _ (b : Option Int) c => b = c) p1) fun l H2 ⟨F2, r2, S2, l', e2, R2, q2, p2⟩ => ?_⟩
    refine ⟨F2, r2, S2, e, R2, (L.mono e1).mono e2, Post.imp (Post.bnd (Rel := fun _ _ (b : Option Int) c => b = c) p2) fun h H3 ⟨F3, r3, S3, h', e3, R3, q3, p3⟩ => ?_⟩
    subst q2 q3
    obtain ⟨d, h1, h2⟩ := Post.giv p3
    exact ⟨F3, r3, S3, d1, d, R3, (q1.mono e2.sub).mono e3.sub, h1, h2⟩

/-! ### argument lists -/
theorem paired_mono {F F' : Hp} {r r' : Pl} (e : Ext F F' r r') {vs : List V} {us : List U} (h : Paired (IsU G F r) vs us) : Paired (IsU G F' r') vs us := by
  induction h with
  | nil => exact .nil
  | cons h _ ih => exact .cons (h.mono e) ih
theorem da_nil : PA X [] (rdL G Γ W .nil) := pa_imp pa_nil fun σ H Q ⟨F, r, S, e, R, L, p⟩ => Post.done p .refl R .nil
theorem da_cons {a t : E} {ea : Expr} {es : List Expr} (ha : PE X ea (rdE G Γ W a)) (ht : PA X es (rdL G Γ W t)) (hp : plainE ea = true) : PA X (ea :: es) (rdL G Γ W (.cons a t)) :=
  pa_imp (pa_cons ha ht (star_cons hp _ _)) fun σ H Q ⟨F, r, S, e, R, L, p⟩ => by
    unfold evL at p
    refine ⟨F, r, S, e, R, L, Post.imp (Post.bnd (Rel := IsU G) p) fun x H1 ⟨F1, r1, S1, u, e1, R1, q1, p1⟩ => ?_⟩
    refine ⟨F1, r1, S1, e, R1, L.mono e1, Post.imp (Post.bnd (Rel := fun F r => Paired (IsU G F r)) p1) fun xs H2 ⟨F2, r2, S2, us, e2, R2, q2, p2⟩ => ?_⟩
    exact Post.done p2 .refl R2 (.cons (q1.mono e2) q2)
theorem paired_d {F : Hp} {r : Pl} : ∀ {vs : List V} {l : List D}, IsL G F vs l → Paired (IsU G F r) vs (l.map U.d)
  | _, [], .nil => .nil
  | _, x :: l, .cons h t => .cons (.d h) (paired_d t)
theorem paired_app {F : Hp} {r : Pl} : ∀ {vs ws : List V} {us ts : List U}, Paired (IsU G F r) vs us → Paired (IsU G F r) ws ts → Paired (IsU G F r) (vs ++ ws) (us ++ ts)
  | _, _, _, _, .nil, h => h
  | _, _, _, _, .cons h t, q => .cons h (paired_app t q)
theorem da_star (C : Ct G Γ tb c X W j) {a t : E} {ea : Expr} {es : List Expr} {p1 : Pos} (ha : PE X ea (rdE G Γ W a)) (ht : PA X es (rdL G Γ W t)) : PA X (.Starred ea p1 :: es) (rdL G Γ W (.star a t)) :=
  pa_imp (StX.pa_star ha ht) fun σ H Q ⟨F, r, S, e, R, L, p⟩ => by
    unfold evL at p
    refine ⟨F, r, S, e, R, L, Post.imp (Post.bnD p) fun x H1 ⟨F1, r1, S1, d1, e1, R1, q1, p1⟩ => ?_⟩
    cases d1 <;> first | exact p1.elim | skip
    · obtain ⟨a', xs, rfl, h1, h2⟩ := rp_tups R1 q1
      refine ⟨a', xs, rfl, .inl (by rw [C.K]; exact h1), F1, r1, S1, e, R1, L.mono e1, Post.imp (Post.bnd (Rel := fun F r => Paired (IsU G F r)) p1) fun ys H2 ⟨F2, r2, S2, us, e2, R2, q2, p2⟩ => ?_⟩
      exact Post.done p2 .refl R2 (paired_app (paired_d (h2.mono e2.sub)) q2)
    · obtain ⟨a', xs, rfl, h1, h2⟩ := rp_lists R1 q1
      refine ⟨a', xs, rfl, .inr (SqL.of h1), F1, r1, S1, e, R1, L.mono e1, Post.imp (Post.bnd (Rel := fun F r => Paired (IsU G F r)) p1) fun ys H2 ⟨F2, r2, S2, us, e2, R2, q2, p2⟩ => ?_⟩
      exact Post.done p2 .refl R2 (paired_app (paired_d (h2.mono e2.sub)) q2)
    · cases q1 with
      | scr h1 h2 =>
        refine ⟨_, _, rfl, .inr (by rw [C.K]; exact R1.sub.seq h1), F1, r1, S1, e, R1, L.mono e1, Post.imp (Post.bnd (Rel := fun F r => Paired (IsU G F r)) p1) fun ys H2 ⟨F2, r2, S2, us, e2, R2, q2, p2⟩ => ?_⟩
        exact Post.done p2 .refl R2 (paired_app (paired_d (h2.mono e2.sub)) q2)

/-! ### displays -/
theorem de_tup {es : E} {l : List Expr} {k : Nat} (hs : PA X l (rdL G Γ W es)) : PE X (.Tuple l k pos) (rdE G Γ W (.tup es)) :=
  pe_imp (pe_tup hs) fun σ H Q ⟨F, r, S, e, R, L, p⟩ => by
    unfold evE at p
    refine ⟨F, r, S, e, R, L, Post.imp (Post.bnd (Rel := fun F r => Paired (IsU G F r)) p) fun xs H1 ⟨F1, r1, S1, us, e1, R1, q1, p1⟩ => ?_⟩
    cases q : lst1 us with
    | none => rw [q] at p1; exact p1.elim
    | some m =>
      rw [q] at p1
      have i := lst1_is q1 q
      simp only at p1
      split at p1
      · rename_i hl
        refine ⟨by rw [i.length, sizeLine_eq]; exact hl, fun a ha => ?_⟩
        obtain ⟨R2, s2, i2⟩ := new_tup R1 ha i
        exact Post.done p1 (.cells s2) R2 (.d i2)
      · exact p1.elim
theorem de_lst {es : E} {l : List Expr} (hs : PA X l (rdL G Γ W es)) : PE X (.List l pos) (rdE G Γ W (.lst es)) :=
  pe_imp (pe_lst hs) fun σ H Q ⟨F, r, S, e, R, L, p⟩ => by
    unfold evE at p
    refine ⟨F, r, S, e, R, L, Post.imp (Post.bnd (Rel := fun F r => Paired (IsU G F r)) p) fun xs H1 ⟨F1, r1, S1, us, e1, R1, q1, p1⟩ => ?_⟩
    cases q : lst1 us with
    | none => rw [q] at p1; exact p1.elim
    | some m =>
      rw [q] at p1
      have i := lst1_is q1 q
      simp only at p1
      split at p1
      · rename_i hl
        refine ⟨by rw [i.length, sizeLine_eq]; exact hl, fun a ha => ?_⟩
        obtain ⟨R2, s2, i2⟩ := new_lst R1 ha i
        exact Post.done p1 (.cells s2) R2 (.d i2)
      · exact p1.elim
/-- a new list's cell -/
theorem new_cell {F : Hp} {r : Pl} {S : Store} {H : Hp} {a : Addr} {xs : List V} {l : List D} (R : Rp G F r S H) (ha : H a = none) (i : IsL G F xs l) :
    Rp G F (r ++ [[a]]) (S ++ [.lst l]) (upd H a (.lst xs)) ∧ Ext F F r (r ++ [[a]]) ∧ IsU G F (r ++ [[a]]) (.ref a) (.loc S.length) := by
  obtain ⟨R1, e1⟩ := R.cell (H' := upd H a (.lst xs)) (l := [a]) (c := .lst l) (fun b hb => by rw [show b = a by simpa using hb]; exact ha) (by simp) (fun b hb o q => by rw [upd_ne (by simpa using hb)]; exact q) ⟨a, xs, rfl, upd_same, i⟩
  refine ⟨R1, e1, .loc (t := []) ?_⟩
  rw [← R.len, List.getElem?_append_right (Nat.le_refl _)]
  simp
theorem de_cel {es : E} {l : List Expr} (hs : PA X l (rdL G Γ W es)) : PE X (.List l pos) (rdE G Γ W (.cel es)) :=
  pe_imp (pe_lst hs) fun σ H Q ⟨F, r, S, e, R, L, p⟩ => by
    unfold evE at p
    refine ⟨F, r, S, e, R, L, Post.imp (Post.bnd (Rel := fun F r => Paired (IsU G F r)) p) fun xs H1 ⟨F1, r1, S1, us, e1, R1, q1, p1⟩ => ?_⟩
    cases q : lst1 us with
    | none => rw [q] at p1; exact p1.elim
    | some m =>
      rw [q] at p1
      have i := lst1_is q1 q
      simp only at p1
      split at p1
      · rename_i hl
        refine ⟨by rw [i.length, sizeLine_eq]; exact hl, fun a ha => ?_⟩
        obtain ⟨R2, e2, i2⟩ := new_cell R1 ha i
        exact Post.done p1 e2 R2 i2
      · exact p1.elim
theorem de_catc {a b : E} {ea eb : Expr} (ha : PE X ea (rdE G Γ W a)) (hb : PE X eb (rdE G Γ W b)) : PE X (.BinOp ea .Add eb pos) (rdE G Γ W (.catc a b)) :=
  pe_imp (pe_op op_cat ha hb) fun σ H Q ⟨F, r, S, e, R, L, p⟩ => by
    unfold evE at p
    refine ⟨F, r, S, e, R, L, Post.imp (Post.bnD p) fun x H1 ⟨F1, r1, S1, d1, e1, R1, q1, p1⟩ => ?_⟩
    refine ⟨F1, r1, S1, e, R1, L.mono e1, Post.imp (Post.bnD p1) fun y H2 ⟨F2, r2, S2, d2, e2, R2, q2, p2⟩ => ?_⟩
    cases d1 <;> cases d2 <;> first | exact p2.elim | skip
    simp only at p2
    split at p2
    · rename_i hl
      obtain ⟨a1, xs, rfl, h1, t1⟩ := rp_lists R2 (q1.mono e2.sub)
      obtain ⟨a2, ys, rfl, h2, t2⟩ := rp_lists R2 q2
      refine ⟨a1, a2, xs, ys, rfl, rfl, h1, h2, by rw [t1.length, t2.length, sizeLine_eq]; exact hl, fun a ha => ?_⟩
      obtain ⟨R3, e3, i3⟩ := new_cell R2 ha (t1.app t2)
      exact Post.done p2 e3 R3 i3
    · exact p2.elim

/-! ### calls -/
/-- a callee's promise at its arguments -/
theorem sp_of {m : List U → Store → M U} {vs : List V} {us : List U} {F : Hp} {r : Pl} {S : Store} {H : Hp} {Q : VK} {σ : St} (R : Rp G F r S H) (h : Paired (IsU G F r) vs us) (p : Post G W σ (IsU G) F r (m us S) Q) :
    spU G m vs H Q (WE W σ) := by
  refine ⟨F, r, S, us, R, h, ?_⟩
  cases q : m us S with
  | none => rw [q] at p; exact p
  | some z =>
    rw [q] at p
    cases z with
    | ok u S' => exact p
    | ex x S' => exact p
theorem de_call (C : Ct G Γ tb c X W j) {f : Nat} {x : Str} {es : E} {ea : Expr} {l : List Expr} {px : Pos} (hf : tb.fns[f]? = some ⟨none, x⟩) (hg : isGlB c x = true) (hs : PA X (ea :: l) (rdL G Γ W es)) (hp : (ea :: l).all plainE = true) :
    PE X (.Call (.Name x px) (ea :: l) [] pos) (rdE G Γ W (.call f es)) := by
  obtain ⟨g1, g2⟩ := gl_of C hg
  obtain ⟨a, fd, ps, h1, h2, h3, h4⟩ := C.wd.fn f x hf
  rw [List.all_cons, Bool.and_eq_true] at hp
  refine pe_imp (pe_callS (CX := L2.CX X.prog X.w) (by rw [C.K, C.w]; exact h4) (C.room.mono (Nat.le_succ _)) g1 h1 (by rw [C.K]; exact h2) (by rw [C.K]; exact h3) (fun σ => passAt C.tk σ) hs g2 (star_cons hp.1 _ _) (plains _ _ _ hp.2)) fun σ H Q ⟨F, r, S, e, R, L, p⟩ => ?_
  unfold evE at p
  exact ⟨F, r, S, e, R, L, Post.imp (Post.bnd (Rel := fun F r => Paired (IsU G F r)) p) fun vs H1 ⟨F1, r1, S1, us, e1, R1, q1, p1⟩ => sp_of R1 q1 p1⟩
/-- f() -/
theorem pe_callS0 {k : Nat} {f : Addr} {fd : FuncData} {ps : List Str} {sp : Sp} {E : St → XK} {x : Str} {p : Pos} (F : FnOk X.prog X.w X.K X.mg X.base (L2.CX X.prog X.w) k f fd ps sp) (hr : Room k X.A) (hg : Gl X x) (hm : X.mg x = some (.ref f)) (hk : PySem.W.keepIn X.K (.ref f) = true)
    (hb : Binds X.K fd ps []) (hx : ∀ σ, PassesAt (L2.CX X.prog X.w) X σ (E σ)) (hdb : (x == ("__debug__" : Str)) = false) : PE X (.Call (.Name x p) [] [] pos) (fun σ H Q => sp [] H Q (E σ)) := by
  refine ⟨fun pins s σ H Q I h => ?_⟩
  refine wpAny_Call_Name_kw (ld_glob I hg hm ?_ hdb)
  exact PySem.W.callWith_K0 I.kIn hk (run_fnS (us := []) F hr hb (hx σ) I .nil h)
theorem de_call0 (C : Ct G Γ tb c X W j) {f : Nat} {x : Str} {px : Pos} (hf : tb.fns[f]? = some ⟨none, x⟩) (hg : isGlB c x = true) : PE X (.Call (.Name x px) [] [] pos) (rdE G Γ W (.call f .nil)) := by
  obtain ⟨g1, g2⟩ := gl_of C hg
  obtain ⟨a, fd, ps, h1, h2, h3, h4⟩ := C.wd.fn f x hf
  refine pe_imp (pe_callS0 (by rw [C.K, C.w]; exact h4) (C.room.mono (Nat.le_succ _)) g1 h1 (by rw [C.K]; exact h2) (by rw [C.K]; exact h3) (fun σ => passAt C.tk σ) g2) fun σ H Q ⟨F, r, S, e, R, L, p⟩ => ?_
  unfold evE evL at p
  exact sp_of R .nil p

/-! ### instances -/
/-- C(e, ..), what is raised wished for at the slots -/
theorem run_makeS {pins : List (Addr × Obj)} {σ : St} {H : Hp} {s : Shared} {Q : VK} {us : List Value} {vs : List V} {CX : CXT} {k : Nat} {f Ca : Addr} {fd : FuncData} {ps : List Str} {sp : Sp} {E : XK} (M : Mk X.K Ca f) (F : FnOk X.prog X.w X.K X.mg X.base CX k f fd ps sp) (hr : Room (k + 1) X.A)
    (hb : Binds X.K fd ps []) (hx : PassesAt CX X σ E) (I : L2.Inv X pins σ H s) (r : Vals vs us)
    (h : ∀ x dx, H x = none → H dx = none → dx ≠ x → sp (.ref x :: vs) (upd (upd H dx (.own x)) x (.ins Ca dx [])) (fun v H2 => v = .non ∧ Q (.ref x) H2) E) :
    wpAny (model X.prog X.w) X.A (call (.ref Ca) us) (EP X pins σ Q) X.xe s := by
  have hq := h (s.heap.objs.size + 1) s.heap.objs.size (I.hok.fresh (Nat.le_succ _)) (I.hok.fresh (Nat.le_refl _)) (Nat.ne_of_lt (Nat.lt_succ_self _))
  have I2 := Inv.made (C := Ca) I
  have r2 : Vals (V.ref (s.heap.objs.size + 1) :: vs) (Value.ref (s.heap.objs.size + 1) :: us) := .cons rfl r
  have hl : (Value.ref (s.heap.objs.size + 1) :: us).length = ps.length := by
    have e := r2.length
    rw [F.len _ _ _ _ hq] at e
    exact e.symm
  have bb := hb { s with heap := (s.heap.push PySem.W.emptyDict).push (PySem.W.instObj Ca s.heap.objs.size) } (Value.ref (s.heap.objs.size + 1) :: us) I2.kIn (by rw [List.append_nil]; exact hl)
  rw [List.append_nil] at bb
  refine wpAny_call (make_map (f := f) I.kIn M.makes M.init (beq_iff_eq.mp M.fn) (codeAny_mono (F.run _ X.stack _ _ ⟨Value.ref (s.heap.objs.size + 1) :: us, []⟩ _ _ _ E (hr.make Ca us []) (I2.env0.make Ca us []) bb r2 hq) fun r s' hq' => ?_))
  cases r with
  | error e => exact hx pins _ _ e s' I2 hq'
  | ok fl =>
    cases fl with
    | ret u =>
      obtain ⟨v, H', I3, rv, ev, q3⟩ := I2.after hq'
      subst ev
      exact ⟨rv, ⟨V.ref (s.heap.objs.size + 1), H', I3, rfl, q3⟩⟩
    | next => exact False.elim hq'
    | brk => exact False.elim hq'
    | cont => exact False.elim hq'
theorem pe_makeS {CX : CXT} {k : Nat} {f Ca : Addr} {fd : FuncData} {ps : List Str} {sp : Sp} {E : St → XK} {x : Str} {p : Pos} {ea : Expr} {l : List Expr} {t : TA} (M : Mk X.K Ca f) (F : FnOk X.prog X.w X.K X.mg X.base CX k f fd ps sp) (hr : Room (k + 1) X.A) (hg : Gl X x) (hm : X.mg x = some (.ref Ca))
    (hb : Binds X.K fd ps []) (hx : ∀ σ, PassesAt CX X σ (E σ)) (ha : PA X (ea :: l) t) (hdb : (x == ("__debug__" : Str)) = false) (he : starEach (ea :: l) X.env = (false, eval ea X.env) :: starEach l X.env) (hpl : (backTo pos (starEach l X.env)).any (·.1) = false) :
    PE X (.Call (.Name x p) (ea :: l) [] pos) (fun σ H Q => t σ H fun vs H1 => ∀ x dx, H1 x = none → H1 dx = none → dx ≠ x → sp (.ref x :: vs) (upd (upd H1 dx (.own x)) x (.ins Ca dx [])) (fun v H2 => v = .non ∧ Q (.ref x) H2) (E σ)) := by
  refine ⟨fun pins s σ H Q I h => ?_⟩
  refine wpAny_Call_Name_kw (ld_glob I hg hm ?_ hdb)
  refine PySem.W.callWith_K (h₀ := X.base) I.ok.mod.kin M.kp (thn (ha.run pos pins s σ H _ I h) fun us s1 ⟨vs, H1, I1, r, q⟩ => ⟨I1.kIn, ?_⟩) he hpl
  exact run_makeS M F hr hb (hx σ) I1 r q
/-- a new instance's cell -/
theorem new_ins {F : Hp} {r : Pl} {S : Store} {H : Hp} {x dx : Addr} {k : Nat} (R : Rp G F r S H) (hx : H x = none) (hd : H dx = none) (ne : dx ≠ x) :
    Rp G F (r ++ [[x]]) (S ++ [.ins k []]) (upd (upd H dx (.own x)) x (.ins (G.cd k) dx [])) ∧ Ext F F r (r ++ [[x]]) ∧ (r ++ [[x]])[S.length]? = some [x] := by
  obtain ⟨R1, e1⟩ := R.cell (H' := upd (upd H dx (.own x)) x (.ins (G.cd k) dx [])) (l := [x]) (c := .ins k []) (fun b hb => by rw [show b = x by simpa using hb]; exact hx) (by simp)
    (fun b hb o q => by rw [upd_ne (by simpa using hb), upd_ne (ne_of_none q hd)]; exact q) ⟨x, [], dx, [], rfl, upd_same, .nil⟩
  refine ⟨R1, e1, ?_⟩
  rw [← R.len, List.getElem?_append_right (Nat.le_refl _)]
  simp
theorem de_mkc (C : Ct G Γ tb c X W j) {k f : Nat} {x : Str} {es : E} {ea : Expr} {l : List Expr} {px : Pos} (hk : tb.cls[k]? = some x) (hf : tb.fns[f]? = some ⟨some k, "__init__"⟩) (hg : isGlB c x = true) (hs : PA X (ea :: l) (rdL G Γ W es)) (hp : (ea :: l).all plainE = true) :
    PE X (.Call (.Name x px) (ea :: l) [] pos) (rdE G Γ W (.mkc k f es)) := by
  obtain ⟨g1, g2⟩ := gl_of C hg
  obtain ⟨a, fd, ps, h1, h2, h3, h4, h5⟩ := C.wd.mt f k _ hf (List.getElem?_eq_some_iff.mp hk).1
  obtain ⟨c1, c2, c3, c4⟩ := C.wd.cl k x hk
  rw [List.all_cons, Bool.and_eq_true] at hp
  refine pe_imp (pe_makeS (CX := L2.CX X.prog X.w) (Ca := G.cd k) (f := a) ⟨by rw [C.K]; exact c3, by rw [C.K]; exact h1, by rw [C.K]; exact h2, by rw [C.K]; exact c4⟩ (by rw [C.K, C.w]; exact h5) C.room g1 c1 (by rw [C.K]; exact h4) (fun σ => passAt C.tk σ) hs g2 (star_cons hp.1 _ _) (plains _ _ _ hp.2)) fun σ H Q ⟨F, r, S, e, R, L, p⟩ => ?_
  unfold evE at p
  refine ⟨F, r, S, e, R, L, Post.imp (Post.bnd (Rel := fun F r => Paired (IsU G F r)) p) fun vs H1 ⟨F1, r1, S1, us, e1, R1, q1, p1⟩ y dy hy hd ne => ?_⟩
  obtain ⟨R2, e2, at2⟩ := new_ins (k := k) R1 hy hd ne
  refine sp_of (us := .loc S1.length :: us) R2 (.cons (.loc at2) (paired_mono e2 q1)) ?_
  cases q : Γ.fn f (.loc S1.length :: us) (S1 ++ [.ins k []]) with
  | none => rw [q] at p1; exact p1
  | some z =>
    rw [q] at p1
    cases z with
    | ex xx S2 =>
      intro F3 r3 cc dd H3 e3 R3 x3
      have R4 := R3.take S1.length
      exact p1 F3 (r3.take S1.length) cc dd H3 ((e2.trans e3).take _ (by rw [R1.len]; exact Nat.le_refl _)) R4 x3
    | ok u S2 =>
      cases u with
      | loc n => exact p1.elim
      | d d =>
        cases d <;> first | exact p1.elim | skip
        intro F3 r3 b H3 e3 R3 i3
        cases i3 with
        | d i3 =>
          cases i3
          refine ⟨rfl, p1 F3 r3 _ H3 (e2.trans e3) R3 ?_⟩
          obtain ⟨t, h⟩ := e3.pre _ _ _ at2
          exact .loc h
theorem de_mkd (C : Ct G Γ tb c X W j) {f : Nat} {x : Str} {es : E} {ea : Expr} {l : List Expr} {px : Pos} (hk : tb.cls[0]? = some x) (hf : tb.fns[f]? = some ⟨some 0, "__init__"⟩) (hg : isGlB c x = true) (hs : PA X (ea :: l) (rdL G Γ W es)) (hp : (ea :: l).all plainE = true) :
    PE X (.Call (.Name x px) (ea :: l) [] pos) (rdE G Γ W (.mkd f es)) := by
  obtain ⟨g1, g2⟩ := gl_of C hg
  obtain ⟨a, fd, ps, h1, h2, h3, h4, h5⟩ := C.wd.mt f 0 _ hf (List.getElem?_eq_some_iff.mp hk).1
  obtain ⟨c1, c2, c3, c4⟩ := C.wd.cl 0 x hk
  rw [List.all_cons, Bool.and_eq_true] at hp
  refine pe_imp (pe_makeS (CX := L2.CX X.prog X.w) (Ca := G.cd 0) (f := a) ⟨by rw [C.K]; exact c3, by rw [C.K]; exact h1, by rw [C.K]; exact h2, by rw [C.K]; exact c4⟩ (by rw [C.K, C.w]; exact h5) C.room g1 c1 (by rw [C.K]; exact h4) (fun σ => passAt C.tk σ) hs g2 (star_cons hp.1 _ _) (plains _ _ _ hp.2)) fun σ H Q ⟨F, r, S, e, R, L, p⟩ => ?_
  unfold evE at p
  refine ⟨F, r, S, e, R, L, Post.imp (Post.bnd (Rel := fun F r => Paired (IsU G F r)) p) fun vs H1 ⟨F1, r1, S1, us, e1, R1, q1, p1⟩ y dy hy hd ne => ?_⟩
  obtain ⟨R2, e2, at2⟩ := new_ins (k := 0) R1 hy hd ne
  refine sp_of (us := .loc S1.length :: us) R2 (.cons (.loc at2) (paired_mono e2 q1)) ?_
  cases q : Γ.fn f (.loc S1.length :: us) (S1 ++ [.ins 0 []]) with
  | none => rw [q] at p1; exact p1
  | some z =>
    rw [q] at p1
    cases z with
    | ex xx S2 =>
      intro F3 r3 cc dd H3 e3 R3 x3
      have R4 := R3.take S1.length
      exact p1 F3 (r3.take S1.length) cc dd H3 ((e2.trans e3).take _ (by rw [R1.len]; exact Nat.le_refl _)) R4 x3
    | ok u S2 =>
      cases u with
      | loc n => exact p1.elim
      | d d =>
        cases d <;> first | exact p1.elim | skip
        intro F3 r3 b H3 e3 R3 i3
        cases i3 with
        | d i3 =>
          cases i3
          refine ⟨rfl, ?_⟩
          obtain ⟨t, h⟩ := e3.pre _ _ _ at2
          simp only at p1
          split at p1
          · rename_i fx t' hc
            split at p1
            · rename_i ex
              subst ex
              obtain ⟨⟨a', bs, dx, vs', e4, h6, h7⟩, _, _⟩ := R3.cel _ _ _ h hc (fun z => by cases z)
              cases e4
              cases h7 with
              | dat h8 h9 =>
                cases h9
                obtain ⟨R5, s5⟩ := R3.freeze h hc (fun z => by cases z) h6
                have R6 := R5.take S1.length
                have es : (S2.set S1.length Cell.dead).take S1.length = S2.take S1.length := by
                  rw [List.take_set, List.set_eq_of_length_le (by rw [List.length_take]; exact Nat.min_le_left _ _)]
                rw [es] at R6
                refine p1 _ (r3.take S1.length) _ H3 (((e2.trans e3).trans (.cells s5)).take _ (by rw [R1.len]; exact Nat.le_refl _)) R6 (.d (.drv upd_same (h8.mono s5)))
            · exact p1.elim
          · exact p1.elim
end
end DL

/-! Expressions over data: methods, fields, built-ins. -/
namespace DL
open PySem PySem.Spec L2
set_option autoImplicit false
section
variable {G : Gx} {Γ : Ev} {tb : Tb} {c : Sc} {X : Cx} {W : WX} {j : Nat} {pos : Pos}

/-! ### methods -/
theorem pe_methS {CX : CXT} {k : Nat} {f Ca : Addr} {fd : FuncData} {ps : List Str} {sp : Sp} {E : St → XK} {m : Str} {o ea : Expr} {l : List Expr} {ta : TE} {t : TA} {apos : Pos} {pl : Sem Bool} (he : PE X o ta) (cl : Cls X.K Ca) (hm : Meth X.K Ca m f)
    (F : FnOk X.prog X.w X.K X.mg X.base CX k f fd ps sp) (hr : Room k X.A) (hb : Binds X.K fd ps []) (hx : ∀ σ, PassesAt CX X σ (E σ)) (ha : PA X (ea :: l) t)
    (hst : starEach (ea :: l) X.env = (false, eval ea X.env) :: starEach l X.env) (hpl : (backTo pos (starEach l X.env)).any (·.1) = false)
    (ht : eval (.Call (.Attribute o m apos) (ea :: l) [] pos) X.env = (do
      let ov ← eval o X.env
      standAt apos.atName
      let (f, first) ← holding [ov] (getMethod ov m pl)
      callWith pos f first (backTo pos (starEach (ea :: l) X.env)) (backToKw pos (keywordEach [] X.env)))) :
    PE X (.Call (.Attribute o m apos) (ea :: l) [] pos) (fun σ H Q => ta σ H fun x H1 => ∃ a dx fs, x = .ref a ∧ H1 a = some (.ins Ca dx fs) ∧ fs.lookup m = none ∧ t σ H1 fun vs H2 => sp (x :: vs) H2 Q (E σ)) := by
  refine ⟨fun pins s σ H Q I h => ?_⟩
  refine PySem.W.methodCall_KW (pl := pl) (thn (he.run pins s σ H _ I h) fun u s1 ⟨x, H1, I1, rx, a, dx, fs, ex, ea, l, q⟩ => ?_) ht
  subst ex
  obtain rfl : u = Value.ref a := rx
  refine getmeth_ok I1 ea cl hm l ?_
  refine PySem.W.callWith_K (first := [.ref a]) (h₀ := X.base) I.ok.mod.kin hm.kp (thn (ha.run pos pins s1 σ H1 _ I1 q) fun us s2 ⟨vs, H2, I2, r, q2⟩ => ⟨I2.kIn, ?_⟩) hst hpl
  exact run_fnS (us := .ref a :: us) (vs := .ref a :: vs) F hr hb (hx σ) I2 (.cons rfl r) q2
theorem pe_methS0 {CX : CXT} {k : Nat} {f Ca : Addr} {fd : FuncData} {ps : List Str} {sp : Sp} {E : St → XK} {m : Str} {o : Expr} {ta : TE} {apos : Pos} {pl : Sem Bool} (he : PE X o ta) (cl : Cls X.K Ca) (hm : Meth X.K Ca m f)
    (F : FnOk X.prog X.w X.K X.mg X.base CX k f fd ps sp) (hr : Room k X.A) (hb : Binds X.K fd ps []) (hx : ∀ σ, PassesAt CX X σ (E σ))
    (ht : eval (.Call (.Attribute o m apos) [] [] pos) X.env = (do
      let ov ← eval o X.env
      standAt apos.atName
      let (f, first) ← holding [ov] (getMethod ov m pl)
      callWith pos f first (backTo pos (starEach [] X.env)) (backToKw pos (keywordEach [] X.env)))) :
    PE X (.Call (.Attribute o m apos) [] [] pos) (fun σ H Q => ta σ H fun x H1 => ∃ a dx fs, x = .ref a ∧ H1 a = some (.ins Ca dx fs) ∧ fs.lookup m = none ∧ sp [x] H1 Q (E σ)) := by
  refine ⟨fun pins s σ H Q I h => ?_⟩
  refine PySem.W.methodCall_KW (pl := pl) (thn (he.run pins s σ H _ I h) fun u s1 ⟨x, H1, I1, rx, a, dx, fs, ex, ea, l, q⟩ => ?_) ht
  subst ex
  obtain rfl : u = Value.ref a := rx
  refine getmeth_ok I1 ea cl hm l ?_
  exact PySem.W.callWith_K0 (first := [.ref a]) I1.kIn hm.kp (run_fnS (us := [.ref a]) (vs := [.ref a]) F hr hb (hx σ) I1 (.cons rfl .nil) q)
/-- an instance as the heap has it -/
theorem ins_at {k : Nat} {m : Str} {u : U} {S : Store} {F : Hp} {r : Pl} {H : Hp} {x : V} (R : Rp G F r S H) (i : IsU G F r x u) (h : insOk k m u S = true) : ∃ a dx fs, x = .ref a ∧ H a = some (.ins (G.cd k) dx fs) ∧ fs.lookup m = none := by
  unfold insOk at h
  cases i with
  | d i =>
    cases i <;> first | (simp at h; done) | skip
    rename_i h1 h2
    simp only [Bool.and_eq_true, decide_eq_true_eq, Bool.not_eq_true', decide_eq_false_iff_not] at h
    obtain ⟨rfl, hm⟩ := h
    refine ⟨_, _, _, rfl, R.sub _ _ h1, ?_⟩
    rw [List.lookup_cons]
    have q : (m == ("told" : Str)) = false := by simpa using hm
    rw [q]; rfl
  | loc i =>
    simp only at h
    split at h
    · rename_i c' fs hc
      simp only [Bool.and_eq_true, decide_eq_true_eq, Option.isNone_iff_eq_none] at h
      obtain ⟨rfl, hm⟩ := h
      obtain ⟨⟨a, bs, dx, vs, e, h1, h2⟩, _, _⟩ := R.cel _ _ _ i hc (fun z => by cases z)
      cases e
      exact ⟨_, dx, vs, rfl, h1, h2.none hm⟩
    · cases h
theorem de_meth (C : Ct G Γ tb c X W j) {k f : Nat} {x m : Str} {a es : E} {eo ea : Expr} {l : List Expr} {apos : Pos} {pl : Sem Bool} (hk : tb.cls[k]? = some x) (hf : tb.fns[f]? = some ⟨some k, m⟩) (ho : PE X eo (rdE G Γ W a)) (hs : PA X (ea :: l) (rdL G Γ W es)) (hp : (ea :: l).all plainE = true)
    (ht : eval (.Call (.Attribute eo m apos) (ea :: l) [] pos) X.env = (do
      let ov ← eval eo X.env
      standAt apos.atName
      let (f, first) ← holding [ov] (getMethod ov m pl)
      callWith pos f first (backTo pos (starEach (ea :: l) X.env)) (backToKw pos (keywordEach [] X.env)))) :
    PE X (.Call (.Attribute eo m apos) (ea :: l) [] pos) (rdE G Γ W (.meth k f m a es)) := by
  obtain ⟨ad, fd, ps, h1, h2, h3, h4, h5⟩ := C.wd.mt f k _ hf (List.getElem?_eq_some_iff.mp hk).1
  obtain ⟨c1, c2, c3, c4⟩ := C.wd.cl k x hk
  rw [List.all_cons, Bool.and_eq_true] at hp
  refine pe_imp (pe_methS (CX := L2.CX X.prog X.w) (Ca := G.cd k) ho (by rw [C.K]; exact c2) ⟨by rw [C.K]; exact h1, by rw [C.K]; exact h2, by rw [C.K]; exact h3⟩ (by rw [C.K, C.w]; exact h5) (C.room.mono (Nat.le_succ _)) (by rw [C.K]; exact h4) (fun σ => passAt C.tk σ) hs (star_cons hp.1 _ _) (plains _ _ _ hp.2) ht) fun σ H Q ⟨F, r, S, e, R, L, p⟩ => ?_
  unfold evE at p
  refine ⟨F, r, S, e, R, L, Post.imp (Post.bnd (Rel := IsU G) p) fun y H1 ⟨F1, r1, S1, u, e1, R1, q1, p1⟩ => ?_⟩
  cases hi : insOk k m u S1 with
  | false => rw [hi] at p1; exact p1.elim
  | true =>
    rw [hi] at p1
    simp only [if_true] at p1
    obtain ⟨a', dx, fs, rfl, g1, g2⟩ := ins_at R1 q1 hi
    refine ⟨a', dx, fs, rfl, g1, g2, F1, r1, S1, e, R1, L.mono e1, Post.imp (Post.bnd (Rel := fun F r => Paired (IsU G F r)) p1) fun vs H2 ⟨F2, r2, S2, us, e2, R2, q2, p2⟩ => ?_⟩
    exact sp_of R2 (.cons (q1.mono e2) q2) p2
theorem de_meth0 (C : Ct G Γ tb c X W j) {k f : Nat} {x m : Str} {a : E} {eo : Expr} {apos : Pos} {pl : Sem Bool} (hk : tb.cls[k]? = some x) (hf : tb.fns[f]? = some ⟨some k, m⟩) (ho : PE X eo (rdE G Γ W a))
    (ht : eval (.Call (.Attribute eo m apos) [] [] pos) X.env = (do
      let ov ← eval eo X.env
      standAt apos.atName
      let (f, first) ← holding [ov] (getMethod ov m pl)
      callWith pos f first (backTo pos (starEach [] X.env)) (backToKw pos (keywordEach [] X.env)))) :
    PE X (.Call (.Attribute eo m apos) [] [] pos) (rdE G Γ W (.meth k f m a .nil)) := by
  obtain ⟨ad, fd, ps, h1, h2, h3, h4, h5⟩ := C.wd.mt f k _ hf (List.getElem?_eq_some_iff.mp hk).1
  obtain ⟨c1, c2, c3, c4⟩ := C.wd.cl k x hk
  refine pe_imp (pe_methS0 (CX := L2.CX X.prog X.w) (Ca := G.cd k) ho (by rw [C.K]; exact c2) ⟨by rw [C.K]; exact h1, by rw [C.K]; exact h2, by rw [C.K]; exact h3⟩ (by rw [C.K, C.w]; exact h5) (C.room.mono (Nat.le_succ _)) (by rw [C.K]; exact h4) (fun σ => passAt C.tk σ) ht) fun σ H Q ⟨F, r, S, e, R, L, p⟩ => ?_
  unfold evE at p
  refine ⟨F, r, S, e, R, L, Post.imp (Post.bnd (Rel := IsU G) p) fun y H1 ⟨F1, r1, S1, u, e1, R1, q1, p1⟩ => ?_⟩
  cases hi : insOk k m u S1 with
  | false => rw [hi] at p1; exact p1.elim
  | true =>
    rw [hi] at p1
    simp only [if_true] at p1
    obtain ⟨a', dx, fs, rfl, g1, g2⟩ := ins_at R1 q1 hi
    unfold evL at p1
    exact ⟨a', dx, fs, rfl, g1, g2, sp_of R1 (.cons q1 .nil) p1⟩

/-! ### properties, fields -/
theorem de_prop (C : Ct G Γ tb c X W j) {f : Nat} {x : Str} {a : E} {ea : Expr} (h0 : 0 < tb.cls.length) (hf : (x, f) ∈ tb.props) (ha : PE X ea (rdE G Γ W a)) (hb : attributeBase ea x X.env (eval ea X.env) = eval ea X.env) :
    PE X (.Attribute ea x pos) (rdE G Γ W (.prop f a)) := by
  obtain ⟨pa, g, fd, ps, h1, h2, h3⟩ := C.wd.pr x f hf
  obtain ⟨c1, c2, c3, c4⟩ := C.wd.cl 0 (tb.cls[0]) (List.getElem?_eq_getElem h0)
  refine pe_imp (pe_prop (CX := L2.CX X.prog X.w) (E := E0) (C := G.cd 0) ha (by rw [C.K]; exact c2) (by rw [C.K]; exact h1) (by rw [C.K, C.w]; exact h3) C.room (by rw [C.K]; exact h2) .nil passL hb) fun σ H Q ⟨F, r, S, e, R, L, p⟩ => ?_
  unfold evE at p
  refine ⟨F, r, S, e, R, L, Post.imp (Post.bnD p) fun y H1 ⟨F1, r1, S1, d, e1, R1, q1, p1⟩ => ?_⟩
  cases d <;> first | exact p1.elim | skip
  rename_i t
  cases q1 with
  | drv g1 g2 =>
    refine ⟨_, _, _, rfl, R1.sub _ _ g1, ?_⟩
    simp only at p1
    have q := sp_of (G := G) (σ := σ) (W := fun _ _ _ _ => False) (m := Γ.fn f) (us := [.d (.drv t)]) (vs := [.ref _]) (Q := Q) R1 (.cons (.d (.drv g1 g2)) .nil) (by
      cases z : Γ.fn f [.d (.drv t)] S1 with
      | none => rw [z] at p1; exact p1
      | some m =>
        rw [z] at p1
        cases m with
        | ok u S2 => exact p1
        | ex xx S2 => exact p1.elim)
    exact q
theorem de_fld (C : Ct G Γ tb c X W j) {x : Str} {a : E} {ea : Expr} (hx : x ∈ tb.flds) (ha : PE X ea (rdE G Γ W a)) (hb : attributeBase ea x X.env (eval ea X.env) = eval ea X.env) :
    PE X (.Attribute ea x pos) (rdE G Γ W (.fld a x)) := by
  refine pe_imp (pe_fld ha hb) fun σ H Q ⟨F, r, S, e, R, L, p⟩ => ?_
  unfold evE at p
  refine ⟨F, r, S, e, R, L, Post.imp (Post.bnd (Rel := IsU G) p) fun y H1 ⟨F1, r1, S1, u, e1, R1, q1, p1⟩ => ?_⟩
  have facts : ∀ k, k < Γ.nc → Cls X.K (G.cd k) ∧ NoAttr X.K (G.cd k) x := fun k hk => by
    rw [C.wd.nc] at hk
    rw [C.K]
    exact ⟨(C.wd.cl k _ (List.getElem?_eq_getElem hk)).2.1, C.wd.noat k hk x hx⟩
  cases q1 with
  | d q1 =>
    cases q1 with
    | drv g1 g2 =>
      simp only at p1
      split at p1
      · rename_i hh
        obtain ⟨rfl, hk⟩ := hh
        obtain ⟨f1, f2⟩ := facts 0 hk
        exact ⟨_, _, _, _, _, rfl, R1.sub _ _ g1, f1, f2, by simp [List.lookup], Post.done p1 .refl R1 (.d g2)⟩
      · exact p1.elim
    | _ => exact p1.elim
  | loc q1 =>
    simp only at p1
    split at p1
    · rename_i k fs hc
      split at p1
      · rename_i d hd
        split at p1
        · rename_i hk
          obtain ⟨f1, f2⟩ := facts k hk
          obtain ⟨⟨a', bs, dx, vs, e4, g1, g2⟩, _, _⟩ := R1.cel _ _ _ q1 hc (fun z => by cases z)
          cases e4
          obtain ⟨v, g3, g4⟩ := g2.look hd
          exact ⟨_, _, _, _, v, rfl, g1, f1, f2, g3, Post.done p1 .refl R1 (.d g4)⟩
        · exact p1.elim
      · exact p1.elim
    · exact p1.elim

/-! ### built-ins -/
def biN : Bi → String
  | .len => "len" | .abs => "abs" | .int => "int" | .str => "str" | .tuple => "tuple" | .list => "list" | .sum => "sum" | .any => "any" | .all => "all" | .max => "max" | .min => "min"
/-- the built-in's value -/
def biV : Bi → Value
  | .int => .type "int" | .str => .type "str" | .tuple => .type "tuple" | .list => .type "list"
  | b => .builtin (biN b)
theorem readI_is {x : Str} {n : Int} (h : readI x = some n) : PySem.intText? x = some n ∧ x.length ≤ 640 := by
  unfold readI at h
  have h1 := List.find?_some h
  have h2 := List.mem_of_find?_eq_some h
  have e : numS n = x := of_decide_eq_true h1
  subst e
  simp only [List.mem_cons, List.not_mem_nil, or_false] at h2
  rcases h2 with rfl | rfl | rfl | rfl | rfl | rfl | rfl | rfl | rfl | rfl | rfl | rfl | rfl | rfl | rfl | rfl | rfl | rfl | rfl <;> exact ⟨by decide +kernel, by decide +kernel⟩
theorem cr_int : CallR X (.type "int") (rBi G (biU .int)) := by
  refine callr_imp (CallR.or call_int1 call_int_str) fun xs H Q h => ?_
  obtain ⟨F, r, S, us, d, R, hp, hg, q⟩ := h
  obtain ⟨l, hl, e⟩ := biU_no (by decide) (by decide) R hp hg
  unfold biD at e
  split at e <;> first | contradiction | skip
  · cases e
    cases hl with
    | cons h t =>
      cases t
      cases h
      exact .inl (.inl ⟨_, rfl, q F _ H (Same.refl F) R (.int _)⟩)
  · cases e
    cases hl with
    | cons h t =>
      cases t
      cases h
      exact .inl (.inr ⟨_, rfl, q F _ H (Same.refl F) R (.int _)⟩)
  · rename_i x _
    rw [Option.map_eq_some_iff] at e
    obtain ⟨n, e1, e2⟩ := e
    subst e2
    cases hl with
    | cons h t =>
      cases t
      cases h
      obtain ⟨n1, n2⟩ := readI_is e1
      exact .inr ⟨x, n, rfl, n1, n2, q F _ H (Same.refl F) R (.int _)⟩
theorem cr_str : CallR X (.type "str") (rBi G (biU .str)) := by
  refine callr_imp (CallR.or call_str_int SkE.call_str_str) fun xs H Q h => ?_
  obtain ⟨F, r, S, us, d, R, hp, hg, q⟩ := h
  obtain ⟨l, hl, e⟩ := biU_no (by decide) (by decide) R hp hg
  unfold biD at e
  split at e <;> first | contradiction | skip
  · rename_i i _
    split at e
    · rename_i hz
      cases e
      cases hl with
      | cons h t =>
        cases t
        cases h
        refine .inl ⟨i, rfl, ?_, q F _ H (Same.refl F) R (.str _)⟩
        have h1 : i.natAbs < 2 ^ 20 := by omega
        by_cases h0 : i.natAbs = 0
        · rw [h0]; decide
        · have := (Nat.log2_lt h0).mpr h1
          omega
    · cases e
  · rename_i x _
    cases e
    cases hl with
    | cons h t =>
      cases t
      cases h
      exact .inr ⟨x, rfl, q F _ H (Same.refl F) R (.str _)⟩
theorem cr_bi (hK : X.K = G.K) (hc : X.calm = true) : ∀ b : Bi, CallR X (biV b) (rBi G (biU b))
  | .len => cr_len hK
  | .abs => cr_abs
  | .int => cr_int
  | .str => cr_str
  | .tuple => cr_tuple hK
  | .list => cr_list hK
  | .sum => cr_sumD hK hc
  | .any => cr_anyD hc
  | .all => cr_allD hc
  | .max => cr_maxD hc
  | .min => cr_minD hc
theorem boot_bi : ∀ b : Bi, bootBuiltins (Str.ofString (biN b)) = some (biV b) := by
  intro b; cases b <;> decide +kernel
theorem bi_ne : ∀ b : Bi, Str.ofString (biN b) ≠ ("__name__" : Str) := by
  intro b; cases b <;> decide +kernel
theorem pe_biC {b : Bi} {r : List V → Hp → VK → Prop} {x : Str} {px : Pos} {ea : Expr} {l : List Expr} {t : TA} (hc : CallR X (biV b) r) (hg : Gl X x) (hm : X.mg x = none) (hv : bootBuiltins x = some (biV b)) (ha : PA X (ea :: l) t) (hn : x ≠ "__name__") (hdb : (x == ("__debug__" : Str)) = false)
    (he : starEach (ea :: l) X.env = (false, eval ea X.env) :: starEach l X.env) (hpl : (backTo pos (starEach l X.env)).any (·.1) = false) : PE X (.Call (.Name x px) (ea :: l) [] pos) (tCB r t) := by
  cases b <;> first
    | exact pe_callB hc hg hm hv ha hn hdb he hpl
    | exact pe_callTy hc hg hm hv ha hn hdb he hpl
theorem de_bi (C : Ct G Γ tb c X W j) {b : Bi} {es : E} {ea : Expr} {l : List Expr} {px : Pos} (hf : Str.ofString (biN b) ∈ tb.free) (hg : isGlB c (Str.ofString (biN b)) = true) (hs : PA X (ea :: l) (rdL G Γ W es)) (hp : (ea :: l).all plainE = true) :
    PE X (.Call (.Name (Str.ofString (biN b)) px) (ea :: l) [] pos) (rdE G Γ W (.bi b es)) := by
  obtain ⟨g1, g2⟩ := gl_of C hg
  rw [List.all_cons, Bool.and_eq_true] at hp
  refine pe_imp (pe_biC (cr_bi C.K C.calm b) g1 (C.wd.fr _ hf) (boot_bi b) hs (bi_ne b) g2 (star_cons hp.1 _ _) (plains _ _ _ hp.2)) fun σ H Q ⟨F, r, S, e, R, L, p⟩ => ?_
  unfold evE at p
  refine ⟨F, r, S, e, R, L, Post.imp (Post.bnd (Rel := fun F r => Paired (IsU G F r)) p) fun vs H1 ⟨F1, r1, S1, us, e1, R1, q1, p1⟩ => ?_⟩
  obtain ⟨d, h1, h2⟩ := Post.giv p1
  exact ⟨F1, r1, S1, us, d, R1, q1, h1, h2⟩

/-! ### isinstance -/
theorem kit_all : ∀ (t : Ty) (n : String), t ≠ .drv → n ∈ ["NoneType", "int", "bool", "str", "tuple", "list", "dict"] → kitB n (tyN t) = some (decide (n = tyN t) || (decide (n = "bool") && decide (t = .int))) := by
  intro t n ht hn
  simp only [List.mem_cons, List.not_mem_nil, or_false] at hn
  rcases hn with rfl | rfl | rfl | rfl | rfl | rfl | rfl <;> cases t <;> first | exact absurd rfl ht | decide +kernel
theorem boot_ty : ∀ t : Ty, t ≠ .drv → bootBuiltins (Str.ofString (tyN t)) = some (.type (tyN t)) := by
  intro t ht; cases t <;> first | exact absurd rfl ht | decide +kernel
theorem ty_ne : ∀ t : Ty, Str.ofString (tyN t) ≠ ("__name__" : Str) := by
  intro b; cases b <;> decide +kernel
theorem ty_db : ∀ t : Ty, (Str.ofString (tyN t) == ("__debug__" : Str)) = false := by
  intro b; cases b <;> decide +kernel
theorem kit_d {t : Ty} {d : D} (dk : ∀ t, d = .drv t → DrvOk G) (ht : t ≠ .drv) : PySem.W.kitOne G.K (ofD G d) (.type (tyN t)) = some (isiD t d) := by
  cases d with
  | drv z =>
    have h := (dk z rfl).to
    cases t <;> first | exact absurd rfl ht | (exact h _ (by decide))
  | _ => first
    | (refine (kit_ty (kit_all t _ ht (by decide))).trans ?_; cases t <;> first | exact absurd rfl ht | rfl)
theorem kit_v (dk : DrvOk G) {d : D} : PySem.W.kitOne G.K (ofD G d) (.ref (G.cd 0)) = some (isiD .drv d) := by
  cases d with
  | drv z => exact dk.self
  | _ => exact dk.off _ (by decide)
theorem de_isi (C : Ct G Γ tb c X W j) {t : Ty} {a : E} {ea : Expr} {px pt : Pos} (ht : t ≠ .drv) (hd : tb.cls.length = 0 ∨ 0 < tb.cls.length) (hf : Str.ofString "isinstance" ∈ tb.free) (hg : isGlB c (Str.ofString "isinstance") = true) (hf2 : Str.ofString (tyN t) ∈ tb.free) (hg2 : isGlB c (Str.ofString (tyN t)) = true)
    (ha : PE X ea (rdE G Γ W a)) (hp : plainE ea = true) (h0 : 0 < tb.cls.length) :
    PE X (.Call (.Name (Str.ofString "isinstance") px) [ea, .Name (Str.ofString (tyN t)) pt] [] pos) (rdE G Γ W (.isi t a)) := by
  obtain ⟨g1, g2⟩ := gl_of C hg
  obtain ⟨g3, g4⟩ := gl_of C hg2
  have pt : PE X (.Name (Str.ofString (tyN t)) pt) (tC (.ty (tyN t))) := pe_bltn g3 (C.wd.fr _ hf2) (boot_ty t ht) rfl (ty_ne t) g4
  refine pe_imp (pe_callB call_isi g1 (C.wd.fr _ hf) (by decide +kernel) (pa_cons ha (pa_cons pt pa_nil) (star_cons hp _ _)) (by decide +kernel) g2 (star_cons hp _ _) rfl) fun σ H Q ⟨F, r, S, e, R, L, p⟩ => ?_
  unfold evE at p
  refine ⟨F, r, S, e, R, L, Post.imp (Post.bnD p) fun x H1 ⟨F1, r1, S1, d, e1, R1, q1, p1⟩ => ?_⟩
  have dk : ∀ t, d = .drv t → DrvOk G := fun _ _ => C.wd.drv h0
  refine ⟨x, .ty (tyN t), ofD G d, .type (tyN t), isiD t d, rfl, .ty _, ?_, ?_, ?_⟩
  · rw [C.K]; exact ty_of R1.sub dk q1
  · rw [C.K]; exact kit_d dk ht
  · exact Post.done p1 .refl R1 (.d (.bl _))
theorem de_isv (C : Ct G Γ tb c X W j) {a : E} {ea : Expr} {x : Str} {px pt : Pos} (hx : tb.cls[0]? = some x) (hf : Str.ofString "isinstance" ∈ tb.free) (hg : isGlB c (Str.ofString "isinstance") = true) (hg2 : isGlB c x = true)
    (ha : PE X ea (rdE G Γ W a)) (hp : plainE ea = true) :
    PE X (.Call (.Name (Str.ofString "isinstance") px) [ea, .Name x pt] [] pos) (rdE G Γ W (.isi .drv a)) := by
  obtain ⟨g1, g2⟩ := gl_of C hg
  obtain ⟨g3, g4⟩ := gl_of C hg2
  obtain ⟨c1, c2, c3, c4⟩ := C.wd.cl 0 x hx
  have h0 : 0 < tb.cls.length := (List.getElem?_eq_some_iff.mp hx).1
  have pt : PE X (.Name x pt) (tC (.ref (G.cd 0))) := pe_glob g3 c1 rfl g4
  refine pe_imp (pe_callB call_isi g1 (C.wd.fr _ hf) (by decide +kernel) (pa_cons ha (pa_cons pt pa_nil) (star_cons hp _ _)) (by decide +kernel) g2 (star_cons hp _ _) rfl) fun σ H Q ⟨F, r, S, e, R, L, p⟩ => ?_
  unfold evE at p
  refine ⟨F, r, S, e, R, L, Post.imp (Post.bnD p) fun x H1 ⟨F1, r1, S1, d, e1, R1, q1, p1⟩ => ?_⟩
  have dk := C.wd.drv h0
  refine ⟨x, .ref (G.cd 0), ofD G d, .ref (G.cd 0), isiD .drv d, rfl, .own _, ?_, ?_, ?_⟩
  · rw [C.K]; exact ty_of R1.sub (fun _ _ => dk) q1
  · rw [C.K]; exact kit_v dk
  · exact Post.done p1 .refl R1 (.d (.bl _))

/-! ### methods of built-in values -/
/-- a tuple of texts of the module, its index -/
theorem idxS_is : ∀ {ys : List Str} {z : Str} {n : Nat}, idxS ys z = some n → ys[n]? = some z ∧ ∀ m, m < n → ys[m]? ≠ some z
  | [], z, n, h => by cases h
  | x :: r, z, n, h => by
    unfold idxS at h
    split at h
    · rename_i e
      cases h
      exact ⟨by rw [e]; rfl, fun m hm => absurd hm (Nat.not_lt_zero _)⟩
    · rename_i e
      rw [Option.map_eq_some_iff] at h
      obtain ⟨k, h1, h2⟩ := h
      subst h2
      obtain ⟨i1, i2⟩ := idxS_is h1
      refine ⟨by simpa using i1, fun m hm q => ?_⟩
      cases m with
      | zero => simp at q; exact e q
      | succ m => exact i2 m (by omega) (by simpa using q)
theorem de_cix (C : Ct G Γ tb c X W j) {k : Nat} {x : Str} {a : E} {ea : Expr} {px apos : Pos} (hg : isGlB c x = true) (hk : tb.cons[k]? = some (some x)) (hT : x ∈ tb.tups) (ha : PE X ea (rdE G Γ W a)) (hp : plainE ea = true) (hline : (apos.endLine == pos.line) = true) :
    PE X (.Call (.Attribute (.Name x px) (Str.ofString "index") apos) [ea] [] pos) (rdE G Γ W (.cix k a)) := by
  obtain ⟨g1, g2⟩ := gl_of C hg
  obtain ⟨u, v, c1, c2, c3⟩ := C.wd.con k x hk
  have ho : PE X (.Name x px) (tC v) := pe_glob g1 c1 c2 g2
  refine pe_imp (pe_bm PySem.F.plainAttrs_tuple PySem.F.slot_tuple_index PySem.F.type_tuple_index mt_tup_index ho (pa_cons ha pa_nil (star_cons hp _ _)) rfl (by rw [star_cons hp]; rfl) hline (star_cons hp _ _) rfl) fun σ H Q ⟨F, r, S, e, R, L, p⟩ => ?_
  obtain ⟨a', o, rfl, t1, t2, t3⟩ := C.wd.tk x hT u v c1 c2
  unfold evE at p
  refine ⟨.inr (.inl ⟨rfl, o, by rw [C.K]; exact t1, t2, t3⟩), F, r, S, e, R, L, Post.imp (Post.bnD p) fun y H1 ⟨F1, r1, S1, d, e1, R1, q1, p1⟩ => ?_⟩
  obtain ⟨dd, h1, h2⟩ := Post.giv p1
  have ic := c3 F1
  unfold cixD at h1
  split at h1 <;> first | cases h1 | skip
  rename_i l z hl
  rw [Option.bind_eq_some_iff] at h1
  obtain ⟨ys, h1, h3⟩ := h1
  rw [Option.map_eq_some_iff] at h3
  obtain ⟨n, h3, h4⟩ := h3
  subst h4
  rw [hl] at ic
  cases ic with
  | tup i1 i2 =>
    have e := strsOf_is i2 h1
    subst e
    cases q1
    obtain ⟨j1, j2⟩ := idxS_is h3
    exact ⟨_, ys, z, n, rfl, rfl, by rw [C.K]; exact same_sqT R1.sub i1, j1, j2, h2 F1 _ H1 (Same.refl _) R1 (.int _)⟩
theorem lst_at {u : U} {S : Store} {F : Hp} {r : Pl} {H : Hp} {x : V} (R : Rp G F r S H) (i : IsU G F r x u) (h : isLst u S = true) : ∃ a xs, x = .ref a ∧ H a = some (.lst xs) := by
  unfold isLst at h
  cases i with
  | d i => cases h
  | loc i =>
    simp only at h
    split at h
    · rename_i l hl
      obtain ⟨xs, h1, _⟩ := R.list i hl
      exact ⟨_, xs, rfl, h1⟩
    · cases h
theorem de_app (C : Ct G Γ tb c X W j) {o a : E} {eo ea : Expr} {apos : Pos} (ho : PE X eo (rdE G Γ W o)) (ha : PE X ea (rdE G Γ W a)) (hp : plainE ea = true) (hb : attributeBase eo (Str.ofString "append") X.env (eval eo X.env) = eval eo X.env) (hline : (apos.endLine == pos.line) = true) :
    PE X (.Call (.Attribute eo (Str.ofString "append") apos) [ea] [] pos) (rdE G Γ W (.app o a)) := by
  refine pe_imp (pe_bm PySem.F.plainAttrs_list PySem.F.slot_list_append PySem.F.type_list_append mt_append ho (pa_cons ha pa_nil (star_cons hp _ _)) hb (by rw [star_cons hp]; rfl) hline (star_cons hp _ _) rfl) fun σ H Q ⟨F, r, S, e, R, L, p⟩ => ?_
  unfold evE at p
  refine ⟨F, r, S, e, R, L, Post.imp (Post.bnd (Rel := IsU G) p) fun x H1 ⟨F1, r1, S1, u, e1, R1, q1, p1⟩ => ?_⟩
  cases hi : isLst u S1 with
  | false => rw [hi] at p1; exact p1.elim
  | true =>
    rw [hi] at p1
    simp only [if_true] at p1
    obtain ⟨a', xs, rfl, g1⟩ := lst_at R1 q1 hi
    refine ⟨.inl ⟨rfl, _, SqL.of g1⟩, F1, r1, S1, e, R1, L.mono e1, Post.imp (Post.bnD p1) fun y H2 ⟨F2, r2, S2, d, e2, R2, q2, p2⟩ => ?_⟩
    cases q1.mono e2 with
    | d _ => exact p2.elim
    | loc h =>
      simp only at p2
      split at p2
      · rename_i l hl
        split at p2
        · rename_i hz
          obtain ⟨ys, g2, g3⟩ := R2.list h hl
          refine ⟨_, ys, y, rfl, rfl, g2, by rw [g3.length, sizeLine_eq]; exact hz, ?_⟩
          exact Post.done p2 .refl (R2.wlist h hl (g3.app (.cons q2 .nil))) (.d .non)
        · exact p2.elim
      · exact p2.elim
theorem de_popa (C : Ct G Γ tb c X W j) {o a : E} {eo ea : Expr} {apos : Pos} (ho : PE X eo (rdE G Γ W o)) (ha : PE X ea (rdE G Γ W a)) (hp : plainE ea = true) (hb : attributeBase eo (Str.ofString "pop") X.env (eval eo X.env) = eval eo X.env) (hline : (apos.endLine == pos.line) = true) :
    PE X (.Call (.Attribute eo (Str.ofString "pop") apos) [ea] [] pos) (rdE G Γ W (.popa o a)) := by
  refine pe_imp (pe_bm PySem.F.plainAttrs_list PySem.F.slot_list_pop PySem.F.type_list_pop mt_popAt ho (pa_cons ha pa_nil (star_cons hp _ _)) hb (by rw [star_cons hp]; rfl) hline (star_cons hp _ _) rfl) fun σ H Q ⟨F, r, S, e, R, L, p⟩ => ?_
  unfold evE at p
  refine ⟨F, r, S, e, R, L, Post.imp (Post.bnd (Rel := IsU G) p) fun x H1 ⟨F1, r1, S1, u, e1, R1, q1, p1⟩ => ?_⟩
  cases hi : isLst u S1 with
  | false => rw [hi] at p1; exact p1.elim
  | true =>
    rw [hi] at p1
    simp only [if_true] at p1
    obtain ⟨a', xs, rfl, g1⟩ := lst_at R1 q1 hi
    refine ⟨.inl ⟨rfl, _, SqL.of g1⟩, F1, r1, S1, e, R1, L.mono e1, Post.imp (Post.bnD p1) fun y H2 ⟨F2, r2, S2, d, e2, R2, q2, p2⟩ => ?_⟩
    cases q1.mono e2 with
    | d _ => exact p2.elim
    | loc h =>
      cases d <;> first | exact p2.elim | skip
      rename_i i
      simp only at p2
      split at p2
      · rename_i l hl
        split at p2
        · rename_i k hk
          split at p2
          · rename_i z hz
            split at p2
            · rename_i hs
              obtain ⟨ys, g2, g3⟩ := R2.list h hl
              obtain ⟨v, g4, g5⟩ := g3.get hz
              cases q2
              unfold small62 at hs
              simp only [Bool.and_eq_true, decide_eq_true_eq] at hs
              refine ⟨_, ys, i, k, v, rfl, rfl, g2, by omega, by omega, ?_, g4, ?_⟩
              · rw [g3.length]
                rw [plc_eq] at hk
                exact (ixN_seq hk).1
              · exact Post.done p2 .refl (R2.wlist h hl (g3.eraseIdx k)) (.d g5)
            · exact p2.elim
          · exact p2.elim
        · exact p2.elim
      · exact p2.elim
end
end DL

/-! What is walked. -/
namespace DL
open PySem PySem.Spec L2
set_option autoImplicit false

/-! ### a sequence, list or tuple -/
def SqB (K : PySem.W.Frag) (b : Bool) (H : Hp) (a : Addr) (xs : List V) : Prop := match b with
  | true => SqL K H a xs
  | false => SqT K H a xs
def ItB (b : Bool) (it a : Addr) (i : Nat) (h : Heap) : Prop := match b with
  | true => h.IsListIter it a i
  | false => h.IsTupleIter it a i
def SeqB (b : Bool) (a : Addr) (its : Array Value) (h : Heap) : Prop := match b with
  | true => h.IsList a its
  | false => h.IsTuple a its
def itO (b : Bool) (a : Addr) : Obj := match b with
  | true => { cls := .type "list_iterator", data := .fields #[.ref a, .int 0 0] }
  | false => { cls := .type "tuple_iterator", data := .fields #[.ref a, .int 0 0] }
theorem drawsB {prog : Program} {w : World} {A : Around} (hh : A.handled = none) (b : Bool) (it a : Addr) (hne : a ≠ it) (its : Array Value) :
    Draws prog w A it [it, a] its.size (fun i v => its[i]? = some v) (fun i h => ItB b it a i h ∧ SeqB b a its h) := by
  cases b
  · exact Draws.tuple hh it a hne its
  · exact Draws.list hh it a hne its
theorem beginsB (b : Bool) (a : Addr) (its : Array Value) : Begins (.ref a) (itO b a) (SeqB b a its) := by
  cases b
  · exact begins_tuple a its
  · exact begins_list a its
theorem itB_new {b : Bool} {it a : Addr} {h : Heap} (e : h.get? it = some (itO b a)) : ItB b it a 0 h := by
  cases b <;> exact ⟨_, e, rfl, rfl⟩
theorem itB_at {b : Bool} {it a : Addr} {i : Nat} {h h' : Heap} (x : ItB b it a i h) (k : ∀ o, h.get? it = some o → h'.get? it = some o) : ItB b it a i h' := by
  cases b
  · exact Heap.IsTupleIter.at x k
  · exact Heap.IsListIter.at x k
theorem itB_obj {b : Bool} {it a : Addr} {i : Nat} {h : Heap} (x : ItB b it a i h) : ∃ o, h.get? it = some o ∧ ∀ v, o.data ≠ .cell v := by
  cases b <;> (obtain ⟨o, e, c, d⟩ := x; exact ⟨o, e, fun v z => by rw [d] at z; cases z⟩)
section
variable {X : Cx} {pins : List (Addr × Obj)} {σ : St} {H : Hp} {s : Shared} {b : Bool} {a : Addr} {xs ys : List V}
theorem inv_seqB (I : L2.Inv X pins σ H s) (h : SqB X.K b H a xs) : ∃ its : List Value, Vals xs its ∧ SeqB b a its.toArray s.heap := by
  cases b
  · obtain ⟨its, rv, p, _⟩ := I.tuple h; exact ⟨its, rv, p⟩
  · obtain ⟨its, rv, p, _⟩ := I.list h; exact ⟨its, rv, p.isList⟩
theorem inv_seqB_inj (I : L2.Inv X pins σ H s) (h : SqB X.K b H a xs) (h' : SqB X.K b H a ys) : xs = ys := by
  cases b
  · exact I.tuple_inj h h'
  · exact I.list_inj h h'
theorem seqB_lt {a : Addr} {its : Array Value} {h : Heap} (x : SeqB b a its h) : a < h.objs.size := by
  cases b <;> (obtain ⟨o, e, _⟩ := x; exact Heap.lt_size e)
end

/-! ### plain -/
/-- the items of a sequence, each turn -/
def ItS (K : PySem.W.Frag) (b : Bool) (a : Addr) : It := match b with
  | true => Itl K a
  | false => Itt K a
def iSeq (K : PySem.W.Frag) (tl : TE) : TI := fun σ H R => tl σ H fun x H1 => ∃ a b xs, x = .ref a ∧ SqB K b H1 a xs ∧ R (ItS K b a) H1
theorem pi_seq {X : Cx} {tg l : Expr} {tl : TE} (hl : PE X l tl) : PI X tg l (iSeq X.K tl) := by
  refine ⟨fun pins s σ H R I h => ?_⟩
  refine thn (hl.run pins s σ H _ I h) fun v s1 ⟨x, H1, I1, r1, q1⟩ => ?_
  obtain ⟨a, b, xs, e, hq, q⟩ := q1
  subst e
  cases r1
  obtain ⟨its, rv, p⟩ := inv_seqB I1 hq
  refine (beginsB b a its.toArray).iter _ _ _ _ _ _ p ?_
  have e0 : (s1.heap.push (itO b a)).get? s1.heap.objs.size = some (itO b a) := Heap.get?_push_size _ (beginsB b a its.toArray).free
  have fp : ∀ c ∈ [s1.heap.objs.size], FpOk X pins H1 c := fun c hc => by
    have e : c = s1.heap.objs.size := by simpa using hc
    subst e
    exact I1.fpOk (Nat.le_refl _) (I1.hok.fresh (Nat.le_refl _))
  have I2 : L2.Inv X pins σ H1 { s1 with heap := s1.heap.push (itO b a) } := I1.kept (t' := s1.toks) fun b o e => Heap.get?_push_of_some _ e
  cases b
  · exact ⟨s1.heap.objs.size, [s1.heap.objs.size], _, _, H1, rfl, I2, turn_tuple a _, ⟨_, e0, rfl, rfl⟩, fp, q⟩
  · exact ⟨s1.heap.objs.size, [s1.heap.objs.size], _, _, H1, rfl, I2, turn_list a _, ⟨_, e0, rfl, rfl⟩, fp, q⟩

/-! ### enumerate -/
def IteB (K : PySem.W.Frag) (b : Bool) (a : Addr) : It :=
  ⟨fun i H => ∃ (xs : List V) (x : V), SqB K b H a xs ∧ xs[i]? = some x, fun i H v H' => ∃ T x, v = .ref T ∧ H T = none ∧ H' = upd H T (.tup [.int (i : Nat), x]) ∧ ∀ xs, SqB K b H a xs → xs[i]? = some x, fun i H => ∃ xs : List V, SqB K b H a xs ∧ xs.length = i⟩
theorem turn_enumB {P : Program} {w : World} {K : PySem.W.Frag} {elts : List Expr} {kk : Nat} {tpos : Pos} {b : Bool} {a e it : Addr} (hei : e ≠ it) (hea : e ≠ a) (hai : a ≠ it) :
    Turn P w K (.Tuple elts kk tpos) (IteB K b a) [e, it] e (fun i h => (∃ old, IsEnum h e it ((i : Nat) : Int) old) ∧ ItB b it a i h) where
  mem := by simp
  obj := fun i h st c hc => by
    obtain ⟨⟨old, he⟩, hi⟩ := st
    have e' : c = e ∨ c = it := by simpa using hc
    rcases e' with z | z
    · rw [z]; exact ⟨_, he, fun v q => nomatch q⟩
    · rw [z]; exact itB_obj hi
  keep := fun i h h' st k => let ⟨⟨old, he⟩, hi⟩ := st; ⟨⟨old, k e (by simp) _ he⟩, itB_at hi fun o q => k it (by simp) o q⟩
  item := by
    intro X hP hw hK hc i pins s σ H E I hf st hg
    subst hP hw hK
    obtain ⟨⟨old, he⟩, hit⟩ := st
    obtain ⟨xs, x, hq, hx⟩ := hg
    obtain ⟨its, rv, p⟩ := inv_seqB I hq
    obtain ⟨u, hu, ru⟩ := rv.get hx
    have hel : e < s.heap.objs.size := Heap.lt_size he
    have hil : it < s.heap.objs.size := by obtain ⟨o, q, _⟩ := itB_obj hit; exact Heap.lt_size q
    have D := drawsB (prog := X.prog) (w := X.w) (A := X.A.in1) (show X.A.in1.handled = none from I.ok.hd hc) b it a hai its.toArray
    refine wpAny_pyNext_enum_itemD D he ⟨hit, p⟩ (i := i) (by have := (List.getElem?_eq_some_iff.mp hu).1; simpa using this) hei (by simp [hei, hea]) fun y h' tk hy ho st' hT hsz hk => ?_
    have ey : y = u := by
      have h1 : its.toArray[i]? = some u := by simpa using hu
      rw [h1] at hy; exact (Option.some.inj hy).symm
    subst ey
    refine ⟨_, rfl, wpAny_letOwnedTupleGo_enum (s := { s with heap := h', toks := tk + 1 }) ho fun h'' he' sb => ?_⟩
    have hT2 : h''.get? s.heap.objs.size = some { cls := .type "tuple", data := .seq #[.int i tk, y] } := (sb.2 _ (Nat.ne_of_gt hel)).trans hT
    have new : ObjOk X.prog X.w (upd H s.heap.objs.size (.tup [.int (i : Nat), x])) h'' s.heap.objs.size (.tup [.int (i : Nat), x]) :=
      ⟨by show 2 ≤ sizeLine; decide, [.int i tk, y], .cons ⟨_, rfl⟩ (.cons ru .nil), ⟨_, hT2, rfl, _, rfl⟩⟩
    have I1 : L2.Inv X pins σ (upd H s.heap.objs.size (.tup [.int (i : Nat), x])) { s with heap := h'', toks := tk + 1 } :=
      I.turnedNew (ch := [e, it]) (fun b ob hb q => (sb.2 b (fun z => hb (by simp [z]))).trans (hk b ob (fun z => hb (by simp [z])) (fun z => hb (by simp [z])) q)) hf (Nat.le_refl _) new
    refine ⟨.ref s.heap.objs.size, _, I1, rfl, ⟨_, x, rfl, I.hok.fresh (Nat.le_refl _), rfl, fun ys hy => by rw [inv_seqB_inj I hy hq]; exact hx⟩, ⟨⟨y, ?_⟩, itB_at st'.1 fun o q => (sb.2 it (Ne.symm hei)).trans q⟩, fun b hb => ?_⟩
    · have e1 : ((i + 1 : Nat) : Int) = (i : Int) + 1 := by omega
      rw [e1]; exact he'
    · have hb' : b < s.heap.objs.size := by
        have e' : b = e ∨ b = it := by simpa using hb
        rcases e' with z | z
        · rw [z]; exact hel
        · rw [z]; exact hil
      rw [upd_ne (Nat.ne_of_lt hb')]
      exact (hf b hb).1
  done := by
    intro X hP hw hK hc i pins s σ H E I hf st hg
    subst hP hw hK
    obtain ⟨⟨old, he⟩, hit⟩ := st
    obtain ⟨xs, hq, hx⟩ := hg
    obtain ⟨its, rv, p⟩ := inv_seqB I hq
    obtain ⟨f0, f1, f2, f3, f4, f5⟩ := hf it (by simp)
    have D := drawsB (prog := X.prog) (w := X.w) (A := X.A.in1) (show X.A.in1.handled = none from I.ok.hd hc) b it a hai its.toArray
    have e0 : i = its.toArray.size := by rw [← hx, rv.length]; simp
    subst e0
    exact wpAny_pyNext_enum_endD D he ⟨hit, p⟩ fun h' eb => ⟨rfl, I.turned (t' := s.toks) (fun b o hb q => eb b o hb q) f0 f1 f3 f4 f5⟩
  self := fun A i s Q E st h => let ⟨⟨_, he⟩, _⟩ := st; wpAny_pyIter_enum he h

theorem meets_enum1 {v : Value} {o : Obj} {T : Heap → Prop} (B : Begins v o T) :
    Meets (Builtin.«enumerate.__new__» ⟨[.type "enumerate", v], []⟩) (fun _ R s => T s.heap ∧
      R (.ok (.ret (.ref (s.heap.push o).objs.size))) { s with heap := (s.heap.push o).push { cls := .type "enumerate", data := .fields #[.none, .bool false, .ref s.heap.objs.size, rawInt 0, .none, .none] } }) :=
  .of_wp fun prog w A R s h => by
    obtain ⟨hp, g, d, tk, os⟩ := s; obtain ⟨h1, h⟩ := h
    have hsub := sub_enumerate
    have q1 : ∀ {A' : Around} {E : Value → Shared → Prop} {Q : Value → Shared → Prop}, Q (.ref hp.objs.size) ⟨hp.push o, g, d, tk, os⟩ → wpAny (model prog w) A' (pyIter v) Q E ⟨hp, g, d, tk, os⟩ :=
      fun q => B.iter prog w _ _ ⟨hp, g, d, tk, os⟩ _ h1 q
    wp_walk using q1
    refine wpAny_stack_any fun st => wpAny_pure ?_
    split
    · rename_i c _ _ _ _ _
      cases (c == Value.type "enumerate")
      · wp_walk using q1
        exact ⟨_, rfl, h⟩
      · wp_walk using q1
        exact ⟨_, rfl, h⟩
    · wp_walk using q1
      exact ⟨_, rfl, h⟩
theorem enum_begins1 {prog : Program} {w : World} {A : Around} {E : Value → Shared → Prop} {s : Shared} {v : Value} {o : Obj} {T : Heap → Prop} {Q : Value → Shared → Prop} (B : Begins v o T) (h1 : T s.heap)
    (h : ∀ h', IsEnum h' (s.heap.objs.size + 1) s.heap.objs.size 0 .none → h'.get? s.heap.objs.size = some o → h'.objs.size = s.heap.objs.size + 2 →
      (∀ b o, s.heap.get? b = some o → h'.get? b = some o) → Q (.ref (s.heap.objs.size + 1)) { s with heap := h' }) :
    wpAny (model prog w) A (call (.type "enumerate") [v]) Q E s := by
  refine callType_new F.called_enumerate (by decide) (F.typeCall_enumerate_1 _) (F.newCall_enumerate_1 _) (fun obj => F.args_object_init_2 obj _) F.entry_enumerate_new
    (meets_enum1 B) ⟨h1, ?_⟩
  have hz : (s.heap.push o).objs.size = s.heap.objs.size + 1 := Heap.size_push ..
  show _ ∧ _
  rw [hz]
  have he : IsEnum ((s.heap.push o).push { cls := .type "enumerate", data := .fields #[.none, .bool false, .ref s.heap.objs.size, rawInt 0, .none, .none] }) (s.heap.objs.size + 1) s.heap.objs.size 0 .none := by
    have := Heap.get?_push_size (s.heap.push o) (o := { cls := .type "enumerate", data := .fields #[.none, .bool false, .ref s.heap.objs.size, rawInt 0, .none, .none] }) rfl
    rw [hz] at this; exact this
  exact ⟨⟨_, he, rfl⟩, h _ he (Heap.get?_push_of_some _ (Heap.get?_push_size _ B.free)) (by rw [Heap.size_push, hz]) fun b o x => Heap.get?_push_of_some _ (Heap.get?_push_of_some _ x)⟩
def iEnumB (K : PySem.W.Frag) (ta : TA) : TI := fun σ H R => ta σ H fun vs H1 => ∃ a b xs, vs = [.ref a] ∧ SqB K b H1 a xs ∧ R (IteB K b a) H1
theorem pi_enumB {X : Cx} {e : Expr} {ta : TA} {p pos tpos : Pos} {elts : List Expr} {kk : Nat} (hg : Gl X "enumerate") (hm : X.mg "enumerate" = none) (ha : PA X [e] ta) (hs : starEach [e] X.env = [(false, eval e X.env)]) :
    PI X (.Tuple elts kk tpos) (.Call (.Name "enumerate" p) [e] [] pos) (iEnumB X.K ta) := by
  refine ⟨fun pins s σ H R I h => ?_⟩
  refine PyProof.Rows.Call_ (ld_blt I hg hm PyProof.Rows.boot_enumerate (PyProof.Rows.callWith_type1 (thn (ha.run pos pins s σ H _ I h) fun us s1 ⟨vs, H1, I1, r1, q1⟩ => ?_) hs rfl))
  obtain ⟨a, b, xs, ex, hq, q⟩ := q1
  subst ex
  cases r1 with
  | cons r rr =>
    cases rr
    cases r
    obtain ⟨its, rv, p'⟩ := inv_seqB I1 hq
    have hlt := seqB_lt p'
    refine enum_begins1 (beginsB b a its.toArray) p' fun h' he hit hsz hk => wpAny_pyIter_enum he ?_
    have I2 : L2.Inv X pins σ H1 { s1 with heap := h' } := I1.kept (t' := s1.toks) hk
    refine ⟨s1.heap.objs.size + 1, [s1.heap.objs.size + 1, s1.heap.objs.size], _, _, H1, rfl, I2, turn_enumB (b := b) (a := a) (e := s1.heap.objs.size + 1) (it := s1.heap.objs.size) (Nat.succ_ne_self _) (Nat.ne_of_gt (Nat.lt_succ_of_lt hlt)) (Nat.ne_of_lt hlt), ⟨⟨.none, he⟩, itB_new hit⟩, fun b hb => ?_, q⟩
    have e' : b = s1.heap.objs.size + 1 ∨ b = s1.heap.objs.size := by simpa using hb
    have hle : s1.heap.objs.size ≤ b := by
      rcases e' with z | z
      · rw [z]; exact Nat.le_add_right _ _
      · rw [z]; exact Nat.le_refl _
    exact I1.fpOk hle (I1.hok.fresh hle)

/-! ### zip -/
def ItzB (K : PySem.W.Frag) (b1 b2 : Bool) (a1 a2 : Addr) : It :=
  ⟨fun i H => ∃ (xs ys : List V) (x y : V), SqB K b1 H a1 xs ∧ SqB K b2 H a2 ys ∧ xs[i]? = some x ∧ ys[i]? = some y,
    fun i H v H' => ∃ T x y, v = .ref T ∧ H T = none ∧ H' = upd H T (.tup [x, y]) ∧ (∀ xs, SqB K b1 H a1 xs → xs[i]? = some x) ∧ ∀ ys, SqB K b2 H a2 ys → ys[i]? = some y,
    fun i H => ∃ xs ys : List V, SqB K b1 H a1 xs ∧ SqB K b2 H a2 ys ∧ i = min xs.length ys.length⟩
theorem turn_zipB {P : Program} {w : World} {K : PySem.W.Frag} {elts : List Expr} {kk : Nat} {tpos : Pos} {b1 b2 : Bool} {a1 a2 z TI TO i1 i2 : Addr} (D : ZipSep2 z TI TO i1 i2 [i1, a1] [i2, a2]) (n1 : a1 ≠ i1) (n2 : a2 ≠ i2) :
    Turn P w K (.Tuple elts kk tpos) (ItzB K b1 b2 a1 a2) [z, TI, TO, i1, i2] z (fun i h => IsZip h z TI TO .none ∧ IsTupOf2 h TI (.ref i1) (.ref i2) ∧ (∃ x y, IsTupOf2 h TO x y) ∧ ItB b1 i1 a1 i h ∧ ItB b2 i2 a2 i h) where
  mem := by simp
  obj := fun i h st c hc => by
    obtain ⟨hz, hTI, ⟨x, y, hTO⟩, h1, h2⟩ := st
    have e' : c = z ∨ c = TI ∨ c = TO ∨ c = i1 ∨ c = i2 := by simpa using hc
    rcases e' with q | q | q | q | q
    · rw [q]; exact ⟨_, hz, fun v q => nomatch q⟩
    · rw [q]; exact ⟨_, hTI, fun v q => nomatch q⟩
    · rw [q]; exact ⟨_, hTO, fun v q => nomatch q⟩
    · rw [q]; exact itB_obj h1
    · rw [q]; exact itB_obj h2
  keep := fun i h h' st k => by
    obtain ⟨hz, hTI, ⟨x, y, hTO⟩, h1, h2⟩ := st
    exact ⟨k z (by simp) _ hz, k TI (by simp) _ hTI, ⟨x, y, k TO (by simp) _ hTO⟩, itB_at h1 fun o q => k i1 (by simp) o q, itB_at h2 fun o q => k i2 (by simp) o q⟩
  item := by
    intro X hP hw hK hc i pins s σ H E I hf st hg
    subst hP hw hK
    obtain ⟨hz, hTI, ⟨x0, y0, hTO⟩, h1, h2⟩ := st
    obtain ⟨xs, ys, x, y, hqx, hqy, hx, hy⟩ := hg
    obtain ⟨its, rv, p⟩ := inv_seqB I hqx
    obtain ⟨its2, rv2, p2⟩ := inv_seqB I hqy
    obtain ⟨u, hu, ru⟩ := rv.get hx
    obtain ⟨u2, hu2, ru2⟩ := rv2.get hy
    have hzl : z < s.heap.objs.size := Heap.lt_size hz
    have D1 := drawsB (prog := X.prog) (w := X.w) (A := X.A.in1) (show X.A.in1.handled = none from I.ok.hd hc) b1 i1 a1 n1 its.toArray
    have D2 := drawsB (prog := X.prog) (w := X.w) (A := X.A.in1) (show X.A.in1.handled = none from I.ok.hd hc) b2 i2 a2 n2 its2.toArray
    refine wpAny_pyNext_zipD2_item (i := i) D D1 D2 hz hTI hTO ⟨h1, p⟩ ⟨h2, p2⟩ (by have := (List.getElem?_eq_some_iff.mp hu).1; simpa using this) (by have := (List.getElem?_eq_some_iff.mp hu2).1; simpa using this) fun v1 v2 h' tk e1 e2 z' TO' h1' h2' hT hsz hk => ?_
    have ev1 : v1 = u := by
      have h1 : its.toArray[i]? = some u := by simpa using hu
      rw [h1] at e1; exact (Option.some.inj e1).symm
    have ev2 : v2 = u2 := by
      have h1 : its2.toArray[i]? = some u2 := by simpa using hu2
      rw [h1] at e2; exact (Option.some.inj e2).symm
    subst ev1 ev2
    refine ⟨_, rfl, wpAny_letOwnedTupleGo_zip (s := { s with heap := h', toks := tk }) z' fun h'' z'' sb => ?_⟩
    have hT2 : h''.get? s.heap.objs.size = some { cls := .type "tuple", data := .seq #[v1, v2] } := (sb.2 _ (Nat.ne_of_gt hzl)).trans hT
    have new : ObjOk X.prog X.w (upd H s.heap.objs.size (.tup [x, y])) h'' s.heap.objs.size (.tup [x, y]) :=
      ⟨by show 2 ≤ sizeLine; decide, [v1, v2], .cons ru (.cons ru2 .nil), ⟨_, hT2, rfl, _, rfl⟩⟩
    have I1 : L2.Inv X pins σ (upd H s.heap.objs.size (.tup [x, y])) { s with heap := h'', toks := tk } :=
      I.turnedNew (t' := tk) (ch := [z, TI, TO, i1, i2]) (fun c o hb q => (sb.2 c (fun q' => hb (by simp [q']))).trans (hk c o (fun q' => hb (by simp [q'])) (fun q' => hb (by simp [q'])) (fun q' => hb (by simp [q'])) (fun q' => hb (by simp [q'])) q)) hf (Nat.le_refl _) new
    have i1z : i1 ≠ z := Ne.symm D.zi1
    have i2z : i2 ≠ z := Ne.symm D.zi2
    refine ⟨.ref s.heap.objs.size, _, I1, rfl, ⟨_, x, y, rfl, I.hok.fresh (Nat.le_refl _), rfl, fun l hl => by rw [inv_seqB_inj I hl hqx]; exact hx, fun l hl => by rw [inv_seqB_inj I hl hqy]; exact hy⟩, ⟨z'', ?_, ⟨v1, v2, ?_⟩, ?_, ?_⟩, fun c hcm => ?_⟩
    · exact (sb.2 _ D.TIz).trans (hk _ _ D.TIz D.TITO D.TIi1 D.TIi2 hTI)
    · exact (sb.2 _ D.TOz).trans TO'
    · exact itB_at h1'.1 fun o q => (sb.2 _ i1z).trans q
    · exact itB_at h2'.1 fun o q => (sb.2 _ i2z).trans q
    · have hlt : c < s.heap.objs.size := by
        have e' : c = z ∨ c = TI ∨ c = TO ∨ c = i1 ∨ c = i2 := by simpa using hcm
        rcases e' with q | q | q | q | q
        · rw [q]; exact hzl
        · rw [q]; exact Heap.lt_size hTI
        · rw [q]; exact Heap.lt_size hTO
        · rw [q]; obtain ⟨_, e1, _⟩ := itB_obj h1; exact Heap.lt_size e1
        · rw [q]; obtain ⟨_, e2, _⟩ := itB_obj h2; exact Heap.lt_size e2
      rw [upd_ne (Nat.ne_of_lt hlt)]
      exact (hf c hcm).1
  done := by
    intro X hP hw hK hc i pins s σ H E I hf st hg
    subst hP hw hK
    obtain ⟨hz, hTI, ⟨x0, y0, hTO⟩, h1, h2⟩ := st
    obtain ⟨xs, ys, hqx, hqy, hend⟩ := hg
    obtain ⟨its, rv, p⟩ := inv_seqB I hqx
    obtain ⟨its2, rv2, p2⟩ := inv_seqB I hqy
    have l1 : xs.length = its.toArray.size := by rw [rv.length]; simp
    have l2 : ys.length = its2.toArray.size := by rw [rv2.length]; simp
    have D1 := drawsB (prog := X.prog) (w := X.w) (A := X.A.in1) (show X.A.in1.handled = none from I.ok.hd hc) b1 i1 a1 n1 its.toArray
    have D2 := drawsB (prog := X.prog) (w := X.w) (A := X.A.in1) (show X.A.in1.handled = none from I.ok.hd hc) b2 i2 a2 n2 its2.toArray
    exact wpAny_pyNext_zipD2_end (i := i) D D1 D2 hz hTI hTO ⟨h1, p⟩ ⟨h2, p2⟩ (by omega) (by omega) (by omega) fun h' tk hk => ⟨rfl, I.turnedL (t' := tk) (ch := [z, TI, TO, i1, i2]) (fun c o hb q =>
      hk c o (fun q' => hb (by simp [q'])) (fun q' => hb (by simp [q'])) (fun q' => hb (by simp [q'])) (fun q' => hb (by simp [q'])) q) hf⟩
  self := fun A i s Q E st h => wpAny_pyIter_zip st.1 h
def iZipB (K : PySem.W.Frag) (ta : TA) : TI := fun σ H R => ta σ H fun vs H1 => ∃ a1 a2 b1 b2 xs ys, vs = [.ref a1, .ref a2] ∧ SqB K b1 H1 a1 xs ∧ SqB K b2 H1 a2 ys ∧ R (ItzB K b1 b2 a1 a2) H1
theorem pi_zipB {X : Cx} {e e2 : Expr} {ta : TA} {p pos tpos : Pos} {elts : List Expr} {kk : Nat} (hg : Gl X "zip") (hm : X.mg "zip" = none) (ha : PA X [e, e2] ta)
    (hs : starEach [e, e2] X.env = (false, eval e X.env) :: starEach [e2] X.env) (hpl : (backTo pos (starEach [e2] X.env)).any (·.1) = false) :
    PI X (.Tuple elts kk tpos) (.Call (.Name "zip" p) [e, e2] [] pos) (iZipB X.K ta) := by
  refine ⟨fun pins s σ H R I h => ?_⟩
  refine PyProof.Rows.Call_ (ld_blt I hg hm PyProof.Rows.boot_zip (PyProof.Rows.callWith_type1 (thn (ha.run pos pins s σ H _ I h) fun us s1 ⟨vs, H1, I1, r1, q1⟩ => ?_) hs hpl))
  obtain ⟨a1, a2, b1, b2, xs, ys, ex, hqx, hqy, q⟩ := q1
  subst ex
  cases r1 with
  | cons r rr =>
    cases rr with
    | cons r' rr =>
      cases rr
      cases r
      cases r'
      obtain ⟨its, rv, p1⟩ := inv_seqB I1 hqx
      obtain ⟨its2, rv2, p2⟩ := inv_seqB I1 hqy
      have la := seqB_lt p1
      have lb := seqB_lt p2
      refine zip_begins2 (beginsB b1 a1 its.toArray) (beginsB b2 a2 its2.toArray) p1 p2 fun h' hz hTI hTO h1 h2 hsz hk => wpAny_pyIter_zip hz ?_
      have I2 : L2.Inv X pins σ H1 { s1 with heap := h' } := I1.kept (t' := s1.toks) hk
      refine ⟨s1.heap.objs.size + 4, [s1.heap.objs.size + 4, s1.heap.objs.size + 2, s1.heap.objs.size + 3, s1.heap.objs.size, s1.heap.objs.size + 1], _, _, H1, rfl, I2, turn_zipB (b1 := b1) (b2 := b2) (a1 := a1) (a2 := a2) (z := s1.heap.objs.size + 4) (TI := s1.heap.objs.size + 2) (TO := s1.heap.objs.size + 3) (i1 := s1.heap.objs.size) (i2 := s1.heap.objs.size + 1) ?_ (Nat.ne_of_lt la) (Nat.ne_of_lt (Nat.lt_succ_of_lt lb)), ⟨hz, hTI, ⟨_, _, hTO⟩, itB_new h1, itB_new h2⟩, fun c hcm => ?_, q⟩
      · have la' : a1 < s1.heap.objs.size := la
        have lb' : a2 < s1.heap.objs.size := lb
        generalize s1.heap.objs.size = n at la' lb'
        refine ⟨?_, ?_, ?_, ?_, ?_, ?_, ?_, ?_, ?_, ?_, ?_, ?_, ?_⟩ <;> first | exact List.mem_cons_self | (intro q; simp at q; done) | (intro q; simp at q; subst q; first | exact absurd la' (Nat.not_lt.mpr (Nat.le_add_right _ _)) | exact absurd lb' (Nat.not_lt.mpr (Nat.le_add_right _ _)) | exact absurd la' (Nat.lt_irrefl _) | exact absurd lb' (Nat.lt_irrefl _))
      · have e' : c = s1.heap.objs.size + 4 ∨ c = s1.heap.objs.size + 2 ∨ c = s1.heap.objs.size + 3 ∨ c = s1.heap.objs.size ∨ c = s1.heap.objs.size + 1 := by simpa using hcm
        have hle : s1.heap.objs.size ≤ c := by
          rcases e' with z | z | z | z | z
          · rw [z]; exact Nat.le_add_right _ _
          · rw [z]; exact Nat.le_add_right _ _
          · rw [z]; exact Nat.le_add_right _ _
          · rw [z]; exact Nat.le_refl _
          · rw [z]; exact Nat.le_add_right _ _
        exact I1.fpOk hle (I1.hok.fresh hle)
end DL

/-! A comprehension whose new list stands apart while its items are made: its records are pinned, not tracked. -/
namespace DL
open PySem PySem.Spec L2
open PyProof.Rows hiding St
set_option autoImplicit false

/-- the records at D are tracked from here on -/
theorem un_track {fs ex : List Addr} {H H' : Hp} {h h' : Heap} {D : Addr} {o : HO} (u : Un fs ex H H' h h') (hx : D ∈ ex) (hn : H D = none) : Un fs ex H (upd H' D o) h h' where
  keep := u.keep
  slot := u.slot
  free := fun b ob q n hb => by rw [upd_ne (by intro z; subst z; exact hb hx)]; exact u.free b ob q n hb
  there := u.there
  tups := fun b xs q => by rw [upd_ne (ne_of_none q hn)]; exact u.tups b xs q
  frzs := fun b ob xs q => by rw [upd_ne (ne_of_none q hn)]; exact u.frzs b ob xs q
  tbls := fun b ps q => by obtain ⟨m, e⟩ := u.tbls b ps q; exact ⟨m, by rw [upd_ne (ne_of_none q hn)]; exact e⟩
theorem hok_track {P : Program} {w : World} {H : Hp} {h : Heap} {D : Addr} {o : HO} (x : HOk P w H h) (hn : H D = none) (new : ObjOk P w (upd H D o) h D o) : HOk P w (upd H D o) h := fun b u e => by
  by_cases hb : b = D
  · subst hb; rw [upd_same] at e; cases e; exact new
  · rw [upd_ne hb] at e
    exact (x b u e).stay (fun c v _ q => q) (fun c q => by rw [upd_ne (ne_of_none q hn)]; exact q) fun c xs q => by rw [upd_ne (ne_of_none q hn)]; exact q
section
variable {X : Cx}
/-- [elt for target in iter if ..]: W by the turn, a measure, the items so far -/
def tLcP (wi : TI) (g : TG) (tt : TT) (te : TE) (vs : List Nat) : TE := fun σ H Q => wi σ H fun J H1 => ∃ W : Nat → Nat → List V → Hp → Prop, (∃ m, W 0 m [] H1) ∧ ∀ i m acc H, W i m acc H →
  (J.stop i H ∧ ∀ D, H D = none → Q (.ref D) (upd H D (.lst acc))) ∨ (J.go i H ∧ ∃ Nx : List V → Hp → Prop, (∀ acc' H', Nx acc' H' → acc'.length ≤ sizeLine ∧ ∃ m', m' < m ∧ W (i + 1) m' acc' H') ∧ ∀ x H', J.yld i H x H' → g x (wipe σ vs) H' fun σ2 H2 => wipe σ2 vs = wipe σ vs ∧ tt σ2 H2 fun b H3 =>
    if b = true then te σ2 H3 fun y H4 => Nx (acc ++ [y]) H4 else Nx acc H3)
theorem lcP_core {pins : List (Addr × Obj)} {s : Shared} {σ : St} {H : Hp} {Q : VK} {elt tg iter : Expr} {ifs : List Expr} {scope : Scope} {own : List (Str × Nat)} {pos pos' : Pos} {wi : TI} {g : TG} {tt : TT} {te : TE} {use : Option (Value → Sem Unit)} {Qf : Value → Shared → Prop}
    (hc : X.calm = true) (hN : X.N.Nodup) (I : Inv X pins σ H s) (hi : PI X tg iter wi) (ok : BlkOk X.N X.env.scope scope own)
    (hg : ∀ (s : Shared) (H : Hp) (C : Addr) (cl : List (Str × Addr)) (fp : List Addr), PG (X.blk s H scope (compEnvC scope cl C X.env) fp) tg g) (ht : ∀ (s : Shared) (H : Hp) (C : Addr) (cl : List (Str × Addr)) (fp : List Addr), PTs (X.blk s H scope (compEnvC scope cl C X.env) fp) ifs tt)
    (he : ∀ (s : Shared) (H : Hp) (C : Addr) (cl : List (Str × Addr)) (fp : List Addr), PE (X.blk s H scope (compEnvC scope cl C X.env) fp) elt te) (hs : ∀ x, foldedSetIterable iter X.env x = pure x)
    (h : tLcP wi g tt te (own.map (·.2)) σ H Q)
    (hRR : ∀ D C s' m H', Inv X pins σ H' s' → Q (.ref D) H' → s'.heap.Ns C m → FpOk X pins H' C → compPost (model X.prog X.w) X.A X.xe use Qf (.ref D) C (.ok .next) s') :
    wpAny (model X.prog X.w) X.A (comprehension (.ListComp elt [⟨tg, iter, ifs, 0⟩] scope pos) scope X.env pos' (newList []) false (eval iter X.env) use) Qf X.xe s := by
  have hfree : ∀ y ∈ scope.names, y.2 = .free → ∃ c, X.env.cells.lookup y.1 = some c := fun y hy e => by
    rcases ok.free y hy e with k | k
    · exact I.ok.has _ (.inl k)
    · exact I.ok.has _ (.inr k)
  refine wpAny_comprehension_free (use := use) rfl hs (closure_ok hfree) ok.kind (fun y hy e => by rw [ok.uniq y hy, e])
    (thn (hi.run pins s σ H _ I h) fun xv s1 hx => thn hx fun itv s2 h2 => ?_)
  obtain ⟨it, fp, tn, J, H2, e, I2, T, st2, f2, q⟩ := h2
  subst e
  refine wpAny_newObj_type (newEnv_comp ?_) (by show 0 ≤ sizeLine; decide)
  generalize hD : s2.heap.objs.size = D
  have hDn : H2 D = none := I2.hok.fresh (Nat.le_of_eq hD)
  obtain ⟨W, ⟨m0, w0⟩, turn⟩ := q
  generalize hs3 : ({ s2 with heap := s2.heap.push { cls := .type "list", data := .seq ([] : List Value).toArray } } : Shared) = s3
  have I3 : Inv X pins σ H2 s3 := by
    rw [← hs3]
    exact I2.kept (t' := s2.toks) (fun b o e => Heap.get?_push_of_some _ e)
  have h3 : s3.heap = s2.heap.push { cls := .type "list", data := .seq ([] : List Value).toArray } := by rw [← hs3]
  have D3 : s3.heap.get? D = some { cls := .type "list", data := .seq ([] : List Value).toArray } := by
    rw [h3, ← hD]; exact Heap.get?_push_size _ rfl
  have sz : ∀ b ∈ fp, b < s2.heap.objs.size := fun b hb => by
    obtain ⟨o, e, _⟩ := T.obj _ _ st2 b hb
    exact Heap.lt_size e
  have Dfp : D ∉ fp := fun m => by have := sz D m; rw [hD] at this; exact Nat.lt_irrefl _ this
  have fD : FpOk X pins H2 D := I2.fpOk (Nat.le_of_eq hD) hDn
  have f3 : ∀ b ∈ D :: fp, FpOk X pins H2 b ∧ b < s3.heap.objs.size := fun b hb => by
    rcases List.mem_cons.mp hb with e | hb
    · rw [e]; exact ⟨fD, Heap.lt_size D3⟩
    · exact ⟨f2 b hb, by rw [h3, Heap.size_push]; exact Nat.lt_succ_of_lt (sz b hb)⟩
  have st3 : tn 0 s3.heap := T.keep _ _ _ st2 fun b _ o e => by rw [h3]; exact Heap.get?_push_of_some _ e
  have I4 := block_start I3 ok hN f3
  have pg := hg s3 H2 s3.heap.objs.size (cellsFrom (s3.heap.objs.size + 1) scope.names (cloFrom X.env.cells scope.names [])) (D :: fp)
  have pt := ht s3 H2 s3.heap.objs.size (cellsFrom (s3.heap.objs.size + 1) scope.names (cloFrom X.env.cells scope.names [])) (D :: fp)
  have pe := he s3 H2 s3.heap.objs.size (cellsFrom (s3.heap.objs.size + 1) scope.names (cloFrom X.env.cells scope.names [])) (D :: fp)
  show codeAny _ _ (.compStart (.ListComp elt [⟨tg, iter, ifs, 0⟩] scope pos) 0 (.ref it) (.ref D) (compEnvC scope (cellsFrom (s3.heap.objs.size + 1) scope.names (cloFrom X.env.cells scope.names [])) s3.heap.objs.size X.env)) (compPost (model X.prog X.w) X.A X.xe use Qf (.ref D) s3.heap.objs.size) { s3 with heap := pushCells (s3.heap.push { cls := .type "dict", data := .dict #[] }) scope.names }
  have nfp : ∀ b ∈ D :: fp, H2 b = none := fun b hb => (f3 b hb).1.1
  generalize hce : compEnvC scope (cellsFrom (s3.heap.objs.size + 1) scope.names (cloFrom X.env.cells scope.names [])) s3.heap.objs.size X.env = ce at I4 pg pt pe ⊢
  have cL : ce.locals = s3.heap.objs.size := by subst hce; rfl
  generalize hs4 : ({ s3 with heap := pushCells (s3.heap.push { cls := .type "dict", data := .dict #[] }) scope.names } : Shared) = s4 at I4 ⊢
  have k34 : ∀ b o, s3.heap.get? b = some o → s4.heap.get? b = some o := fun b o e => by rw [← hs4]; exact pushCells_keeps _ _ _ _ (Heap.get?_push_of_some _ e)
  have st4 : tn 0 s4.heap := T.keep _ _ _ st3 fun b _ o e => k34 b o e
  have stat : ∀ {σ' : St} {H' : Hp} {s' : Shared}, Inv (X.blk s3 H2 scope ce (D :: fp)) [] σ' H' s' → (∀ b ∈ D :: fp, H' b = none) → ∀ b ∈ D :: fp, FpOk (X.blk s3 H2 scope ce (D :: fp)) [] H' b := fun {σ' H' s'} I' hn b hb =>
    ⟨hn b hb, (I'.ok.exf b hb).1, I'.ok.exfs b hb, .inl hb, fun x c e => (I'.ok.exf b hb).2 x c e, fun p hp => absurd (show p ∈ ([] : List (Addr × Obj)) ++ [] from hp) (by simp)⟩
  have loop : codeAny (model X.prog X.w) X.A (.compLoop (.ListComp elt [⟨tg, iter, ifs, 0⟩] scope pos) 0 (.ref it) (.ref D) ce) (compPost (model X.prog X.w) X.A X.xe use Qf (.ref D) s3.heap.objs.size) s4 := by
    refine compLoop_any (fun n s' => ∃ i acc H', Inv (X.blk s3 H2 scope ce (D :: fp)) [] (wipe σ (own.map (·.2))) H' s' ∧ tn i s'.heap ∧ (∀ b ∈ D :: fp, H' b = none) ∧ (∃ (its : List Value) (k : Nat), Vals acc its ∧ s'.heap.get? D = some { cls := .type "list", data := .seq its.toArray k }) ∧ acc.length ≤ sizeLine ∧ W i n acc H') ?_ m0 ⟨0, [], H2, I4, st4, nfp, ⟨[], 0, .nil, k34 _ _ D3⟩, Nat.zero_le _, w0⟩
    rintro n s5 ⟨i, acc, H5, I5, st5, n5, ⟨its, kk, rv, oD⟩, la, w5⟩
    have n5' : ∀ b ∈ fp, H5 b = none := fun b hb => n5 b (List.mem_cons_of_mem _ hb)
    have stat5 := stat I5 n5
    rcases turn i n acc H5 w5 with ⟨stop, qq⟩ | ⟨go, Nx, hNx, step⟩
    · have td := T.done (X.blk s3 H2 scope ce (D :: fp)) rfl rfl rfl hc i ([] ++ pinsAt [D] s5.heap) s5 _ H5 (fun _ _ => False) (I5.pinned (pins := []) (fp := [D]) (fun b hb => stat5 b (by rw [show b = D by simpa using hb]; exact List.mem_cons_self)) (fun b hb => by rw [show b = D by simpa using hb]; exact ⟨_, oD, fun v z => nomatch z⟩)) (fun b hb => by
        obtain ⟨a1, a2, a3, a4, a5, a6⟩ := stat5 b (List.mem_cons_of_mem _ hb)
        refine ⟨a1, a2, a3, a4, a5, fun p hp z => ?_⟩
        rcases List.mem_append.mp hp with hp | hp
        · exact absurd hp (by simp)
        · obtain ⟨e1, _⟩ := of_pinsAt hp
          rw [show p.1 = D by simpa using e1] at z
          rw [← z] at hb
          exact Dfp hb) st5 stop
      refine thnF td fun r s6 ⟨hr, I6⟩ => ?_
      subst hr
      have o6 := I6.pin (D, _) (List.mem_append_right _ (mem_pinsAt (fp := [D]) (by simp) oD))
      have o6' : s6.heap.get? D = some _ := o6.1
      have nD : H5 D = none := n5 D List.mem_cons_self
      have new : ObjOk X.prog X.w (upd H5 D (.lst acc)) s6.heap D (.lst acc) := ⟨la, its, kk, rv, o6'⟩
      have I7 : Inv X pins σ (upd H5 D (.lst acc)) s6 := I3.call' (ch := D :: fp) I6.os (un_track I6.base List.mem_cons_self hDn) (hok_track I6.hok nD new) I6.bare fun b hb => ⟨(f3 b hb).1.2.2.2.1, (f3 b hb).1.2.1, (f3 b hb).1.2.2.2.2.1, (f3 b hb).1.2.2.2.2.2⟩
      have nC : (upd H5 D (.lst acc)) s3.heap.objs.size = none := by
        have z : H5 ce.locals = none := I6.free
        rw [cL] at z
        rw [upd_ne (Nat.ne_of_gt (Heap.lt_size D3))]
        exact z
      obtain ⟨m, hn, _⟩ := I6.loc
      have hn : s6.heap.Ns ce.locals m := hn
      rw [cL] at hn
      exact hRR D s3.heap.objs.size s6 m _ I7 (qq D nD) hn (I3.fpOk (Nat.le_refl _) nC)
    · have ti := T.item (X.blk s3 H2 scope ce (D :: fp)) rfl rfl rfl hc i ([] ++ pinsAt [D] s5.heap) s5 _ H5 (fun _ _ => False) (I5.pinned (pins := []) (fp := [D]) (fun b hb => stat5 b (by rw [show b = D by simpa using hb]; exact List.mem_cons_self)) (fun b hb => by rw [show b = D by simpa using hb]; exact ⟨_, oD, fun v z => nomatch z⟩)) (fun b hb => by
        obtain ⟨a1, a2, a3, a4, a5, a6⟩ := stat5 b (List.mem_cons_of_mem _ hb)
        refine ⟨a1, a2, a3, a4, a5, fun p hp z => ?_⟩
        rcases List.mem_append.mp hp with hp | hp
        · exact absurd hp (by simp)
        · obtain ⟨e1, _⟩ := of_pinsAt hp
          rw [show p.1 = D by simpa using e1] at z
          rw [← z] at hb
          exact Dfp hb) st5 go
      refine thnF ti fun r s6 ⟨u, hr, h6⟩ => ?_
      subst hr
      refine thnF h6 fun _ s7 ⟨x, H7, I7, r7, y7, st7, n7⟩ => ?_
      have o7 := I7.pin (D, _) (List.mem_append_right _ (mem_pinsAt (fp := [D]) (by simp) oD))
      have oD7 : s7.heap.get? D = some _ := o7.1
      have nD7 : H7 D = none := o7.2.1
      have n7' : ∀ b ∈ D :: fp, H7 b = none := fun b hb => by
        rcases List.mem_cons.mp hb with e | hb
        · rw [e]; exact nD7
        · exact n7 b hb
      have I7u : Inv (X.blk s3 H2 scope ce (D :: fp)) [] (wipe σ (own.map (·.2))) H7 s7 := I7.unpinned (pins := [])
      have I7' := I7u.pinned (stat I7u n7') (fun b hb => by
        rcases List.mem_cons.mp hb with e | hb
        · rw [e]; exact ⟨_, oD7, fun v z => nomatch z⟩
        · exact T.obj _ _ st7 b hb)
      refine thnF (pg.run _ s7 _ H7 x u _ I7' r7 (step x H7 y7)) fun _ s8 ⟨σ8, H8, I8, hw8, q8⟩ => ?_
      refine thnF (pt.run _ s8 σ8 H8 _ I8 q8) fun b s9 ⟨H9, I9, q9⟩ => ?_
      have pin' : ∀ {s' : Shared} {H' : Hp}, Inv (X.blk s3 H2 scope ce (D :: fp)) ([] ++ pinsAt (D :: fp) s7.heap) σ8 H' s' → ∀ b ∈ D :: fp, ∀ o, s7.heap.get? b = some o → s'.heap.get? b = some o ∧ H' b = none := fun {s' H'} I' b hb o e =>
        let z := I'.pin (b, o) (List.mem_append_right _ (List.mem_append_right _ (mem_pinsAt hb e)))
        ⟨z.1, z.2.1⟩
      have hl : (wipe σ (own.map (·.2))).length = σ8.length := by rw [← hw8, wipe_length]
      have weak : ∀ {s' : Shared} {H' : Hp}, Inv (X.blk s3 H2 scope ce (D :: fp)) [] σ8 H' s' → Inv (X.blk s3 H2 scope ce (D :: fp)) [] (wipe σ (own.map (·.2))) H' s' := fun {s' H'} I' => I'.weak hl (fun j v e => by
        rw [← hw8] at e
        exact (wipe_some e).1)
      cases b with
      | false =>
        simp only [Bool.false_eq_true, if_false] at q9 ⊢
        obtain ⟨la', m', hm, w'⟩ := hNx acc H9 q9
        refine ⟨m', hm, i + 1, acc, H9, weak (I9.unpinned (pins := [])), T.keep _ _ _ st7 fun b hb o e => (pin' I9 b (List.mem_cons_of_mem _ hb) o e).1, fun b hb => ?_, ⟨its, kk, rv, (pin' I9 D List.mem_cons_self _ oD7).1⟩, la', w'⟩
        rcases List.mem_cons.mp hb with e | hb'
        · rw [e]; exact (pin' I9 D List.mem_cons_self _ oD7).2
        · obtain ⟨o, e, _⟩ := T.obj _ _ st7 b hb'
          exact (pin' I9 b hb o e).2
      | true =>
        simp only [if_true] at q9 ⊢
        refine thnF (pe.run _ s9 σ8 H9 _ I9 q9) fun z s10 ⟨yv, H10, I10, r10, nx⟩ => ?_
        obtain ⟨la', m', hm, w'⟩ := hNx _ H10 nx
        have oD10 := pin' I10 D List.mem_cons_self _ oD7
        have n10 : ∀ b ∈ D :: fp, H10 b = none := fun b hb => by
          rcases List.mem_cons.mp hb with e | hb'
          · rw [e]; exact oD10.2
          · obtain ⟨o, e, _⟩ := T.obj _ _ st7 b hb'
            exact (pin' I10 b hb o e).2
        have I10u : Inv (X.blk s3 H2 scope ce (D :: fp)) [] σ8 H10 s10 := I10.unpinned (pins := [])
        have hlen : its.length < sizeLine := by
          rw [List.length_append] at la'
          have := rv.length
          simp at la'
          omega
        refine append_at (hsz := by rw [List.size_toArray]; omega) oD10.1 fun h' sb ho' => ?_
        obtain ⟨g1, g2, g3, g4, g5, g6⟩ := stat I10u n10 D List.mem_cons_self
        have I11 : Inv (X.blk s3 H2 scope ce (D :: fp)) [] σ8 H10 { s10 with heap := h' } := I10u.turned (t' := s10.toks) (fun b o hb e => (sb.2 b hb).trans e) g1 g2 g4 g5 g6
        refine ⟨m', hm, i + 1, acc ++ [yv], H10, weak I11, T.keep _ _ _ st7 fun b hb o e => ?_, n10, ⟨its ++ [z], kk + 1, rv.append (.cons r10 .nil), ?_⟩, la', w'⟩
        · exact (sb.2 b (fun z => Dfp (by rw [← z]; exact hb))).trans (pin' I10 b (List.mem_cons_of_mem _ hb) o e).1
        · show h'.get? D = _
          rw [ho']
          simp
  exact codeAny_compStart_list loop (T.self X.A 0 _ _ _ st4 loop)
/-- as a value -/
theorem pe_lcP {elt tg iter : Expr} {ifs : List Expr} {scope : Scope} {own : List (Str × Nat)} {pos : Pos} {wi : TI} {g : TG} {tt : TT} {te : TE} (hc : X.calm = true) (hN : X.N.Nodup) (hi : PI X tg iter wi) (ok : BlkOk X.N X.env.scope scope own)
    (hg : ∀ (s : Shared) (H : Hp) (C : Addr) (cl : List (Str × Addr)) (fp : List Addr), PG (X.blk s H scope (compEnvC scope cl C X.env) fp) tg g) (ht : ∀ (s : Shared) (H : Hp) (C : Addr) (cl : List (Str × Addr)) (fp : List Addr), PTs (X.blk s H scope (compEnvC scope cl C X.env) fp) ifs tt)
    (he : ∀ (s : Shared) (H : Hp) (C : Addr) (cl : List (Str × Addr)) (fp : List Addr), PE (X.blk s H scope (compEnvC scope cl C X.env) fp) elt te) (hs : ∀ x, foldedSetIterable iter X.env x = pure x) :
    PE X (.ListComp elt [⟨tg, iter, ifs, 0⟩] scope pos) (tLcP wi g tt te (own.map (·.2))) := by
  refine ⟨fun pins s σ H Q I h => ?_⟩
  rw [eval_ListComp]
  refine lcP_core hc hN I hi ok hg ht he hs h fun D C s' m H' I' q hn f => ⟨m, hn, fun h'' sb => ?_⟩
  obtain ⟨f0, f1, f2, f3, f4, f5⟩ := f
  exact ⟨.ref D, H', I'.turned (t' := s'.toks) (fun b o hb e => (sb.2 b hb).trans e) f0 f1 f3 f4 f5, rfl, q⟩
/-- name = [..], the name a local -/
theorem ps_setLcP {i : Nat} {y : Str} {py : Pos} {elt tg iter : Expr} {ifs : List Expr} {scope : Scope} {own : List (Str × Nat)} {pos spos : Pos} {wi : TI} {g : TG} {tt : TT} {te : TE} (hc : X.calm = true) (hN : X.N.Nodup) (hy : X.N[i]? = some y) (hyl : X.env.scope.names.lookup y = some .local)
    (hsw : swapsWith (.ListComp elt [⟨tg, iter, ifs, 0⟩] scope pos) (some (.Name y py)) spos.line X.env = pure true) (hi : PI X tg iter wi) (ok : BlkOk X.N X.env.scope scope own)
    (hg : ∀ (s : Shared) (H : Hp) (C : Addr) (cl : List (Str × Addr)) (fp : List Addr), PG (X.blk s H scope (compEnvC scope cl C X.env) fp) tg g) (ht : ∀ (s : Shared) (H : Hp) (C : Addr) (cl : List (Str × Addr)) (fp : List Addr), PTs (X.blk s H scope (compEnvC scope cl C X.env) fp) ifs tt)
    (he : ∀ (s : Shared) (H : Hp) (C : Addr) (cl : List (Str × Addr)) (fp : List Addr), PE (X.blk s H scope (compEnvC scope cl C X.env) fp) elt te) (hs : ∀ x, foldedSetIterable iter X.env x = pure x) :
    PS X (.Assign [.Name y py] (.ListComp elt [⟨tg, iter, ifs, 0⟩] scope pos) spos) (tAsg (tLcP wi g tt te (own.map (·.2))) (gName i)) := by
  refine ⟨fun pins s σ H D I h => ?_⟩
  rw [exec_Assign_Name_used _ _ _ _ hsw]
  refine wpAny_bind (wpAny_standAt (wpAny_bind ?_))
  show wpAny _ X.A (do let _ ← comprehension (.ListComp elt [⟨tg, iter, ifs, 0⟩] scope pos) scope X.env (firstIterPos [⟨tg, iter, ifs, 0⟩] pos) (newList []) false (eval iter X.env) (some (assign (.Name y py) X.env))) _ _ s
  have h : tLcP wi g tt te (own.map (·.2)) σ H (fun x H1 => gName i x σ H1 D.nx) := h
  refine wpAny_bind (thn (lcP_core (Qf := fun _ s' => SP X pins D .next s') hc hN I hi ok hg ht he hs h fun L C s' m H' I' q hn f => ?_) fun _ s' hq => wpAny_pure (wpAny_pure hq))
  show wpAny _ _ (assign (.Name y py) X.env (.ref L)) _ _ _
  refine wpAny_assign_Name (store_ok2 (v := V.ref L) I' hN hy (.inl hyl) rfl (fun s2 I2 ⟨a, sb, ha⟩ => ?_) (.inr hyl))
  obtain ⟨f0, f1, f2, f3, f4, f5⟩ := f
  have haC : C ≠ a := by
    rcases ha with z | z
    · rw [z]; exact f1
    · exact fun e => f4 y a z e.symm
  refine ⟨m, hn.sameBut sb haC, fun h3 sb3 => ?_⟩
  exact ⟨_, H', I2.turned (t' := s2.toks) (fun b o hb e => (sb3.2 b hb).trans e) f0 f1 f3 f4 f5, q⟩
end
end DL

/-! Walks and comprehensions over data. -/
namespace DL
open PySem PySem.Spec L2
set_option autoImplicit false

/-- the iterator gives l's items -/
def ItOk (G : Gx) (F : Hp) (J : It) (l : List D) : Prop := ∀ (i : Nat) (F1 : Hp) (r : Pl) (S : Store) (H : Hp), Same F F1 → Rp G F1 r S H →
  (i < l.length → J.go i H ∧ ∀ x H', J.yld i H x H' → ∃ F2 d, Same F1 F2 ∧ Rp G F2 r S H' ∧ l[i]? = some d ∧ Is G F2 x d) ∧ (i = l.length → J.stop i H)
theorem ItOk.mono {G : Gx} {F F' : Hp} {J : It} {l : List D} (h : ItOk G F J l) (s : Same F F') : ItOk G F' J l := fun i F1 r S H s1 R => h i F1 r S H (s.trans s1) R
def rdI (G : Gx) (Γ : Ev) (W : WX) (a : E) : TI := fun σ H Q => ∃ F r S e, Rp G F r S H ∧ Lo G F r σ e ∧ Post G W σ (fun F _ J l => ItOk G F J l) F r (evI Γ a e S) Q
theorem pi_imp {X : Cx} {tg e : Expr} {t t' : TI} (h : PI X tg e t) (k : ∀ σ H Q, t' σ H Q → t σ H Q) : PI X tg e t' := ⟨fun pins s σ H Q I q => h.run pins s σ H Q I (k σ H Q q)⟩
section
variable {G : Gx} {Γ : Ev} {tb : Tb} {c : Sc} {X : Cx} {W : WX} {j : Nat} {pos : Pos} {tg : Expr}

theorem seq_of {F : Hp} {x : V} {d : D} {l : List D} (h : Is G F x d) (e : seqOf d = some l) : ∃ a b xs, x = .ref a ∧ (∀ H', Same F H' → SqB G.K b H' a xs) ∧ IsL G F xs l := by
  cases d <;> first | (simp [seqOf] at e; done) | skip
  · cases e
    cases h with | tup h t => exact ⟨_, false, _, rfl, fun H' s => same_sqT s h, t⟩
  · cases e
    cases h with | lst h t => exact ⟨_, true, _, rfl, fun H' s => SqL.of (s _ _ h), t⟩
  · cases e
    cases h with | scr h t => exact ⟨_, true, _, rfl, fun H' s => s.seq h, t⟩
theorem it_seq {F : Hp} {a : Addr} {b : Bool} {xs : List V} {l : List D} (h : ∀ H', Same F H' → SqB G.K b H' a xs) (t : IsL G F xs l) : ItOk G F (ItS G.K b a) l := fun i F1 r S H s R => by
  have q := h H (s.trans R.sub)
  refine ⟨fun hi => ?_, fun hi => ?_⟩
  · obtain ⟨v, e, iv⟩ := t.get (List.getElem?_eq_getElem hi)
    have yl : ∀ x H', (ItS G.K b a).yld i H x H' → H' = H ∧ x = v := fun x H' y => by
      cases b
      · exact ⟨y.1, Option.some.inj ((y.2 xs q).symm.trans e)⟩
      · exact ⟨y.1, Option.some.inj ((y.2 xs q).symm.trans e)⟩
    refine ⟨?_, fun x H' y => ?_⟩
    · cases b <;> exact ⟨xs, v, q, e⟩
    · obtain ⟨rfl, rfl⟩ := yl x H' y
      exact ⟨F1, _, Same.refl _, R, List.getElem?_eq_getElem hi, iv.mono s⟩
  · cases b <;> exact ⟨xs, q, by rw [t.length, hi]; exact Nat.le_refl _⟩
theorem di_seq (C : Ct G Γ tb c X W j) {a : E} {ea : Expr} (ha : PE X ea (rdE G Γ W a)) : PI X tg ea (rdI G Γ W (.cons a .nil)) :=
  pi_imp (pi_seq ha) fun σ H Q ⟨F, r, S, e, R, L, p⟩ => by
    unfold evI at p
    refine ⟨F, r, S, e, R, L, Post.imp (Post.bnD p) fun x H1 ⟨F1, r1, S1, d1, e1, R1, q1, p1⟩ => ?_⟩
    cases q : seqOf d1 with
    | none => rw [q] at p1; exact p1.elim
    | some l =>
      rw [q] at p1
      obtain ⟨a, b, xs, rfl, h1, h2⟩ := seq_of q1 q
      exact ⟨a, b, xs, rfl, by rw [C.K]; exact h1 _ R1.sub, Post.done p1 .refl R1 (by rw [C.K]; exact it_seq h1 h2)⟩
theorem it_rng {F : Hp} {lo : Int} {n : Nat} : ItOk G F (Itr lo n) ((List.range n).map fun (i : Nat) => D.int (lo + i)) := fun i F1 r S H s R => by
  refine ⟨fun hi => ⟨by show i < n; simpa using hi, fun x H' y => ?_⟩, fun hi => by show n ≤ i; simp at hi; omega⟩
  obtain ⟨rfl, rfl⟩ := y
  have hi' : i < n := by simpa using hi
  exact ⟨F1, .int (lo + i), Same.refl _, R, by simp [hi'], .int _⟩
theorem di_rng1 (C : Ct G Γ tb c X W j) {a : E} {ea : Expr} {px : Pos} (hf : Str.ofString "range" ∈ tb.free) (hg : isGlB c (Str.ofString "range") = true) (ha : PE X ea (rdE G Γ W a)) (hp : plainE ea = true) :
    PI X tg (.Call (.Name "range" px) [ea] [] pos) (rdI G Γ W (.rng1 a)) := by
  obtain ⟨g1, g2⟩ := gl_of C hg
  refine pi_imp (pi_range1 g1 (C.wd.fr _ hf) (pa_cons ha pa_nil (star_cons hp _ _)) (star_cons hp _ _)) fun σ H Q ⟨F, r, S, e, R, L, p⟩ => ?_
  unfold evI at p
  refine ⟨F, r, S, e, R, L, Post.imp (Post.bnD p) fun x H1 ⟨F1, r1, S1, d1, e1, R1, q1, p1⟩ => ?_⟩
  cases d1 <;> first | exact p1.elim | skip
  rename_i i
  simp only at p1
  split at p1
  · rename_i hs
    unfold small62 at hs
    simp only [Bool.and_eq_true, decide_eq_true_eq] at hs
    cases q1
    refine ⟨i, rfl, hs.1, hs.2, Post.done p1 .refl R1 ?_⟩
    have := it_rng (G := G) (F := F1) (lo := 0) (n := i.toNat)
    unfold rngL
    rw [Int.sub_zero]
    exact this
  · exact p1.elim
theorem di_rng2 (C : Ct G Γ tb c X W j) {a b : E} {ea eb : Expr} {px : Pos} (hf : Str.ofString "range" ∈ tb.free) (hg : isGlB c (Str.ofString "range") = true) (ha : PE X ea (rdE G Γ W a)) (hp : plainE ea = true) (hb : PE X eb (rdE G Γ W b)) (hp' : plainE eb = true) :
    PI X tg (.Call (.Name "range" px) [ea, eb] [] pos) (rdI G Γ W (.rng2 a b)) := by
  obtain ⟨g1, g2⟩ := gl_of C hg
  refine pi_imp (pi_range2 g1 (C.wd.fr _ hf) (pa_cons ha (pa_cons hb pa_nil (star_cons hp' _ _)) (star_cons hp _ _)) (by rw [star_cons hp, star_cons hp']; rfl) (star_cons hp' _ _)) fun σ H Q ⟨F, r, S, e, R, L, p⟩ => ?_
  unfold evI at p
  refine ⟨F, r, S, e, R, L, Post.imp (Post.bnD p) fun x H1 ⟨F1, r1, S1, d1, e1, R1, q1, p1⟩ => ?_⟩
  refine ⟨F1, r1, S1, e, R1, L.mono e1, Post.imp (Post.bnD p1) fun y H2 ⟨F2, r2, S2, d2, e2, R2, q2, p2⟩ => ?_⟩
  cases d1 <;> cases d2 <;> first | exact p2.elim | skip
  simp only at p2
  split at p2
  · rename_i hs
    unfold small62 at hs
    simp only [Bool.and_eq_true, decide_eq_true_eq] at hs
    cases q1
    cases q2
    exact ⟨_, _, rfl, ⟨hs.1.1, hs.1.2, hs.2.1, hs.2.2⟩, Post.done p2 .refl R2 (by unfold rngL; exact it_rng)⟩
  · exact p2.elim
theorem enum_at : ∀ {l : List D} {n i : Nat}, (enumL n l)[i]? = (l[i]?).map fun d => D.tup [.int ((n + i : Nat) : Int), d]
  | [], n, i => by simp [enumL]
  | x :: r, n, 0 => by simp [enumL]
  | x :: r, n, i + 1 => by
    have := enum_at (l := r) (n := n + 1) (i := i)
    simp only [enumL, List.getElem?_cons_succ]
    rw [this, show n + 1 + i = n + (i + 1) by omega]
theorem enum_len : ∀ {l : List D} {n : Nat}, (enumL n l).length = l.length
  | [], n => rfl
  | x :: r, n => by simp [enumL, enum_len (l := r)]
theorem it_enum {F : Hp} {a : Addr} {b : Bool} {xs : List V} {l : List D} (h : ∀ H', Same F H' → SqB G.K b H' a xs) (t : IsL G F xs l) : ItOk G F (IteB G.K b a) (enumL 0 l) := fun i F1 r S H s R => by
  have q := h H (s.trans R.sub)
  refine ⟨fun hi => ?_, fun hi => ⟨xs, q, by rw [t.length, hi, enum_len]⟩⟩
  rw [enum_len] at hi
  obtain ⟨v, e, iv⟩ := t.get (List.getElem?_eq_getElem hi)
  refine ⟨⟨xs, v, q, e⟩, fun x H' y => ?_⟩
  obtain ⟨T, w, rfl, hT, rfl, y⟩ := y
  have ew : w = v := Option.some.inj ((y xs q).symm.trans e)
  subst ew
  obtain ⟨R2, s2, i2⟩ := new_tup (l := [.int (i : Nat), l[i]]) R hT (.cons (.int _) (.cons (iv.mono s) .nil))
  exact ⟨_, _, s2, R2, by rw [enum_at, List.getElem?_eq_getElem hi]; simp, i2⟩
theorem di_enum (C : Ct G Γ tb c X W j) {a : E} {ea : Expr} {px tpos : Pos} {elts : List Expr} {kk : Nat} (hf : Str.ofString "enumerate" ∈ tb.free) (hg : isGlB c (Str.ofString "enumerate") = true) (ha : PE X ea (rdE G Γ W a)) (hp : plainE ea = true) :
    PI X (.Tuple elts kk tpos) (.Call (.Name "enumerate" px) [ea] [] pos) (rdI G Γ W (.enum a)) := by
  obtain ⟨g1, g2⟩ := gl_of C hg
  refine pi_imp (pi_enumB g1 (C.wd.fr _ hf) (pa_cons ha pa_nil (star_cons hp _ _)) (star_cons hp _ _)) fun σ H Q ⟨F, r, S, e, R, L, p⟩ => ?_
  unfold evI at p
  refine ⟨F, r, S, e, R, L, Post.imp (Post.bnD p) fun x H1 ⟨F1, r1, S1, d1, e1, R1, q1, p1⟩ => ?_⟩
  cases q : seqOf d1 with
  | none => rw [q] at p1; exact p1.elim
  | some l =>
    rw [q] at p1
    obtain ⟨a, b, xs, rfl, h1, h2⟩ := seq_of q1 q
    exact ⟨a, b, xs, rfl, by rw [C.K]; exact h1 _ R1.sub, Post.done p1 .refl R1 (by rw [C.K]; exact it_enum h1 h2)⟩
theorem zip_at : ∀ {l m : List D} {i : Nat} {x y : D}, l[i]? = some x → m[i]? = some y → (zipL l m)[i]? = some (.tup [x, y])
  | x :: r, y :: s, 0, _, _, h1, h2 => by simp at h1 h2; subst h1 h2; rfl
  | x :: r, y :: s, i + 1, _, _, h1, h2 => by simp only [zipL, List.getElem?_cons_succ]; exact zip_at (by simpa using h1) (by simpa using h2)
  | [], _, _, _, _, h1, _ => by simp at h1
  | _ :: _, [], _, _, _, _, h2 => by simp at h2
theorem zip_len : ∀ {l m : List D}, (zipL l m).length = min l.length m.length
  | [], m => by simp [zipL]
  | _ :: _, [] => by simp [zipL]
  | x :: r, y :: s => by simp [zipL, zip_len (l := r) (m := s)]
theorem it_zip {F : Hp} {a1 a2 : Addr} {b1 b2 : Bool} {xs ys : List V} {l m : List D} (h : ∀ H', Same F H' → SqB G.K b1 H' a1 xs) (t : IsL G F xs l) (h' : ∀ H', Same F H' → SqB G.K b2 H' a2 ys) (t' : IsL G F ys m) : ItOk G F (ItzB G.K b1 b2 a1 a2) (zipL l m) := fun i F1 r S H s R => by
  have q := h H (s.trans R.sub)
  have q' := h' H (s.trans R.sub)
  refine ⟨fun hi => ?_, fun hi => ⟨xs, ys, q, q', by rw [t.length, t'.length, hi, zip_len]⟩⟩
  rw [zip_len] at hi
  have hi1 : i < l.length := by omega
  have hi2 : i < m.length := by omega
  obtain ⟨v, e, iv⟩ := t.get (List.getElem?_eq_getElem hi1)
  obtain ⟨v', e', iv'⟩ := t'.get (List.getElem?_eq_getElem hi2)
  refine ⟨⟨xs, ys, v, v', q, q', e, e'⟩, fun x H' y => ?_⟩
  obtain ⟨T, w, w', rfl, hT, rfl, y1, y2⟩ := y
  have ew : w = v := Option.some.inj ((y1 xs q).symm.trans e)
  have ew' : w' = v' := Option.some.inj ((y2 ys q').symm.trans e')
  subst ew ew'
  obtain ⟨R2, s2, i2⟩ := new_tup (l := [l[i], m[i]]) R hT (.cons (iv.mono s) (.cons (iv'.mono s) .nil))
  exact ⟨_, _, s2, R2, zip_at (List.getElem?_eq_getElem hi1) (List.getElem?_eq_getElem hi2), i2⟩
theorem di_zip (C : Ct G Γ tb c X W j) {a b : E} {ea eb : Expr} {px tpos : Pos} {elts : List Expr} {kk : Nat} (hf : Str.ofString "zip" ∈ tb.free) (hg : isGlB c (Str.ofString "zip") = true) (ha : PE X ea (rdE G Γ W a)) (hp : plainE ea = true) (hb : PE X eb (rdE G Γ W b)) (hp' : plainE eb = true) :
    PI X (.Tuple elts kk tpos) (.Call (.Name "zip" px) [ea, eb] [] pos) (rdI G Γ W (.zip a b)) := by
  obtain ⟨g1, g2⟩ := gl_of C hg
  refine pi_imp (pi_zipB g1 (C.wd.fr _ hf) (pa_cons ha (pa_cons hb pa_nil (star_cons hp' _ _)) (star_cons hp _ _)) (star_cons hp _ _) (by rw [star_cons hp']; rfl)) fun σ H Q ⟨F, r, S, e, R, L, p⟩ => ?_
  unfold evI at p
  refine ⟨F, r, S, e, R, L, Post.imp (Post.bnD p) fun x H1 ⟨F1, r1, S1, d1, e1, R1, q1, p1⟩ => ?_⟩
  refine ⟨F1, r1, S1, e, R1, L.mono e1, Post.imp (Post.bnD p1) fun y H2 ⟨F2, r2, S2, d2, e2, R2, q2, p2⟩ => ?_⟩
  split at p2
  · rename_i l m e3 e4
    obtain ⟨a1, b1, xs, rfl, h1, h2⟩ := seq_of (q1.mono e2.sub) e3
    obtain ⟨a2, b2, ys, rfl, h3, h4⟩ := seq_of q2 e4
    exact ⟨a1, a2, b1, b2, xs, ys, rfl, by rw [C.K]; exact h1 _ R2.sub, by rw [C.K]; exact h3 _ R2.sub, Post.done p2 .refl R2 (by rw [C.K]; exact it_zip h1 h2 h3 h4)⟩
  · exact p2.elim

/-! ### targets -/
def rdG (G : Gx) (g : List Nat) : TG := fun v σ H Q => ∃ F r S e u e1, Rp G F r S H ∧ Lo G F r σ e ∧ IsU G F r v u ∧ bindU g u e = some e1 ∧ ∀ σ', Lo G F r σ' e1 → (∀ vs : List Nat, (∀ i ∈ g, i ∈ vs) → L2.wipe σ' vs = L2.wipe σ vs) → Q σ' H
def rdGs (G : Gx) (g : List Nat) : TGs := fun xs σ H Q => ∃ F r S e us e1, Rp G F r S H ∧ Lo G F r σ e ∧ Paired (IsU G F r) xs us ∧ setAll g us e = some e1 ∧ ∀ σ', Lo G F r σ' e1 → (∀ vs : List Nat, (∀ i ∈ g, i ∈ vs) → L2.wipe σ' vs = L2.wipe σ vs) → Q σ' H
theorem wipe_set {σ : L2.St} {i : Nat} {x : Option V} : ∀ {vs : List Nat}, i ∈ vs → L2.wipe (σ.set i x) vs = L2.wipe σ vs
  | [], h => by simp at h
  | v :: vs, h => by
    unfold L2.wipe
    by_cases hv : i ∈ vs
    · rw [wipe_set hv]
    · have e : i = v := by rcases List.mem_cons.mp h with e | e; exact e; exact absurd e hv
      subst e
      have : ∀ {vs : List Nat} {σ : L2.St}, i ∉ vs → L2.wipe (σ.set i x) vs = (L2.wipe σ vs).set i x := by
        intro vs
        induction vs with
        | nil => intro σ _; rfl
        | cons w vs ih =>
          intro σ hh
          unfold L2.wipe
          rw [ih (fun z => hh (List.mem_cons_of_mem _ z)), List.set_comm _ _ (by intro z; subst z; exact hh List.mem_cons_self)]
      rw [this hv, List.set_set]
theorem loc_of (C : Ct G Γ tb c X W j) {i : Nat} {x : Str} (h : isLocB c i x = true) : X.N[i]? = some x ∧ L2.Loc X.env.scope x ∧ (X.fn x = true ∨ X.env.scope.names.lookup x = some .local) := by
  unfold isLocB at h
  simp only [Bool.and_eq_true, decide_eq_true_eq] at h
  obtain ⟨h1, h2⟩ := h
  unfold L2.Loc
  rw [C.N, C.sc]
  refine ⟨h1, ?_⟩
  split at h2
  · rename_i q; exact ⟨.inl q, .inr q⟩
  · rename_i q; exact ⟨.inr q, .inl (C.top h2 x)⟩
  · cases h2
theorem dg_name (C : Ct G Γ tb c X W j) {i : Nat} {x : Str} (h : isLocB c i x = true) : PG X (.Name x pos) (rdG G [i]) := by
  obtain ⟨h1, h2, h3⟩ := loc_of C h
  have p := pg_name (pos := pos) C.nd h1 h2 h3
  refine ⟨fun pins s σ H v u Q I r ⟨F, rr, S, e, w, e1, R, L, iw, hb, k⟩ => p.run pins s σ H v u Q I r ?_⟩
  cases hb
  exact k _ (L.set i iw) fun vs hv => wipe_set (hv i List.mem_cons_self)
theorem dgs_nil : PGs X [] (rdGs G []) := by
  refine ⟨fun pins s σ H vs us Q I r ⟨F, rr, S, e, ws, e1, R, L, iw, hb, k⟩ => pgs_nil.run pins s σ H vs us Q I r ?_⟩
  cases ws with
  | nil => cases iw; cases hb; exact ⟨rfl, k _ L fun _ _ => rfl⟩
  | cons w ws => cases hb
theorem dgs_cons (C : Ct G Γ tb c X W j) {i : Nat} {x : Str} {is : List Nat} {es : List Expr} (h : isLocB c i x = true) (ht : PGs X es (rdGs G is)) : PGs X (.Name x pos :: es) (rdGs G (i :: is)) := by
  refine ⟨fun pins s σ H vs us Q I r ⟨F, rr, S, e, ws, e1, R, L, iw, hb, k⟩ => (pgs_cons (dg_name C h) ht rfl).run pins s σ H vs us Q I r ?_⟩
  cases ws with
  | nil => cases hb
  | cons w ws =>
    cases iw with
    | cons iw it =>
      refine ⟨_, _, rfl, F, rr, S, e, w, _, R, L, iw, rfl, fun σ1 L1 w1 => ?_⟩
      exact ⟨F, rr, S, _, ws, e1, R, L1, it, hb, fun σ2 L2' w2 => k σ2 L2' fun vs hv => (w2 vs fun j hj => hv j (List.mem_cons_of_mem _ hj)).trans (w1 vs fun j hj => hv j (by rw [show j = i by simpa using hj]; exact List.mem_cons_self))⟩
theorem setAll_len : ∀ {is : List Nat} {us : List U} {e e1 : Env}, setAll is us e = some e1 → us.length = is.length
  | [], [], _, _, _ => rfl
  | i :: is, u :: us, e, e1, h => by simp [setAll_len (is := is) (us := us) h]
  | [], _ :: _, _, _, h => by cases h
  | _ :: _, [], _, _, h => by cases h
theorem dg_tup (C : Ct G Γ tb c X W j) {is : List Nat} {es : List Expr} {k : Nat} (h : PGs X es (rdGs G is)) (hl : is.length ≠ 1) (hn : (assignEach es X.env).length = is.length) (hst : (assignEach es X.env).findIdx? (·.1) = none) : PG X (.Tuple es k pos) (rdG G is) := by
  refine ⟨fun pins s σ H v u Q I r ⟨F, rr, S, e, w, e1, R, L, iw, hb, k⟩ => (pg_tup (pos := pos) C.calm h hn hst).run pins s σ H v u Q I r ?_⟩
  have hb' : ∃ l, w = .d (.tup l) ∧ setAll is (l.map U.d) e = some e1 := by
    unfold bindU at hb
    split at hb
    · exact absurd rfl hl
    · split at hb
      · exact ⟨_, rfl, hb⟩
      · cases hb
  obtain ⟨l, rfl, hb'⟩ := hb'
  cases iw with
  | d iw =>
    obtain ⟨a, xs, rfl, h1, h2⟩ := rp_tups R iw
    refine ⟨a, xs, rfl, by rw [C.K]; exact h1, ?_, F, rr, S, e, l.map U.d, e1, R, L, paired_d h2, hb', k⟩
    have := setAll_len hb'
    rw [h2.length]; simpa using this
theorem bind_eq {g : List Nat} {d : D} {e : Env} : bindU g (.d d) e = bindTo g d e := by
  unfold bindU bindTo
  split
  · rfl
  · cases d <;> rfl

/-! ### comprehensions -/
theorem Ct.blk (C : Ct G Γ tb c X W j) (s : Shared) (H : Hp) (scope : Scope) (cl : List (Str × Addr)) (Ca : Addr) (fp : List Addr) : Ct G Γ tb ⟨c.N, relS scope c.sc, false⟩ (X.blk s H scope (compEnvC scope cl Ca X.env) fp) (fun _ _ _ _ => False) j :=
  ⟨C.K, C.w, C.N, by show relS scope X.env.scope = _; rw [C.sc], C.nd, C.calm, takes0, fun h => absurd (show false = true from h) Bool.false_ne_true, C.room, C.wd⟩
theorem dts_nil : PTs X [] (rdT G Γ W .yes) := ⟨fun pins s σ H Q I ⟨F, r, S, e, R, L, p⟩ => pts_nil.run pins s σ H Q I (Post.done (by unfold evT at p; exact p) .refl R rfl)⟩
theorem dts_one {e : Expr} {t : E} (h : PT X e (rdT G Γ W t)) : PTs X [e] (rdT G Γ W t) := pts_one h
theorem noX_post {A B : Type} {W : WX} {σ : L2.St} {Rel : Hp → Pl → B → A → Prop} {F : Hp} {r : Pl} {m : M A} {Q : B → Hp → Prop} (h : Post G W σ Rel F r (noX m) Q) {W' : WX} {σ' : L2.St} : Post G W' σ' Rel F r m Q := by
  cases m with
  | none => exact h
  | some z =>
    cases z with
    | ok a S => exact h
    | ex x S => exact h.elim
def relO (G : Gx) : Hp → Pl → Option V → Option D → Prop := fun F _ v d => match v, d with
  | some v, some d => Is G F v d
  | none, none => True
  | _, _ => False
theorem wipe_wipe {vs : List Nat} (σ : L2.St) : L2.wipe (L2.wipe σ vs) vs = L2.wipe σ vs := by
  have ww : ∀ vs' : List Nat, (∀ i ∈ vs', i ∈ vs) → ∀ σ : L2.St, L2.wipe (L2.wipe σ vs') vs = L2.wipe σ vs := by
    intro vs'
    induction vs' with
    | nil => intro _ σ; rfl
    | cons v vs' ih =>
      intro hh σ
      show L2.wipe ((L2.wipe σ vs').set v none) vs = _
      rw [wipe_set (hh v List.mem_cons_self), ih (fun i m => hh i (List.mem_cons_of_mem _ m))]
  exact ww vs (fun _ h => h) σ
/-- an item that a comprehension makes, or none -/
def itemF (Γ : Ev) (vs g : List Nat) (t el : E) (e : Env) : D → Store → M (Option D) := fun d S2 => noX (match bindTo g d (wipeE e vs) with
  | none => none
  | some e1 => bnd (evT Γ t e1 S2) fun c S3 => if c then bnD (evE Γ el e1 S3) fun x S4 => some (.ok (some x) S4) else some (.ok none S3))
theorem bnd_assoc {A B E' : Type} (m : M A) (k : A → Store → M B) (k2 : B → Store → M E') : bnd (bnd m k) k2 = bnd m fun a S => bnd (k a S) k2 := by
  cases m with
  | none => rfl
  | some z => cases z <;> rfl
/-- a turn over an item: the walk goes on -/
theorem lc_wi {vs g : List Nat} {t el : E} {σ : L2.St} {e : Env} {F : Hp} {r : Pl} {S : Store} {H1 : Hp} {J : It} {l : List D} {Q : VK} {W : WX} (hv : ∀ i ∈ g, i ∈ vs) (R : Rp G F r S H1) (L : Lo G F r σ e) (it : ItOk G F J l) (hl : l.length ≤ line)
    (p : Post G W σ (IsU G) F r (bnd (walk (itemF Γ vs g t el e) [] l S) fun r S5 => some (.ok (.d (.lst r)) S5)) Q) :
    ∃ Wn : Nat → Nat → List V → Hp → Prop, (∃ m, Wn 0 m [] H1) ∧ ∀ i m acc H, Wn i m acc H →
      (J.stop i H ∧ ∀ D, H D = none → Q (.ref D) (upd H D (.lst acc))) ∨ (J.go i H ∧ ∃ Nx : List V → Hp → Prop, (∀ acc' H', Nx acc' H' → acc'.length ≤ sizeLine ∧ ∃ m', m' < m ∧ Wn (i + 1) m' acc' H') ∧ ∀ x H', J.yld i H x H' → rdG G g x (L2.wipe σ vs) H' fun σ2 H2 => L2.wipe σ2 vs = L2.wipe σ vs ∧ rdT G Γ (fun _ _ _ _ => False) t σ2 H2 fun b H3 =>
        if b = true then rdE G Γ (fun _ _ _ _ => False) el σ2 H3 fun y H4 => Nx (acc ++ [y]) H4 else Nx acc H3) := by
  refine ⟨fun i m acc H => m = l.length - i ∧ i ≤ l.length ∧ ∃ F' r' S' ds, Ext F F' r r' ∧ Rp G F' r' S' H ∧ IsL G F' acc ds ∧ ds.length ≤ i ∧ Post G W σ (IsU G) F' r' (bnd (walk (itemF Γ vs g t el e) ds (l.drop i) S') fun r S5 => some (.ok (.d (.lst r)) S5)) Q,
    ⟨l.length, by simp, Nat.zero_le _, F, r, S, [], .refl, R, .nil, Nat.le_refl _, p⟩, ?_⟩
  rintro i m acc H ⟨rfl, hi, F', r', S', ds, s', R', ia, hd, p'⟩
  obtain ⟨go, stop⟩ := it i F' r' S' H s'.sub R'
  by_cases hlt : i < l.length
  · obtain ⟨go, yl⟩ := go hlt
    refine .inr ⟨go, fun acc' H' => ∃ F2 r2 S2 ds', Ext F F2 r r2 ∧ Rp G F2 r2 S2 H' ∧ IsL G F2 acc' ds' ∧ ds'.length ≤ i + 1 ∧ Post G W σ (IsU G) F2 r2 (bnd (walk (itemF Γ vs g t el e) ds' (l.drop (i + 1)) S2) fun r S5 => some (.ok (.d (.lst r)) S5)) Q, fun acc' H' ⟨F2, r2, S2, ds', s2, R2, ia2, hd2, p2⟩ => ⟨by rw [ia2.length, sizeLine_eq]; have : line = 16777216 := rfl; omega, l.length - (i + 1), by omega, rfl, hlt, F2, r2, S2, ds', s2, R2, ia2, hd2, p2⟩, fun x H' y => ?_⟩
    obtain ⟨F2, d, s2, R2, ed, ix⟩ := yl x H' y
    have ed' : l.drop i = d :: l.drop (i + 1) := by
      rw [List.getElem?_eq_getElem hlt] at ed
      rw [List.drop_eq_getElem_cons hlt, Option.some.inj ed]
    rw [ed'] at p'
    unfold walk at p'
    rw [bnd_assoc] at p'
    have p3 := Post.bnd (Rel := relO G) (p'.mono (.cells s2))
    unfold itemF at p3
    cases hb : bindTo g d (wipeE e vs) with
    | none => rw [hb] at p3; exact p3.elim
    | some e1 =>
      rw [hb] at p3
      have Lw := (L.mono (s'.trans (.cells s2))).wipe vs
      refine ⟨F2, r', S', wipeE e vs, .d d, e1, R2, Lw, .d ix, by rw [bind_eq]; exact hb, fun σ2 L2' hw => ⟨by rw [hw vs hv, wipe_wipe], ?_⟩⟩
      have p4 := noX_post p3 (W' := fun _ _ _ _ => False) (σ' := σ2)
      refine ⟨F2, r', S', e1, R2, L2', Post.imp (Post.bnd (Rel := fun _ _ (b : Bool) c => b = c) p4) fun b H3 ⟨F3, r3, S3, b', x3, R3, eb, p5⟩ => ?_⟩
      subst eb
      cases b with
      | true =>
        rw [if_pos rfl] at p5
        refine iteT ⟨F3, r3, S3, e1, R3, L2'.mono x3, Post.imp (Post.bnD p5) fun y H4 ⟨F4, r4, S4, dy, x4, R4, iy, p6⟩ => ?_⟩
        obtain ⟨F5, r5, S5, od, x5, R5, io, p7⟩ := Post.done p6 .refl R4 (b := some y) iy
        cases od with
        | none => exact io.elim
        | some dz => exact ⟨F5, r5, S5, ds ++ [dz], (s'.trans (.cells s2)).trans x5, R5, ((ia.mono s2).mono x5.sub).app (.cons io .nil), by simp; exact hd, p7⟩
      | false =>
        rw [if_neg Bool.false_ne_true] at p5
        refine iteF ?_
        obtain ⟨F5, r5, S5, od, x5, R5, io, p7⟩ := Post.done p5 .refl R3 (b := none) trivial
        cases od with
        | some dz => exact io.elim
        | none => exact ⟨F5, r5, S5, ds, (s'.trans (.cells s2)).trans x5, R5, (ia.mono s2).mono x5.sub, by omega, p7⟩
  · have e0 : i = l.length := by omega
    subst e0
    refine .inl ⟨stop rfl, fun D hD => ?_⟩
    rw [List.drop_length] at p'
    unfold walk at p'
    obtain ⟨R2, s2, i2⟩ := new_lst R' hD ia
    exact Post.done p' (.cells s2) R2 (.d i2)
/-- the block of a comprehension in the text -/
structure LcIn (c : Sc) (scope : Scope) (own : List (Str × Nat)) : Prop where
  ok : blkC c.N c.sc scope own = true
theorem lc_rd {it t el : E} {own : List (Str × Nat)} {g : List Nat} {σ : L2.St} {H : Hp} {Q : VK} (hv : ∀ i ∈ g, i ∈ own.map (·.2)) (h : rdE G Γ W (.lc (own.map (·.2)) it g t el) σ H Q) :
    tLcP (rdI G Γ W it) (rdG G g) (rdT G Γ (fun _ _ _ _ => False) t) (rdE G Γ (fun _ _ _ _ => False) el) (own.map (·.2)) σ H Q := by
  obtain ⟨F, r, S, e, R, L, p⟩ := h
  unfold evE at p
  refine ⟨F, r, S, e, R, L, Post.imp (Post.bnd (Rel := fun F _ J l => ItOk G F J l) p) fun J H1 ⟨F1, r1, S1, l, e1, R1, q1, p1⟩ => ?_⟩
  split at p1
  · rename_i hl
    exact lc_wi hv R1 (L.mono e1) q1 hl p1
  · exact p1.elim
theorem de_lc (C : Ct G Γ tb c X W j) {elt tg iter : Expr} {ifs : List Expr} {scope : Scope} {own : List (Str × Nat)} {it t el : E} {g : List Nat} (hok : blkC c.N c.sc scope own = true) (hv : ∀ i ∈ g, i ∈ own.map (·.2)) (hp : plainE iter = true)
    (hi : PI X tg iter (rdI G Γ W it))
    (hg : ∀ {X' : Cx}, Ct G Γ tb ⟨c.N, relS scope c.sc, false⟩ X' (fun _ _ _ _ => False) j → PG X' tg (rdG G g))
    (ht : ∀ {X' : Cx}, Ct G Γ tb ⟨c.N, relS scope c.sc, false⟩ X' (fun _ _ _ _ => False) j → PTs X' ifs (rdT G Γ (fun _ _ _ _ => False) t))
    (he : ∀ {X' : Cx}, Ct G Γ tb ⟨c.N, relS scope c.sc, false⟩ X' (fun _ _ _ _ => False) j → PE X' elt (rdE G Γ (fun _ _ _ _ => False) el)) :
    PE X (.ListComp elt [⟨tg, iter, ifs, 0⟩] scope pos) (rdE G Γ W (.lc (own.map (·.2)) it g t el)) :=
  pe_imp (pe_lcP C.calm C.nd hi (blkOk_by (by rw [C.N, C.sc]; exact hok)) (fun s H Ca cl fp => hg (C.blk s H scope cl Ca fp)) (fun s H Ca cl fp => ht (C.blk s H scope cl Ca fp)) (fun s H Ca cl fp => he (C.blk s H scope cl Ca fp)) (fun x => foldset hp _ x)) fun σ H Q h => lc_rd hv h
end
end DL

/-! Dict displays, statements over data. -/
namespace DL
open PySem PySem.Spec L2
open PyProof.Rows hiding St
set_option autoImplicit false

/-! ### a dict's display: the new dict stands apart while its pairs are made -/
/-- an untracked record of ours is written, and tracked from here on -/
theorem inv_take {X : Cx} {pins : List (Addr × Obj)} {σ : L2.St} {H : Hp} {s : Shared} {h' : Heap} {p : Addr} {o : HO} {t' : Nat} (I : L2.Inv X pins σ H s) (f : FpOk X pins H p) (k : Heap.SameBut p s.heap h') (he : ∃ q, h'.get? p = some q) (new : ObjOk X.prog X.w (upd H p o) h' p o) :
    L2.Inv X pins σ (upd H p o) { s with heap := h', toks := t' } := by
  obtain ⟨f0, f1, f2, f3, f4, f5⟩ := f
  have I1 : L2.Inv X pins σ H { s with heap := h', toks := t' } := I.turned (t' := t') (fun b o hb e => (k.2 b hb).trans e) f0 f1 f3 f4 f5
  refine I1.call (s := { s with heap := h', toks := t' }) (ch := [p]) (t' := t') (g' := s.gens) (d' := s.drawn) (un_track (Un.kept fun _ _ q => q) (by simp) f0) (hok_track I1.hok f0 new) I.bare fun b hb => ?_
  have e : b = p := by simpa using hb
  subst e
  exact ⟨f3, f1, f4, f5⟩
def tDispP (trs : List (TE × TE)) : TE := fun σ H Q => tPairs trs σ H fun ps H2 => ∃ kvs : List (Key × V), ps = kvs.map (fun kv => (kV kv.1, kv.2)) ∧ kvs.length ≤ 15 ∧ ∀ p, H2 p = none → Q (.ref p) (upd H2 p (.dK (mergeK [] kvs)))
theorem pe_dispP {X : Cx} {pos : Pos} {keys : List (Option Expr)} {values : List Expr} {trs : List (TE × TE)} (h : PPs X pos keys values trs) (hall : keys.all (·.isSome) = true) (hl : keys.length = values.length) (h0 : keys ≠ [])
    (h15 : keys.length ≤ 15) : PE X (.Dict keys values pos) (tDispP trs) := by
  refine ⟨fun pins s σ H Q I q => ?_⟩
  have hn := I.hok.fresh (Nat.le_refl s.heap.objs.size)
  have I1 : L2.Inv X pins σ H { s with heap := s.heap.push { cls := .type "dict", data := .dict #[] } } := I.kept (t' := s.toks) (fun _ _ q => Heap.get?_push_of_some _ q)
  have fD : FpOk X pins H s.heap.objs.size := I.fpOk (Nat.le_refl _) hn
  have oD : (s.heap.push { cls := .type "dict", data := .dict #[] }).get? s.heap.objs.size = some { cls := .type "dict", data := .dict #[] } := Heap.get?_push_size _ rfl
  have I2 := I1.pinned (fp := [s.heap.objs.size]) (fun b hb => by rw [show b = s.heap.objs.size by simpa using hb]; exact fD) (fun b hb => by rw [show b = s.heap.objs.size by simpa using hb]; exact ⟨_, oD, fun v z => nomatch z⟩)
  refine wpAny_Dict_walk (knd := mixKind X.prog X.w) hall hl h0 h15 (thn (h.run _ _ σ _ _ I2 q) fun ws s2 ⟨ps, H2, I3, rel, kvs, ep, lk, q2⟩ => ?_)
  subst ep
  have pn := I3.pin (s.heap.objs.size, { cls := .type "dict", data := .dict #[] }) (List.mem_append_right _ (List.mem_append_right _ (mem_pinsAt (fp := [s.heap.objs.size]) (by simp) oD)))
  have I4 : L2.Inv X pins σ H2 s2 := I3.unpinned
  obtain ⟨rs, c, rk⟩ := carries_of (P := X.prog) (w := X.w) rel
  obtain ⟨z, hd, vs0, r0, _⟩ := dk_empty (P := X.prog) (w := X.w) (H := H) s.heap I.big
  refine ⟨rs, c, ?_, fun h' dd' hs => ⟨.ref s.heap.objs.size, _, ?_, rfl, q2 s.heap.objs.size pn.2.1⟩⟩
  · have d0 := Heap.DictOf.new (knd := mixKind X.prog X.w) s.heap
    obtain ⟨o, es, ep, e1, e2⟩ := d0
    rw [oD] at e1
    cases e1
    exact ⟨_, es, ep, pn.1, e2⟩
  · have hz : (mergeK [] kvs).length ≤ sizeLine := by
      have h1 := length_mergeK kvs []
      rw [List.length_nil] at h1
      rw [sizeLine_eq]; omega
    have he : ∃ q, h'.get? s.heap.objs.size = some q := let ⟨q, _, _, hq, _⟩ := dd'; ⟨q, hq⟩
    have f4 : FpOk X pins H2 s.heap.objs.size := ⟨pn.2.1, fD.2⟩
    exact inv_take I4 f4 hs he (dk_new hz hd (rk.merge .nil) dd')

section
variable {G : Gx} {Γ : Ev} {tb : Tb} {c : Sc} {X : Cx} {W : WX} {j : Nat} {pos : Pos}
/-- the pairs of a display with text keys -/
inductive MapP (X : Cx) (G : Gx) (Γ : Ev) (W : WX) : List Str → List (Option Expr) → List Expr → E → Prop
  | nil : MapP X G Γ W [] [] [] .nil
  | cons {k : Str} {kk : Nat} {kp : Pos} {ks : List Str} {kes : List (Option Expr)} {ve : Expr} {ves : List Expr} {a r : E} : PE X ve (rdE G Γ W a) → MapP X G Γ W ks kes ves r → MapP X G Γ W (k :: ks) (some (.Constant (.str k) kk kp) :: kes) (ve :: ves) (.cons a r)
theorem MapP.len {ks : List Str} {kes : List (Option Expr)} {ves : List Expr} {es : E} (h : MapP X G Γ W ks kes ves es) : kes.length = ks.length ∧ ves.length = ks.length ∧ kes.all (·.isSome) = true := by
  induction h with
  | nil => exact ⟨rfl, rfl, rfl⟩
  | cons _ _ ih => exact ⟨by simp [ih.1], by simp [ih.2.1], by simp [ih.2.2]⟩
theorem MapP.pairs {ks : List Str} {kes : List (Option Expr)} {ves : List Expr} {es : E} (h : MapP X G Γ W ks kes ves es) : ∃ trs, PPs X pos kes ves trs ∧
    ∀ {F : Hp} {r : Pl} {S : Store} {e : Env} {σ : L2.St} {H : Hp} {Q : List V → Hp → Prop} {Q' : List (V × V) → Hp → Prop}, Rp G F r S H → Lo G F r σ e → Post G W σ (fun F r => Paired (IsU G F r)) F r (evL Γ es e S) Q →
      (∀ vs H', Q vs H' → vs.length = ks.length → Q' (List.zipWith (fun (k : Str) v => (V.str k, v)) ks vs) H') → tPairs trs σ H Q' := by
  induction h with
  | nil =>
    refine ⟨[], pps_nil, fun {F r S e σ H Q Q'} R L p k => ?_⟩
    unfold evL at p
    exact k [] H (Post.done p .refl R .nil) rfl
  | @cons k kk kp ks kes ve ves a t hv ht ih =>
    obtain ⟨trs, h1, h2⟩ := ih
    refine ⟨_, pps_cons pe_str hv h1, fun {F r S e σ H Q Q'} R L p kq => ?_⟩
    unfold evL at p
    refine ⟨F, r, S, e, R, L, Post.imp (Post.bnd (Rel := IsU G) p) fun x H1 ⟨F1, r1, S1, u, e1, R1, q1, p1⟩ => ?_⟩
    refine h2 R1 (L.mono e1) (Post.bnd (Rel := fun F r => Paired (IsU G F r)) p1) fun vs H' ⟨F2, r2, S2, us, e2, R2, q2, p2⟩ hl => ?_
    exact kq (x :: vs) H' (Post.done p2 .refl R2 (.cons (q1.mono e2) q2)) (by simp [hl])
theorem merge_nodup : ∀ {ks : List Str} {vs : List V} {acc : List (Key × V)}, ks.Nodup → (∀ k ∈ ks, ∀ p ∈ acc, p.1 ≠ .inr k) → mergeK acc (List.zipWith (fun (k : Str) v => ((.inr k : Key), v)) ks vs) = acc ++ List.zipWith (fun (k : Str) v => ((.inr k : Key), v)) ks vs
  | [], vs, acc, _, _ => by simp [mergeK]
  | k :: ks, [], acc, _, _ => by simp [mergeK]
  | k :: ks, v :: vs, acc, hn, ha => by
    have h0 : putK acc (.inr k) v = acc ++ [(.inr k, v)] := by
      unfold putK
      rw [if_neg]
      intro z
      rw [List.any_eq_true] at z
      obtain ⟨p, hp, e⟩ := z
      exact ha k List.mem_cons_self p hp (of_decide_eq_true e)
    have hn' := List.nodup_cons.mp hn
    have ih := merge_nodup (ks := ks) (vs := vs) (acc := acc ++ [(.inr k, v)]) hn'.2 (fun k' hk p hp => by
      rcases List.mem_append.mp hp with hp | hp
      · exact ha k' (List.mem_cons_of_mem _ hk) p hp
      · rw [show p = (.inr k, v) by simpa using hp]
        intro z
        cases z
        exact hn'.1 hk)
    show mergeK (putK acc (.inr k) v) (List.zipWith _ ks vs) = _
    rw [h0, ih, List.append_assoc]
    rfl
theorem isM_zip {F : Hp} : ∀ {ks : List Str} {vs : List V} {ds : List D}, IsL G F vs ds → IsM G F (List.zipWith (fun (k : Str) v => ((.inr k : Key), v)) ks vs) (ks.zip ds)
  | [], _, _, _ => by simp; exact .nil
  | k :: ks, _, _, .nil => by simp; exact .nil
  | k :: ks, _, _, .cons h t => by simp only [List.zipWith_cons_cons, List.zip_cons_cons]; exact .cons h (isM_zip t)
/-- {} -/
theorem de_map0 : PE X (.Dict [] [] pos) (rdE G Γ W (.map [] .nil)) := pe_imp pe_dnewK fun σ H Q ⟨F, r, S, e, R, L, p⟩ p0 hp => by
  unfold evE evL at p
  obtain ⟨R1, s1⟩ := R.new (o := .dK []) hp
  exact Post.done p (.cells s1) R1 (.d (.map upd_same .nil))
theorem de_map {ks : List Str} {es : E} {kes : List (Option Expr)} {ves : List Expr} (h : MapP X G Γ W ks kes ves es) (hn : ks.Nodup) (h0 : ks ≠ []) (h15 : ks.length ≤ 15) : PE X (.Dict kes ves pos) (rdE G Γ W (.map ks es)) := by
  obtain ⟨l1, l2, l3⟩ := h.len
  obtain ⟨trs, h1, h2⟩ := h.pairs (pos := pos)
  refine pe_imp (pe_dispP h1 l3 (l1.trans l2.symm) (by intro z; rw [z] at l1; exact h0 (List.length_eq_zero_iff.mp l1.symm)) (by rw [l1]; exact h15)) fun σ H Q ⟨F, r, S, e, R, L, p⟩ => ?_
  unfold evE at p
  refine h2 R L (Post.bnd (Rel := fun F r => Paired (IsU G F r)) p) fun vs H' ⟨F1, r1, S1, us, e1, R1, q1, p1⟩ hl => ?_
  cases q : lst1 us with
  | none => rw [q] at p1; exact p1.elim
  | some m =>
    rw [q] at p1
    simp only at p1
    split at p1
    · have i := lst1_is q1 q
      have ez : ∀ {ks : List Str} {vs : List V}, List.map (fun (kv : Key × V) => (kV kv.1, kv.2)) (List.zipWith (fun (k : Str) v => ((.inr k : Key), v)) ks vs) = List.zipWith (fun (k : Str) v => (V.str k, v)) ks vs := by
        intro ks
        induction ks with
        | nil => intro vs; simp
        | cons k ks ih => intro vs; cases vs with
          | nil => simp
          | cons v vs => simp [ih, kV]
      refine ⟨List.zipWith (fun (k : Str) v => ((.inr k : Key), v)) ks vs, ez.symm, by simp; omega, fun a ha => ?_⟩
      rw [merge_nodup hn (by simp), List.nil_append]
      obtain ⟨R2, s2⟩ := R1.new (o := .dK (List.zipWith (fun (k : Str) v => ((.inr k : Key), v)) ks vs)) ha
      exact Post.done p1 (.cells s2) R2 (.d (.map upd_same (isM_zip (i.mono s2))))
    · exact p1.elim
end

/-! ### what is wanted behind a statement -/
def PostS (G : Gx) (W : WX) (F : Hp) (r : Pl) (m : MS) (D : Ends) : Prop := match m with
  | none => False
  | some (.nx e S) => ∀ F' r' σ' H', Ext F F' r r' → Rp G F' r' S H' → Lo G F' r' σ' e → D.nx σ' H'
  | some (.rt u S) => ∀ F' r' v H', Ext F F' r r' → Rp G F' r' S H' → IsU G F' r' v u → D.rt v H'
  | some (.ex x e S) => ∀ F' r' cl d σ' H', Ext F F' r r' → Rp G F' r' S H' → Lo G F' r' σ' e → XnIs G F' cl d x → W cl d σ' H'
section
variable {G : Gx} {Γ : Ev} {tb : Tb} {c : Sc} {X : Cx} {W : WX} {j : Nat} {pos : Pos}
theorem PostS.mono {F F' : Hp} {r r' : Pl} {m : MS} {D : Ends} (h : PostS G W F r m D) (e : Ext F F' r r') : PostS G W F' r' m D := by
  cases m with
  | none => exact h
  | some z =>
    cases z with
    | nx en S => exact fun F2 r2 s H' e2 => h F2 r2 s H' (e.trans e2)
    | rt u S => exact fun F2 r2 s H' e2 => h F2 r2 s H' (e.trans e2)
    | ex x en S => exact fun F2 r2 a b s H' e2 => h F2 r2 a b s H' (e.trans e2)
theorem PostS.nx {F : Hp} {r : Pl} {e : Env} {S : Store} {D : Ends} (h : PostS G W F r (some (.nx e S)) D) {F' : Hp} {r' : Pl} {σ' : L2.St} {H' : Hp} (x : Ext F F' r r') (R : Rp G F' r' S H') (L : Lo G F' r' σ' e) : D.nx σ' H' := h F' r' σ' H' x R L
/-- an expression first -/
theorem PostS.inS {A B : Type} {Rel : Hp → Pl → B → A → Prop} {F : Hp} {r : Pl} {m : M A} {e : Env} {k : A → Store → MS} {D : Ends} {σ : L2.St} (h : PostS G W F r (DL.inS m e k) D) (L : Lo G F r σ e) :
    Post G W σ Rel F r m fun b H1 => ∃ F1 r1 S1 a, Ext F F1 r r1 ∧ Rp G F1 r1 S1 H1 ∧ Rel F1 r1 b a ∧ PostS G W F1 r1 (k a S1) D := by
  cases m with
  | none => exact h
  | some z =>
    cases z with
    | ok a S => exact fun F1 r1 b H1 e R q => ⟨F1, r1, S, a, e, R, q, PostS.mono (m := k a S) h e⟩
    | ex x S => exact fun F1 r1 cl d H1 e1 R1 q => h F1 r1 cl d σ H1 e1 R1 (L.mono e1) q
def rdS (G : Gx) (Γ : Ev) (W : WX) (a : Stm) : TS := fun D σ H => ∃ F r S e, Rp G F r S H ∧ Lo G F r σ e ∧ PostS G W F r (evS Γ a e S) D

theorem ds_nil : PSs X [] (rdS G Γ W .nop) := pss_imp pss_nil fun D σ H ⟨F, r, S, e, R, L, p⟩ => PostS.nx p .refl R L
theorem ds_one {st : Stmt} {a : Stm} (h : PS X st (rdS G Γ W a)) : PSs X [st] (rdS G Γ W a) := pss_one h
theorem ds_cons {st : Stmt} {rest : List Stmt} {a b : Stm} (h : PS X st (rdS G Γ W a)) (h2 : PSs X rest (rdS G Γ W b)) : PSs X (st :: rest) (rdS G Γ W (.seq a b)) :=
  pss_imp (pss_cons h h2) fun D σ H ⟨F, r, S, e, R, L, p⟩ => by
    unfold evS at p
    refine ⟨F, r, S, e, R, L, ?_⟩
    cases q : evS Γ a e S with
    | none => rw [q] at p; exact p
    | some z =>
      rw [q] at p
      cases z with
      | nx en S1 => exact fun F1 r1 s1 H1 x1 R1 L1 => ⟨F1, r1, S1, en, R1, L1, PostS.mono (m := evS Γ b en S1) p x1⟩
      | rt u S1 => exact p
      | ex x en S1 => exact p
theorem ds_doc {x : Str} {k : Nat} {p1 : Pos} : PS X (.Expr (.Constant (.str x) k p1) pos) (rdS G Γ W .nop) := ps_imp ps_doc fun D σ H ⟨F, r, S, e, R, L, p⟩ => PostS.nx p .refl R L
theorem ds_pass : PS X (.Pass pos) (rdS G Γ W .nop) := ps_imp ps_pass fun D σ H ⟨F, r, S, e, R, L, p⟩ => PostS.nx p .refl R L
theorem ds_stop {st : Stmt} : PS X st (rdS G Γ W .stop) := ps_imp ps_never fun D σ H ⟨F, r, S, e, R, L, p⟩ => p
theorem dss_stop {st : List Stmt} : PSs X st (rdS G Γ W .stop) := pss_imp pss_never fun D σ H ⟨F, r, S, e, R, L, p⟩ => p
theorem ds_ex {a : E} {ea : Expr} (ha : PE X ea (rdE G Γ W a)) (hs : swapsWith ea none pos.line X.env = pure false) : PS X (.Expr ea pos) (rdS G Γ W (.ex a)) := ps_imp (ps_expr ha hs) fun D σ H ⟨F, r, S, e, R, L, p⟩ => by
  unfold evS at p
  exact ⟨F, r, S, e, R, L, Post.imp (PostS.inS (Rel := IsU G) p L) fun x H1 ⟨F1, r1, S1, u, e1, R1, q1, p1⟩ => PostS.nx p1 .refl R1 (L.mono e1)⟩
theorem ds_ret {a : E} {ea : Expr} (ha : PE X ea (rdE G Γ W a)) : PS X (.Return (some ea) pos) (rdS G Γ W (.ret a)) := ps_imp (ps_ret ha) fun D σ H ⟨F, r, S, e, R, L, p⟩ => by
  unfold evS at p
  exact ⟨F, r, S, e, R, L, Post.imp (PostS.inS (Rel := IsU G) p L) fun x H1 ⟨F1, r1, S1, u, e1, R1, q1, p1⟩ => p1 F1 r1 x H1 .refl R1 q1⟩
theorem ds_retN : PS X (.Return none pos) (rdS G Γ W .retN) := ps_imp ps_retN fun D σ H ⟨F, r, S, e, R, L, p⟩ => p F r .non H .refl R (.d .non)
theorem ds_if {t : E} {a b : Stm} {et : Expr} {ea eb : List Stmt} (ht : PT X et (rdT G Γ W t)) (ha : PSs X ea (rdS G Γ W a)) (hb : PSs X eb (rdS G Γ W b)) : PS X (.If et ea eb pos) (rdS G Γ W (.ite t a b)) :=
  ps_imp (ps_if ht ha hb) fun D σ H ⟨F, r, S, e, R, L, p⟩ => by
    unfold evS at p
    exact ⟨F, r, S, e, R, L, Post.imp (PostS.inS (Rel := fun _ _ (b : Bool) c => b = c) p L) fun k H1 ⟨F1, r1, S1, k', e1, R1, q1, p1⟩ => by
      subst q1
      cases k with
      | true => exact iteT ⟨F1, r1, S1, e, R1, L.mono e1, p1⟩
      | false => exact iteF ⟨F1, r1, S1, e, R1, L.mono e1, p1⟩⟩
theorem asg_of {a : E} {g : List Nat} {D : Ends} {σ : L2.St} {H : Hp} (h : rdS G Γ W (.asg g a) D σ H) : tAsg (rdE G Γ W a) (rdG G g) D σ H := by
  obtain ⟨F, r, S, e, R, L, p⟩ := h
  unfold evS at p
  refine ⟨F, r, S, e, R, L, Post.imp (PostS.inS (Rel := IsU G) p L) fun x H1 ⟨F1, r1, S1, u, e1, R1, q1, p1⟩ => ?_⟩
  split at p1
  · rename_i en hb
    exact ⟨F1, r1, S1, e, u, en, R1, L.mono e1, q1, hb, fun σ' L' _ => PostS.nx p1 .refl R1 L'⟩
  · exact p1.elim
theorem ds_set (C : Ct G Γ tb c X W j) {i : Nat} {x : Str} {a : E} {ea : Expr} {px : Pos} (hx : isLocB c i x = true) (ha : PE X ea (rdE G Γ W a)) (hs : swapsWith ea (some (.Name x px)) pos.line X.env = pure false) : PS X (.Assign [.Name x px] ea pos) (rdS G Γ W (.asg [i] a)) := by
  obtain ⟨h1, h2, h3⟩ := loc_of C hx
  refine ps_imp (ps_set C.nd h1 h2 ha hs h3) fun D σ H ⟨F, r, S, e, R, L, p⟩ => ?_
  unfold evS at p
  exact ⟨F, r, S, e, R, L, Post.imp (PostS.inS (Rel := IsU G) p L) fun x H1 ⟨F1, r1, S1, u, e1, R1, q1, p1⟩ => PostS.nx p1 .refl R1 ((L.mono e1).set i q1)⟩
theorem ds_asg {a : E} {g : List Nat} {tg ea : Expr} (hg : PG X tg (rdG G g)) (ha : PE X ea (rdE G Γ W a)) (hs : swapsWithSole [tg] ea pos.line X.env = pure false) (hw : swappedStores [tg] ea X.env = pure none) (h1 : (assignEach [tg] X.env).map (·.2) = [assign tg X.env]) :
    PS X (.Assign [tg] ea pos) (rdS G Γ W (.asg g a)) := ps_imp (ps_asg ha hg hs hw h1) fun D σ H h => asg_of h
def locB (c : Sc) (i : Nat) (x : Str) : Bool := decide (c.N[i]? = some x) && decide (c.sc.names.lookup x = some .local)
theorem local_of (C : Ct G Γ tb c X W j) {i : Nat} {x : Str} (h : locB c i x = true) : X.N[i]? = some x ∧ X.env.scope.names.lookup x = some .local := by
  unfold locB at h
  simp only [Bool.and_eq_true, decide_eq_true_eq] at h
  rw [C.N, C.sc]
  exact h
/-- name = [.. for ..], written on one line -/
theorem ds_setLc (C : Ct G Γ tb c X W j) {i : Nat} {x : Str} {px spos : Pos} {elt tg iter : Expr} {ifs : List Expr} {scope : Scope} {own : List (Str × Nat)} {it t el : E} {g : List Nat} (hx : locB c i x = true) (hk : c.sc.kind = .function) (hl : (px.line == pos.line) = true)
    (hs0 : (scope.names.any fun (n, k) => n == x && (k == .local || k == .cell)) = false) (hok : blkC c.N c.sc scope own = true) (hv : ∀ i ∈ g, i ∈ own.map (·.2)) (hp : plainE iter = true)
    (hi : PI X tg iter (rdI G Γ W it))
    (hg : ∀ {X' : Cx}, Ct G Γ tb ⟨c.N, relS scope c.sc, false⟩ X' (fun _ _ _ _ => False) j → PG X' tg (rdG G g))
    (ht : ∀ {X' : Cx}, Ct G Γ tb ⟨c.N, relS scope c.sc, false⟩ X' (fun _ _ _ _ => False) j → PTs X' ifs (rdT G Γ (fun _ _ _ _ => False) t))
    (he : ∀ {X' : Cx}, Ct G Γ tb ⟨c.N, relS scope c.sc, false⟩ X' (fun _ _ _ _ => False) j → PE X' elt (rdE G Γ (fun _ _ _ _ => False) el)) :
    PS X (.Assign [.Name x px] (.ListComp elt [⟨tg, iter, ifs, 0⟩] scope pos) spos) (rdS G Γ W (.asg [i] (.lc (own.map (·.2)) it g t el))) := by
  obtain ⟨h1, h2⟩ := local_of C hx
  refine ps_imp (ps_setLcP C.calm C.nd h1 h2 (sw_true (by rw [C.sc]; exact hk) h2 hl hs0) hi (blkOk_by (by rw [C.N, C.sc]; exact hok)) (fun s H Ca cl fp => hg (C.blk s H scope cl Ca fp)) (fun s H Ca cl fp => ht (C.blk s H scope cl Ca fp)) (fun s H Ca cl fp => he (C.blk s H scope cl Ca fp)) (fun x => foldset hp _ x)) fun D σ H h => ?_
  obtain ⟨F, r, S, e, R, L, p⟩ := h
  unfold evS at p
  refine lc_rd hv ⟨F, r, S, e, R, L, Post.imp (PostS.inS (Rel := IsU G) p L) fun x H1 ⟨F1, r1, S1, u, e1, R1, q1, p1⟩ => PostS.nx p1 .refl R1 ((L.mono e1).set i q1)⟩
theorem ds_par2 (C : Ct G Γ tb c X W j) {i k : Nat} {x y : Str} {a b : Expr} {es : E} {px py pt : Pos} {kt k2 : Nat} {pt2 : Pos} (hx : locB c i x = true) (hy : locB c k y = true) (hij : i ≠ k) (ha : PA X [a, b] (rdL G Γ W es))
    (hw : swappedStores [.Tuple [.Name x px, .Name y py] kt pt] (.Tuple [a, b] k2 pt2) X.env = pure (some [x, y]))
    (hs : swapsWithSole [.Tuple [.Name x px, .Name y py] kt pt] (.Tuple [a, b] k2 pt2) pos.line X.env = pure false) :
    PS X (.Assign [.Tuple [.Name x px, .Name y py] kt pt] (.Tuple [a, b] k2 pt2) pos) (rdS G Γ W (.par [i, k] es)) := by
  obtain ⟨h1, h2⟩ := local_of C hx
  obtain ⟨h3, h4⟩ := local_of C hy
  refine ps_imp (ps_par C.calm C.nd h1 h3 hij h2 h4 ha hw hs) fun D σ H ⟨F, r, S, e, R, L, p⟩ => ?_
  unfold evS at p
  refine ⟨F, r, S, e, R, L, Post.imp (PostS.inS (Rel := fun F r => Paired (IsU G F r)) p L) fun vs H1 ⟨F1, r1, S1, us, e1, R1, q1, p1⟩ => ?_⟩
  split at p1
  · rename_i en hb
    match us, q1, hb with
    | [u, w], .cons i1 (.cons i2 .nil), hb =>
      cases hb
      exact ⟨_, _, rfl, PostS.nx p1 .refl R1 (((L.mono e1).set i i1).set k i2)⟩
  · exact p1.elim
theorem ds_par3 (C : Ct G Γ tb c X W j) {i k l : Nat} {x y z : Str} {a b d : Expr} {es : E} {px py pz pt : Pos} {kt k2 : Nat} {pt2 : Pos} (hx : locB c i x = true) (hy : locB c k y = true) (hz : locB c l z = true) (hij : i ≠ k) (hil : i ≠ l) (hjl : k ≠ l) (ha : PA X [a, b, d] (rdL G Γ W es))
    (hw : swappedStores [.Tuple [.Name x px, .Name y py, .Name z pz] kt pt] (.Tuple [a, b, d] k2 pt2) X.env = pure (some [x, y, z]))
    (hs : swapsWithSole [.Tuple [.Name x px, .Name y py, .Name z pz] kt pt] (.Tuple [a, b, d] k2 pt2) pos.line X.env = pure false) :
    PS X (.Assign [.Tuple [.Name x px, .Name y py, .Name z pz] kt pt] (.Tuple [a, b, d] k2 pt2) pos) (rdS G Γ W (.par [i, k, l] es)) := by
  obtain ⟨h1, h2⟩ := local_of C hx
  obtain ⟨h3, h4⟩ := local_of C hy
  obtain ⟨h5, h6⟩ := local_of C hz
  refine ps_imp (ps_par3 C.calm C.nd h1 h3 h5 hij hil hjl h2 h4 h6 ha hw hs) fun D σ H ⟨F, r, S, e, R, L, p⟩ => ?_
  unfold evS at p
  refine ⟨F, r, S, e, R, L, Post.imp (PostS.inS (Rel := fun F r => Paired (IsU G F r)) p L) fun vs H1 ⟨F1, r1, S1, us, e1, R1, q1, p1⟩ => ?_⟩
  split at p1
  · rename_i en hb
    match us, q1, hb with
    | [u, w, v], .cons i1 (.cons i2 (.cons i3 .nil)), hb =>
      cases hb
      exact ⟨_, _, _, rfl, PostS.nx p1 .refl R1 ((((L.mono e1).set i i1).set k i2).set l i3)⟩
  · exact p1.elim
/-- name += e, name -= e, whole numbers -/
theorem ds_aug (C : Ct G Γ tb c X W j) {i : Nat} {x : Str} {o : Bop} {a : E} {ea : Expr} {px : Pos} (hx : isLocB c i x = true) (ha : PE X ea (rdE G Γ W a)) (ho : o = .add ∨ o = .sub) :
    PS X (.AugAssign (.Name x px) (opB o) ea pos) (rdS G Γ W (.aug i o a)) := by
  obtain ⟨h1, h2, h3⟩ := loc_of C hx
  rcases ho with rfl | rfl
  · refine ps_imp (ps_aug C.nd h1 h2 ha ip_add h3) fun D σ H ⟨F, r, S, e, R, L, p⟩ => ?_
    unfold evS at p
    split at p
    · rename_i k hk
      obtain ⟨v, hv, iv⟩ := L.at_ i _ hk
      cases iv with
      | d iv =>
        cases iv
        refine ⟨_, hv, F, r, S, e, R, L, Post.imp (PostS.inS (Rel := IsU G) p L) fun y H1 ⟨F1, r1, S1, u, e1, R1, q1, p1⟩ => ?_⟩
        split at p1
        · cases q1 with
          | d q1 => cases q1; exact ⟨_, _, rfl, rfl, PostS.nx p1 .refl R1 ((L.mono e1).set i (.d (.int _)))⟩
        · contradiction
        · exact p1.elim
    · exact p.elim
  · refine ps_imp (ps_aug C.nd h1 h2 ha ip_sub h3) fun D σ H ⟨F, r, S, e, R, L, p⟩ => ?_
    unfold evS at p
    split at p
    · rename_i k hk
      obtain ⟨v, hv, iv⟩ := L.at_ i _ hk
      cases iv with
      | d iv =>
        cases iv
        refine ⟨_, hv, F, r, S, e, R, L, Post.imp (PostS.inS (Rel := IsU G) p L) fun y H1 ⟨F1, r1, S1, u, e1, R1, q1, p1⟩ => ?_⟩
        split at p1
        · contradiction
        · cases q1 with
          | d q1 => cases q1; exact ⟨_, _, rfl, rfl, PostS.nx p1 .refl R1 ((L.mono e1).set i (.d (.int _)))⟩
        · exact p1.elim
    · exact p.elim
theorem ds_seti (C : Ct G Γ tb c X W j) {o i a : E} {eo ei ea : Expr} {tpos : Pos} (ho : PE X eo (rdE G Γ W o)) (hi : PE X ei (rdE G Γ W i)) (ha : PE X ea (rdE G Γ W a))
    (hs : swapsWithSole [.Subscript eo ei tpos] ea pos.line X.env = pure false) (hw : swappedStores [.Subscript eo ei tpos] ea X.env = pure none) (h1 : (assignEach [.Subscript eo ei tpos] X.env).map (·.2) = [assign (.Subscript eo ei tpos) X.env])
    (has : ∀ v, assign (.Subscript eo ei tpos) X.env v = (do
      let ov ← holding [v] (eval eo X.env)
      let iv ← holding [v, ov] (eval ei X.env)
      standAt tpos
      holding [v, ov, iv] (setItem ov iv v)
      release [v, ov, iv] [])) :
    PS X (.Assign [.Subscript eo ei tpos] ea pos) (rdS G Γ W (.seti o i a)) :=
  ps_imp (ps_asg ha (pg_sub ho hi set_list has) hs hw h1) fun D σ H ⟨F, r, S, e, R, L, p⟩ => by
    unfold evS at p
    refine ⟨F, r, S, e, R, L, Post.imp (PostS.inS (Rel := IsU G) p L) fun v H1 ⟨F1, r1, S1, uv, e1, R1, q1, p1⟩ => ?_⟩
    refine ⟨F1, r1, S1, e, R1, L.mono e1, Post.imp (PostS.inS (Rel := IsU G) p1 (L.mono e1)) fun x H2 ⟨F2, r2, S2, ux, e2, R2, q2, p2⟩ => ?_⟩
    refine ⟨F2, r2, S2, e, R2, (L.mono e1).mono e2, Post.imp (PostS.inS (Rel := IsU G) p2 ((L.mono e1).mono e2)) fun y H3 ⟨F3, r3, S3, uy, e3, R3, q3, p3⟩ => ?_⟩
    split at p3
    · split at p3
      · rename_i l hl
        split at p3
        · rename_i jj hj
          cases q2.mono e3 with
          | loc h =>
            obtain ⟨xs, g1, g2⟩ := R3.list h hl
            cases q3 with
            | d q3 =>
              cases q3
              have q1' := (q1.mono e2).mono e3
              cases q1' with
              | d q1' =>
                refine ⟨_, xs, _, jj, rfl, rfl, g1, by rw [g2.length, ← plc_eq]; exact hj, ?_⟩
                exact PostS.nx p3 .refl (R3.wlist h hl (g2.set q1' jj)) (((L.mono e1).mono e2).mono e3)
        · exact p3.elim
      · exact p3.elim
    · exact p3.elim
/-- a list's item, by values -/
theorem get_lst {X : Cx} : PGet X (rIxL X.K) := by
  intro pins s σ H x y v u Q I rx ry h
  obtain ⟨p, xs, i, z, rfl, rfl, hq, he, q⟩ := h
  cases rx
  obtain ⟨t, rfl⟩ := ry
  obtain ⟨its, r, pl, hz⟩ := I.list hq
  obtain ⟨j, h1, h2, h3, h4, h5⟩ := atI_get he
  obtain ⟨w, ew, rw'⟩ := r.get h2
  have hl := r.length
  have hn := line63
  have fin : EP X pins σ Q w s := ⟨z, H, I, rw', q⟩
  by_cases h0 : 0 ≤ i
  · have hj : i.toNat = j := by
      rw [seqIndex_of h0 h5] at h1
      exact Option.some.inj h1
    exact wpAny_getItem_list pl.isList h0 (by omega) (by rw [hj]; simpa using ew) fin
  · have hj : (i + (its.toArray.size : Int)).toNat = j := by
      rw [seqIndex_neg (by omega) h4] at h1
      rw [List.size_toArray, ← hl]
      exact Option.some.inj h1
    exact wpAny_getItem_list_neg pl.isList (by omega) (by rw [List.size_toArray] <;> omega) (by omega) (by rw [hj]; simpa using ew) fin
/-- o[i] += e, o[i] -= e -/
theorem ds_augi (C : Ct G Γ tb c X W j) {o i a : E} {b : Bop} {eo ei ea : Expr} {tpos : Pos} (ho : PE X eo (rdE G Γ W o)) (hi : PE X ei (rdE G Γ W i)) (ha : PE X ea (rdE G Γ W a)) (hb : b = .add ∨ b = .sub)
    (hst : ∀ ov iv new, augStore ei ov iv new = (do holding [new, ov, iv] (setItem ov iv new); release [new, ov, iv] []; pure .next)) :
    PS X (.AugAssign (.Subscript eo ei tpos) (opB b) ea pos) (rdS G Γ W (.augi o i b a)) := by
  rcases hb with rfl | rfl
  · refine ps_imp (ps_augS ho hi get_lst ha ip_add set_list hst) fun D σ H ⟨F, r, S, e, R, L, p⟩ => ?_
    unfold evS at p
    refine ⟨F, r, S, e, R, L, Post.imp (PostS.inS (Rel := IsU G) p L) fun x H1 ⟨F1, r1, S1, u, e1, R1, q1, p1⟩ => ?_⟩
    refine ⟨F1, r1, S1, e, R1, L.mono e1, Post.imp (PostS.inS (Rel := IsU G) p1 (L.mono e1)) fun y H2 ⟨F2, r2, S2, uy, e2, R2, q2, p2⟩ => ?_⟩
    split at p2
    · split at p2
      · rename_i l hl
        split at p2
        · rename_i x0 hx
          cases q1.mono e2 with
          | loc h =>
          cases q2 with
          | d q2 =>
          cases q2
          obtain ⟨xs, g1, g2⟩ := R2.list h hl
          obtain ⟨v, g3, g4⟩ := at_is g2 hx
          refine ⟨_, xs, _, v, rfl, rfl, SqL.of g1, g3, ?_⟩
          cases g4
          refine ⟨F2, r2, S2, e, R2, (L.mono e1).mono e2, Post.imp (PostS.inS (Rel := IsU G) p2 ((L.mono e1).mono e2)) fun z H3 ⟨F3, r3, S3, uz, e3, R3, q3, p3⟩ => ?_⟩
          split at p3
          · rename_i l3 hl3
            split at p3
            · rename_i j3 hj
              cases q3 with
              | d q3 =>
              cases q3
              obtain ⟨t', h'⟩ := e3.pre _ _ _ h
              obtain ⟨ys, g5, g6⟩ := R3.list h' hl3
              refine ⟨_, _, rfl, rfl, _, ys, _, j3, rfl, rfl, g5, by rw [g6.length, ← plc_eq]; exact hj, ?_⟩
              exact PostS.nx p3 .refl (R3.wlist h' hl3 (g6.set (.int _) j3)) (((L.mono e1).mono e2).mono e3)
            · exact p3.elim
          · contradiction
          · exact p3.elim
        · exact p2.elim
      · exact p2.elim
    · exact p2.elim
  · refine ps_imp (ps_augS ho hi get_lst ha ip_sub set_list hst) fun D σ H ⟨F, r, S, e, R, L, p⟩ => ?_
    unfold evS at p
    refine ⟨F, r, S, e, R, L, Post.imp (PostS.inS (Rel := IsU G) p L) fun x H1 ⟨F1, r1, S1, u, e1, R1, q1, p1⟩ => ?_⟩
    refine ⟨F1, r1, S1, e, R1, L.mono e1, Post.imp (PostS.inS (Rel := IsU G) p1 (L.mono e1)) fun y H2 ⟨F2, r2, S2, uy, e2, R2, q2, p2⟩ => ?_⟩
    split at p2
    · split at p2
      · rename_i l hl
        split at p2
        · rename_i x0 hx
          cases q1.mono e2 with
          | loc h =>
          cases q2 with
          | d q2 =>
          cases q2
          obtain ⟨xs, g1, g2⟩ := R2.list h hl
          obtain ⟨v, g3, g4⟩ := at_is g2 hx
          refine ⟨_, xs, _, v, rfl, rfl, SqL.of g1, g3, ?_⟩
          cases g4
          refine ⟨F2, r2, S2, e, R2, (L.mono e1).mono e2, Post.imp (PostS.inS (Rel := IsU G) p2 ((L.mono e1).mono e2)) fun z H3 ⟨F3, r3, S3, uz, e3, R3, q3, p3⟩ => ?_⟩
          split at p3
          · contradiction
          · rename_i l3 hl3
            split at p3
            · rename_i j3 hj
              cases q3 with
              | d q3 =>
              cases q3
              obtain ⟨t', h'⟩ := e3.pre _ _ _ h
              obtain ⟨ys, g5, g6⟩ := R3.list h' hl3
              refine ⟨_, _, rfl, rfl, _, ys, _, j3, rfl, rfl, g5, by rw [g6.length, ← plc_eq]; exact hj, ?_⟩
              exact PostS.nx p3 .refl (R3.wlist h' hl3 (g6.set (.int _) j3)) (((L.mono e1).mono e2).mono e3)
            · exact p3.elim
          · exact p3.elim
        · exact p2.elim
      · exact p2.elim
    · exact p2.elim
/-- a list is done: it does not change any more -/
theorem dss_frz {i : Nat} {b : Stm} {st : List Stmt} (h : PSs X st (rdS G Γ W b)) : PSs X st (rdS G Γ W (.seq (.frz i) b)) := pss_imp h fun D σ H ⟨F, r, S, e, R, L, p⟩ => by
  rw [evS, evS] at p
  split at p
  · rename_i n hn
    split at p
    · rename_i l hl
      obtain ⟨v, hv, iv⟩ := L.at_ i _ hn
      cases iv with
      | loc h =>
        obtain ⟨xs, g1, g2⟩ := R.list h hl
        obtain ⟨R1, s1⟩ := R.freeze h hl (fun z => by cases z) g1
        have L1 := L.mono (Ext.cells s1)
        refine ⟨_, r, _, _, R1, ⟨by simpa using L1.len, fun k u hk => ?_⟩, PostS.mono (m := evS Γ b (e.set i (some (.d (.lst l)))) (S.set n .dead)) p (.cells s1)⟩
        rcases set_at hk with ⟨rfl, e1⟩ | ⟨ne, hk⟩
        · cases e1
          exact ⟨_, hv, .d (.lst upd_same (g2.mono s1))⟩
        · exact L1.at_ k u hk
    · exact p.elim
  · exact p.elim

/-! ### loops -/
theorem ds_for {it : E} {g : List Nat} {b : Stm} {tg iter : Expr} {body : List Stmt} (hp : PassesOwn (model X.prog X.w) X.A X.env X.xe) (hc : X.calm = true) (hi : PI X tg iter (rdI G Γ W it)) (hg : PG X tg (rdG G g)) (hb : PSs X body (rdS G Γ W b)) (hpl : plainE iter = true) :
    PS X (.For tg iter body [] pos) (rdS G Γ W (.loop it g b)) := ps_imp (ps_for hp hc hi hg hb (fun x => foldset hpl _ x)) fun D σ H ⟨F, r, S, e, R, L, p⟩ => by
  unfold evS at p
  refine ⟨F, r, S, e, R, L, Post.imp (PostS.inS (Rel := fun F _ J l => ItOk G F J l) p L) fun J H1 ⟨F1, r1, S1, l, e1, R1, q1, p1⟩ => ?_⟩
  refine ⟨fun i m σ H => m = l.length - i ∧ i ≤ l.length ∧ ∃ F' r' S' en, Ext F1 F' r1 r' ∧ Rp G F' r' S' H ∧ Lo G F' r' σ en ∧ PostS G W F' r' (loopS g (evS Γ b) (l.drop i) en S') D,
    ⟨l.length, by simp, Nat.zero_le _, F1, r1, S1, e, .refl, R1, L.mono e1, p1⟩, ?_⟩
  rintro i m σ' H' ⟨rfl, hi, F', r', S', en, x', R', L', p'⟩
  obtain ⟨go, stop⟩ := q1 i F' r' S' H' x'.sub R'
  by_cases hlt : i < l.length
  · obtain ⟨go, yl⟩ := go hlt
    refine .inr ⟨go, fun σ2 H2 => ∃ F2 r2 S2 en2, Ext F1 F2 r1 r2 ∧ Rp G F2 r2 S2 H2 ∧ Lo G F2 r2 σ2 en2 ∧ PostS G W F2 r2 (loopS g (evS Γ b) (l.drop (i + 1)) en2 S2) D, fun σ2 H2 ⟨F2, r2, S2, en2, x2, R2, L2', p2⟩ => ⟨l.length - (i + 1), by omega, rfl, hlt, F2, r2, S2, en2, x2, R2, L2', p2⟩, fun x H2 y => ?_⟩
    obtain ⟨F2, d, s2, R2, ed, ix⟩ := yl x H2 y
    have ed' : l.drop i = d :: l.drop (i + 1) := by
      rw [List.getElem?_eq_getElem hlt] at ed
      rw [List.drop_eq_getElem_cons hlt, Option.some.inj ed]
    rw [ed'] at p'
    unfold loopS at p'
    split at p'
    · exact p'.elim
    · rename_i en1 hb
      refine ⟨F2, r', S', en, .d d, en1, R2, L'.mono (.cells s2), .d ix, by rw [bind_eq]; exact hb, fun σ3 L3 _ => ?_⟩
      have p2 := p'.mono (Ext.cells s2)
      refine ⟨F2, r', S', en1, R2, L3, ?_⟩
      cases q : evS Γ b en1 S' with
      | none => rw [q] at p2; exact p2
      | some z =>
        rw [q] at p2
        cases z with
        | nx en2 S2 => exact fun F3 r3 s3 H3 x3 R3 L3' => ⟨F3, r3, S2, en2, (x'.trans (.cells s2)).trans x3, R3, L3', PostS.mono (m := loopS g (evS Γ b) (l.drop (i + 1)) en2 S2) p2 x3⟩
        | rt u S2 => exact p2
        | ex x en2 S2 => exact p2
  · have e0 : i = l.length := by omega
    subst e0
    rw [List.drop_length] at p'
    unfold loopS at p'
    exact .inl ⟨stop rfl, PostS.nx p' .refl R' L'⟩
theorem ds_while {n : Nat} {t : E} {b : Stm} {et : Expr} {body : List Stmt} (hp : PassesOwn (model X.prog X.w) X.A X.env X.xe) (ht : PT X et (rdT G Γ W t)) (hb : PSs X body (rdS G Γ W b)) :
    PS X (.While et body [] pos) (rdS G Γ W (.whil n t b)) := ps_imp (ps_while hp ht hb) fun D σ H ⟨F, r, S, e, R, L, p⟩ => by
  unfold evS at p
  refine ⟨fun m σ H => ∃ F r S e, Rp G F r S H ∧ Lo G F r σ e ∧ PostS G W F r (whilS (evT Γ t) (evS Γ b) m e S) D, ⟨n, F, r, S, e, R, L, p⟩, ?_⟩
  rintro m σ' H' ⟨F', r', S', e', R', L', p'⟩
  cases m with
  | zero => exact p'.elim
  | succ m =>
    unfold whilS at p'
    refine ⟨F', r', S', e', R', L', Post.imp (PostS.inS (Rel := fun _ _ (b : Bool) c => b = c) p' L') fun k H1 ⟨F1, r1, S1, k', e1, R1, q1, p1⟩ => ?_⟩
    subst q1
    cases k with
    | true =>
      rw [if_pos rfl] at p1
      refine iteT ⟨fun σ2 H2 => ∃ F r S e, Rp G F r S H2 ∧ Lo G F r σ2 e ∧ PostS G W F r (whilS (evT Γ t) (evS Γ b) m e S) D, fun σ2 H2 h2 => ⟨m, Nat.lt_succ_self _, h2⟩, F1, r1, S1, e', R1, L'.mono e1, ?_⟩
      cases q : evS Γ b e' S1 with
      | none => rw [q] at p1; exact p1
      | some z =>
        rw [q] at p1
        cases z with
        | nx en2 S2 => exact fun F3 r3 s3 H3 x3 R3 L3' => ⟨F3, r3, S2, en2, R3, L3', PostS.mono (m := whilS (evT Γ t) (evS Γ b) m en2 S2) p1 x3⟩
        | rt u S2 => exact p1
        | ex x en2 S2 => exact p1
    | false =>
      rw [if_neg Bool.false_ne_true] at p1
      exact iteF (PostS.nx p1 .refl R1 (L'.mono e1))
end
end DL

/-! Fields, defs, calls of any depth. -/
namespace DL
open PySem PySem.Spec L2
open PyProof.Rows hiding St
set_option autoImplicit false
section
variable {G : Gx} {Γ : Ev} {tb : Tb} {c : Sc} {X : Cx} {W : WX} {j : Nat} {pos : Pos}
/-! ### what hangs on the scope alone -/
def envS (sc : Scope) : PySem.Env := { scope := sc, locals := 0, globals := 0, cells := [] }
theorem sw_env (C : Ct G Γ tb c X W j) (ts : List Expr) (v : Expr) : swappedStores ts v X.env = swappedStores ts v (envS c.sc) := by
  rw [← C.sc]; rfl
theorem sw_env2 (C : Ct G Γ tb c X W j) (v : Expr) (t : Option Expr) (l : Nat) : swapsWith v t l X.env = swapsWith v t l (envS c.sc) := by
  rw [← C.sc]; rfl
/-! ### fields -/
theorem isF_put {F H H' : Hp} {x : Str} {y : V} {d : D} (iy : Is G F y d) {vs : List (Str × V)} {fs : List (Str × Fd)} {bs : List Addr} (h : IsF G F H vs fs bs) (hx : ∀ l, fs.lookup x ≠ some (.own l)) (k : ∀ b ∈ bs, ∀ o, H b = some o → H' b = some o) : IsF G F H' (putF x y vs) (putD x (.dat d) fs) bs := by
  induction h with
  | nil => exact .dat iy .nil
  | @dat z v vs d' fs bs h t ih =>
    unfold putF putD
    by_cases e : z = x
    · rw [if_pos e, if_pos e]
      exact .dat iy (t.mono (Same.refl F) fun b o m => k b m o)
    · rw [if_neg e, if_neg e]
      refine .dat h (ih (fun l q => hx l ?_) k)
      rw [List.lookup_cons]
      have : (x == z) = false := by simpa using Ne.symm e
      rw [this]; exact q
  | @own z b xs vs ds fs bs h h2 t ih =>
    unfold putF putD
    have e : z ≠ x := by
      intro e
      subst e
      exact hx ds (by rw [List.lookup_cons]; simp)
    rw [if_neg e, if_neg e]
    refine .own (k _ List.mem_cons_self _ h) h2 (ih (fun l q => hx l ?_) fun b m => k b (List.mem_cons_of_mem _ m))
    rw [List.lookup_cons]
    have : (x == z) = false := by simpa using Ne.symm e
    rw [this]; exact q
theorem put_ins {F : Hp} {r : Pl} {S : Store} {H : Hp} {n k : Nat} {a dx : Addr} {t : List Addr} {fs : List (Str × Fd)} {vs : List (Str × V)} {x : Str} {y : V} {d : D} (R : Rp G F r S H) (h : r[n]? = some (a :: t)) (hs : S[n]? = some (.ins k fs)) (ha : H a = some (.ins (G.cd k) dx vs)) (hf : IsF G F H vs fs t) (iy : Is G F y d) (hx : ∀ l, fs.lookup x ≠ some (.own l)) :
    Rp G F r (S.set n (.ins k (putD x (.dat d) fs))) (upd H a (.ins (G.cd k) dx (putF x y vs))) := by
  obtain ⟨_, nd, _⟩ := R.cel n _ _ h hs (fun z => by cases z)
  exact R.write (H' := upd H a (.ins (G.cd k) dx (putF x y vs))) (c' := .ins k (putD x (.dat d) fs)) h hs (fun z => by cases z) (fun z => by cases z) (fun b hb o q => by rw [upd_ne (by intro z; subst z; exact hb List.mem_cons_self)]; exact q)
    ⟨a, t, dx, _, rfl, upd_same, isF_put iy hf hx fun b m o q => by rw [upd_ne (by intro z; subst z; exact (List.nodup_cons.mp nd).1 m)]; exact q⟩
theorem ins_cell {F : Hp} {r : Pl} {S : Store} {H : Hp} {n k : Nat} {a : Addr} {t : List Addr} {fs : List (Str × Fd)} (R : Rp G F r S H) (h : r[n]? = some (a :: t)) (hs : S[n]? = some (.ins k fs)) : ∃ dx vs, H a = some (.ins (G.cd k) dx vs) ∧ IsF G F H vs fs t := by
  obtain ⟨⟨a', bs, dx, vs, e, h1, h2⟩, _, _⟩ := R.cel _ _ _ h hs (fun z => by cases z)
  cases e
  exact ⟨dx, vs, h1, h2⟩
theorem fld_facts (C : Ct G Γ tb c X W j) {x : Str} (hx : x ∈ tb.flds) {k : Nat} (hk : k < Γ.nc) : Cls X.K (G.cd k) ∧ NoAttr X.K (G.cd k) x := by
  rw [C.wd.nc] at hk
  rw [C.K]
  exact ⟨(C.wd.cl k _ (List.getElem?_eq_getElem hk)).2.1, C.wd.noat k hk x hx⟩
theorem ds_setf (C : Ct G Γ tb c X W j) {o a : E} {eo ea : Expr} {x : Str} {p1 : Pos} (hx : x ∈ tb.flds) (ho : PE X eo (rdE G Γ W o)) (ha : PE X ea (rdE G Γ W a)) (hs : swapsWith ea (some (.Attribute eo x p1)) pos.line X.env = pure false) :
    PS X (.Assign [.Attribute eo x p1] ea pos) (rdS G Γ W (.setf o x a)) := ps_imp (ps_fld ho ha hs) fun D σ H ⟨F, r, S, e, R, L, p⟩ => by
  unfold evS at p
  refine ⟨F, r, S, e, R, L, Post.imp (PostS.inS (Rel := IsU G) p L) fun v H1 ⟨F1, r1, S1, uv, e1, R1, q1, p1⟩ => ?_⟩
  refine ⟨F1, r1, S1, e, R1, L.mono e1, Post.imp (PostS.inS (Rel := IsU G) p1 (L.mono e1)) fun y H2 ⟨F2, r2, S2, uy, e2, R2, q2, p2⟩ => ?_⟩
  cases uy with
  | d _ => exact p2.elim
  | loc n =>
  cases uv with
  | loc _ => exact p2.elim
  | d d =>
  simp only at p2
  split at p2
  · rename_i k fs hc
    split at p2
    · rename_i hk
      have hno : ∀ l, fs.lookup x ≠ some (.own l) := fun l z => by rw [z] at p2; exact p2.elim
      have p3 : PostS G W F2 r2 (some (.nx e (S2.set n (.ins k (putD x (.dat d) fs))))) D := by
        cases z : fs.lookup x with
        | none => rw [z] at p2; exact p2
        | some f =>
          cases f with
          | dat _ => rw [z] at p2; exact p2
          | own l => exact absurd z (hno l)
      cases q2 with
      | loc h =>
        obtain ⟨dx, vs, g1, g2⟩ := ins_cell R2 h hc
        obtain ⟨f1, f2⟩ := fld_facts C hx hk.1
        have q1' := q1.mono e2
        cases q1' with
        | d q1' => exact ⟨_, _, dx, vs, rfl, g1, f1, f2, by rw [g2.length]; omega, PostS.nx p3 .refl (put_ins R2 h hc g1 g2 q1' hno) ((L.mono e1).mono e2)⟩
    · exact p2.elim
  · exact p2.elim

/-! ### defs -/
/-- a body's own frame -/
structure Ow (X : Cx) : Prop where
  po : PassesOwn (model X.prog X.w) X.A X.env X.xe
  stk : X.stack = X.env :: X.outer
  fr : X.env.frame = some X.env.locals
  ex : X.ex = []
theorem post_fin {m : MS} {F : Hp} {r : Pl} {n : Nat} {E : XK} {Q : VK} (hr : r.length = n) (h : Post G (fun c d _ H' => E c d H') [] (IsU G) F r (fin n m) Q) :
    PostS G (fun c d _ H' => E c d H') F r m { nx := fun _ H' => Q .non H', rt := Q } := by
  cases m with
  | none => exact h
  | some z =>
    cases z with
    | nx e S => exact fun F1 r1 σ1 H1 x1 R1 L1 => h F1 (r1.take n) .non H1 (x1.take n (by omega)) (R1.take n) (.d .non)
    | rt u S =>
      cases u with
      | d d =>
        intro F1 r1 v H1 x1 R1 i1
        cases i1 with
        | d i1 => exact h F1 (r1.take n) v H1 (x1.take n (by omega)) (R1.take n) (.d i1)
      | loc k =>
        intro F1 r1 v H1 x1 R1 i1
        cases i1 with
        | loc i1 =>
          have h : Post G (fun c d _ H' => E c d H') [] (IsU G) F r (if k < n then some (.ok (.loc k) (S.take n)) else some (.ok (.loc k) S)) Q := h
          split at h
          · rename_i hk
            exact h F1 (r1.take n) _ H1 (x1.take n (by omega)) (R1.take n) (.loc (by rw [List.getElem?_take_of_lt hk]; exact i1))
          · exact h F1 r1 _ H1 x1 R1 (.loc i1)
    | ex x e S => exact fun F1 r1 c d σ1 H1 x1 R1 L1 xi => h F1 (r1.take n) c d H1 (x1.take n (by omega)) (R1.take n) xi
/-- a def's text and its reading -/
structure DefOk (G : Gx) (tb : Tb) (df : Nat → Option Df) (con : Nat → D) (f : Nat) (a : Addr) (fd : FuncData) (ps : List Str) : Prop where
  ex : ∃ (N : List Str) (x qual : Str) (params : Arguments) (body : List Stmt) (scope : Scope) (d : Df), df f = some d ∧ d.nn = N.length ∧ d.np = ps.length ∧ FunD G.K x qual params body scope [] [] a fd ∧ FnScope N ps scope ∧
    ∀ (Γ : Ev) (X : Cx) (W : WX) (j : Nat), Γ.con = con → Γ.nc = tb.cls.length → Ct G Γ tb ⟨N, scope, true⟩ X W j → Ow X → PSs X body (rdS G Γ W d.body)
  bi : Binds G.K fd ps []
/-- the text: all that its defs lean on but their promises -/
structure Txt (P : Program) (G : Gx) (tb : Tb) (df : Nat → Option Df) (con : Nat → D) (mg : Str → Option Value) : Prop where
  fn : ∀ (f : Nat) (x : Str), tb.fns[f]? = some ⟨none, x⟩ → ∃ a fd ps, mg x = some (.ref a) ∧ DefOk G tb df con f a fd ps
  mt : ∀ (f c : Nat) (x : Str), tb.fns[f]? = some ⟨some c, x⟩ → c < tb.cls.length → ∃ a fd ps, PySem.W.findIn G.K (.ref (G.cd c)) x = some (some (.ref a)) ∧ PySem.W.isFn G.K (.ref a) = true ∧ DefOk G tb df con f a fd ps
  pr : ∀ (x : Str) (f : Nat), (x, f) ∈ tb.props → ∃ p a fd ps, PropOf G.K (G.cd 0) x p a ∧ DefOk G tb df con f a fd ps
  cl : ∀ (c : Nat) (x : Str), tb.cls[c]? = some x → mg x = some (.ref (G.cd c)) ∧ Cls G.K (G.cd c) ∧ PySem.W.makesIn G.K (G.cd c) = true ∧ PySem.W.keepIn G.K (.ref (G.cd c)) = true
  con : ∀ (k : Nat) (x : Str), tb.cons[k]? = some (some x) → ∃ u v, mg x = some u ∧ RelV v u ∧ ∀ F, Is G F v (con k)
  fr : ∀ x ∈ tb.free, mg x = none
  noat : ∀ c < tb.cls.length, ∀ x ∈ tb.flds, NoAttr G.K (G.cd c) x
  drv : 0 < tb.cls.length → DrvOk G
  tk : ∀ x ∈ tb.tups, ∀ u v, mg x = some u → RelV v u → TupK G v
  xc : ∀ (k : Nat) (x : Str), tb.xcs[k]? = some (some x) → mg x = some (.ref (G.xc k)) ∧ ∀ n < 8, PySem.W.exmOne G.K (.ref (G.xc n)) (.ref (G.xc k)) = some (decide (n = k))
  x0 : ∀ (k : Nat) (x : Str), (k, x) ∈ tb.xs0 → mg x = some (.ref (G.xc k)) ∧ PySem.W.excIn G.K (G.xc k) He.veBase "ValueError.__new__" = true ∧ PySem.W.keepIn G.K (.ref (G.xc k)) = true ∧ PySem.W.subIn G.K (.ref (G.xc k)) (.type "BaseException") = some true ∧ PySem.W.typeIn G.K (.ref (G.xc k)) = some (.type "type")
  x1 : ∀ (k : Nat) (x : Str) (fs : List Str), (k, x, fs) ∈ tb.xs1 → mg x = some (.ref (G.xc k)) ∧ mg "super" = none ∧ XmOk G.K P (G.xc k) fs
  xf : ∀ (k : Nat) (f : Str), (k, f) ∈ tb.xfs → XfC G.K (G.xc k) ∧ PySem.W.findIn G.K (.ref (G.xc k)) f = some none
section
variable {P : Program} {mg : Str → Option Value} {base : Heap} {df : Nat → Option Df} {con : Nat → D}
theorem def_ok {n f : Nat} {a : Addr} {fd : FuncData} {ps : List Str} (h : DefOk G tb df con f a fd ps) (wd : Wd G ⟨run df con tb.cls.length n, con, tb.cls.length⟩ tb P mg base j) :
    FnOk P G.w G.K mg base (L2.CX P G.w) (j + 2) a fd ps (spU G (run df con tb.cls.length (n + 1) f)) := by
  obtain ⟨N, x, qual, params, body, scope, d, e1, e2, e3, FD, S, hb⟩ := h.ex
  have hlen : ∀ vs H Q E, spU G (run df con tb.cls.length (n + 1) f) vs H Q E → vs.length = ps.length := fun vs H Q E ⟨F, r, S, us, R, hp, p⟩ => by
    unfold run at p
    rw [e1] at p
    simp only at p
    split at p
    · rename_i hl
      rw [Paired.length hp, hl, e3]
    · exact p.elim
  refine FD.ok S hlen fun cdv A outer s H vs Q E hr h => ?_
  obtain ⟨F, r, St, us, R, hp, p⟩ := h
  unfold run at p
  rw [e1] at p
  simp only at p
  split at p
  · rename_i hl
    have C : Ct G ⟨run df con tb.cls.length n, con, tb.cls.length⟩ tb ⟨N, scope, true⟩ (cxOf (L2.CX P G.w) P G.w G.K mg base N qual scope a cdv A outer s H E) (fun c d _ H' => E c d H') j :=
      ⟨rfl, rfl, rfl, rfl, S.nd, rfl, takes_of rfl rfl rfl rfl, fun _ _ => rfl, hr, wd⟩
    refine ⟨_, hb _ _ _ _ rfl rfl C ⟨PassesOwn.leaving, rfl, rfl, rfl⟩, F, r, St, start0 d us, R, Lo.start e2 hp, ?_⟩
    exact post_fin R.len p
  · exact p.elim
theorem def_0 {f : Nat} {a : Addr} {fd : FuncData} {ps : List Str} : FnOk P G.w G.K mg base (L2.CX P G.w) j a fd ps (spU G (run df con tb.cls.length 0 f)) :=
  ⟨fun vs H Q E ⟨F, r, S, us, R, hp, p⟩ => by unfold run at p; exact p.elim, fun A outer s H args us vs Q E hr he hb hv ⟨F, r, S, us', R, hp, p⟩ => by unfold run at p; exact p.elim⟩
theorem keep_of {f : Nat} {a : Addr} {fd : FuncData} {ps : List Str} (h : DefOk G tb df con f a fd ps) : PySem.W.keepIn G.K (.ref a) = true := by
  obtain ⟨N, x, qual, params, body, scope, d, e1, e2, e3, FD, S, hb⟩ := h.ex
  exact FD.kp
theorem wd_of (T : Txt P G tb df con mg) : ∀ n : Nat, Wd G ⟨run df con tb.cls.length n, con, tb.cls.length⟩ tb P mg base (2 * n)
  | 0 => {
      fn := fun f x h => let ⟨a, fd, ps, h1, h2⟩ := T.fn f x h; ⟨a, fd, ps, h1, keep_of h2, h2.bi, def_0 (f := f) (df := df) (con := con) (tb := tb)⟩
      mt := fun f c x h hc => let ⟨a, fd, ps, h1, h2, h3⟩ := T.mt f c x h hc; ⟨a, fd, ps, h1, h2, keep_of h3, h3.bi, def_0 (f := f) (df := df) (con := con) (tb := tb)⟩
      pr := fun x f h => let ⟨p, a, fd, ps, h1, h2⟩ := T.pr x f h; ⟨p, a, fd, ps, h1, h2.bi, def_0 (f := f) (df := df) (con := con) (tb := tb)⟩
      cl := T.cl
      nc := rfl
      con := T.con
      fr := T.fr
      noat := T.noat
      drv := T.drv
      tk := T.tk
      xc := T.xc
      x0 := T.x0
      x1 := T.x1
      xf := T.xf }
  | n + 1 => {
      fn := fun f x h => let ⟨a, fd, ps, h1, h2⟩ := T.fn f x h; ⟨a, fd, ps, h1, keep_of h2, h2.bi, def_ok h2 (wd_of T n)⟩
      mt := fun f c x h hc => let ⟨a, fd, ps, h1, h2, h3⟩ := T.mt f c x h hc; ⟨a, fd, ps, h1, h2, keep_of h3, h3.bi, def_ok h3 (wd_of T n)⟩
      pr := fun x f h => let ⟨p, a, fd, ps, h1, h2⟩ := T.pr x f h; ⟨p, a, fd, ps, h1, h2.bi, def_ok h2 (wd_of T n)⟩
      cl := T.cl
      nc := rfl
      con := T.con
      fr := T.fr
      noat := T.noat
      drv := T.drv
      tk := T.tk
      xc := T.xc
      x0 := T.x0
      x1 := T.x1
      xf := T.xf }
end
end
end DL

/-! The head: what it says. -/
namespace DL
open PySem PySem.Spec L2
open PyProof.Rows hiding St
set_option autoImplicit false

/-- the text of an __init__ -/
def txOf : List Stmt → DX.XTx
  | .Expr (.Call (.Attribute (.Call (.Name _ p0) _ _ p1) _ p2) [.Constant (.str m) k p3] _ p4) p5 :: _ => ⟨m, k, p0, p1, p2, p3, p4, p5⟩
  | _ => ⟨"", 0, ⟨0, 0, 0, 0⟩, ⟨0, 0, 0, 0⟩, ⟨0, 0, 0, 0⟩, ⟨0, 0, 0, 0⟩, ⟨0, 0, 0, 0⟩, ⟨0, 0, 0, 0⟩⟩
def ftOf : List Stmt → List DX.FTx
  | [] => []
  | .Assign [.Attribute (.Name _ q0) f q1] (.Name _ q2) q3 :: r => ⟨f, q0, q1, q2, q3⟩ :: ftOf r
  | _ :: r => ftOf r
/-- what the scope says -/
def scB (scope : Scope) (fs : List Str) : Bool := decide (scope.kind = .function) && (!scope.isCoroutine && (!scope.isGenerator && ((scope.names.all fun x => decide (x.2 ≠ .cell)) && (decide (scope.names.lookup ("super" : Str) = some .globalImplicit) && (decide (scope.names.lookup ("__class__" : Str) = some .free) &&
  (decide (scope.names.lookup ("self" : Str) = some .local) && (fs.all fun f => decide (scope.names.lookup f = some .local) && !(f == ("__debug__" : Str)))))))))
theorem xm_of {K : PySem.W.Frag} {P : Program} {p : XiD} {ar : Arg} (h : p.ok K = true) (e : fnX K (xiA K p) = p.val) (hb : p.d.body = (txOf p.d.body).stm :: (ftOf p.d.body).map DX.FTx.stm) (hfs : (ftOf p.d.body).map DX.FTx.f = p.fs) (hsc : scB p.d.scope p.fs = true) (hfile : (P.main.file : Str) = p.file) (htop : (P.main.scope.names.lookup ("super" : Str)).isSome = false)
    (hp : (p.d.params.posonlyargs ++ p.d.params.args).head? = some ar) (har : ar.arg = "self")
    (hcall : ∀ (f L cda cc : Addr), (txOf p.d.body).plain (PySem.W.ksEnv p.d.qual p.d.scope L f (.ref cda) cc))
    (hbind : ∀ (kV doc pm : Value) (an : Option Addr) (cda : Addr) (ct : Value) (cc : Addr) (us : List Value), us.length = p.fs.length + 1 → bindArgs (PySem.W.ksFn p.d.name p.d.qual p.d.params p.d.body p.d.scope .none kV doc pm an (.ref cda) ct cc) ⟨us, []⟩ = pure ((("self" : Str) :: p.fs).zip us))
    (h2 : (∃ f, ftOf p.d.body = [f] ∧ f.f ≠ "self") ∨ ∃ f f2, ftOf p.d.body = [f, f2] ∧ f.f ≠ "self" ∧ f2.f ≠ "self" ∧ f2.f ≠ f.f) : XmOk K P (He.ga K p.cls) p.fs := by
  obtain ⟨a1, h⟩ := He.ba h
  obtain ⟨a2, h⟩ := He.ba h
  obtain ⟨a3, h⟩ := He.ba h
  obtain ⟨a4, h⟩ := He.ba h
  obtain ⟨a5, h⟩ := He.ba h
  obtain ⟨a6, h⟩ := He.ba h
  obtain ⟨a7, h⟩ := He.ba h
  obtain ⟨a8, a9⟩ := He.ba h
  obtain ⟨s1, hsc⟩ := He.ba hsc
  obtain ⟨s2, hsc⟩ := He.ba hsc
  obtain ⟨s3, hsc⟩ := He.ba hsc
  obtain ⟨s4, hsc⟩ := He.ba hsc
  obtain ⟨s5, hsc⟩ := He.ba hsc
  obtain ⟨s6, hsc⟩ := He.ba hsc
  obtain ⟨s7, s8⟩ := He.ba hsc
  refine ⟨xiA K p, p.d.name, p.d.qual, p.d.params, p.d.scope, txOf p.d.body, ftOf p.d.body, ?_, hfs, h2⟩
  refine ⟨oexB_ok a5, of_decide_eq_true a1, of_decide_eq_true a2, ?_, of_decide_eq_true a6, of_decide_eq_true a7, of_decide_eq_true a8, htop, fun x hx => ?_, hcall _, of_decide_eq_true s1, by simpa using s2, by simpa using s3, fun x hx => of_decide_eq_true (List.all_eq_true.mp s4 x hx), of_decide_eq_true s5, of_decide_eq_true s6, of_decide_eq_true s7, fun x hx => ?_⟩
  · unfold codB at a3
    unfold fnX at e
    split at a3
    · rename_i oc od fd osl hl
      rw [hl] at e
      obtain ⟨n1, n2, n3, n4, n5, n6, n7, n8, n9, n10, n11, n12, n13, n14, n15⟩ := fd
      have e2 : (some (n1, n2, n3, n4, n5, n6, n7.map (·.1), n15) : FnX) = some (p.d.name, p.d.qual, p.d.params, FuncBody.stmts p.d.body, p.d.scope, mainGlobals, [("__class__" : Str)], builtinsNs) := e
      simp only [Option.some.injEq, Prod.mk.injEq] at e2
      obtain ⟨q1, q2, q3, q4, q5, q6, q7, q8⟩ := e2
      subst q1 q2 q3 q4 q5 q6 q8
      obtain ⟨b0, a3⟩ := He.ba a3
      obtain ⟨b0, b1⟩ := He.ba b0
      obtain ⟨b2, b3⟩ := He.ba a3
      simp only at b0 b1 b2 b3
      have e8 : n8 = Value.none := by
        cases n8 <;> first | rfl | cases b0
      subst e8
      split at b2
      · rename_i cda hq0
        split at b2
        · rename_i ccl cdd vs ccs hcd
          split at b2
          · rename_i file tf hvs
            split at b3
            · rename_i nm cc
              split at b3
              · rename_i cl cld D csl hcc
                obtain rfl : D = He.ga K p.cls := beq_iff_eq.mp b3
                have hnm : nm = "__class__" := by simpa using q7
                subst hnm
                cases hcls : PySem.W.clsIn K (He.ga K p.cls) with
                | none => rw [hcls] at a4; cases a4
                | some cd =>
                  rw [hcls] at a4
                  refine ⟨oc, od, .none, n9, n10, n11, n12, cda, n14, cc, osl, ccl, cdd, vs, ccs, file, tf, cl, cld, csl, cd, ar, ?_, b1, hcd, hvs, by rw [hfile]; exact b2, hcc, rfl, of_decide_eq_true a4, hp, har, fun us hu => ?_⟩
                  · rw [← hb]; exact hl
                  · rw [← hb, hfs]
                    exact hbind _ _ _ _ _ _ _ us (by rw [hu, ← hfs, List.length_map])
              · cases b3
            · cases b3
          · cases b2
        · cases b2
      · cases b2
    · cases a3
  · have := List.all_eq_true.mp a9 x.f (by rw [← hfs]; exact List.mem_map_of_mem hx)
    exact of_decide_eq_true this
  · have := List.all_eq_true.mp s8 x.f (by rw [← hfs]; exact List.mem_map_of_mem hx)
    obtain ⟨k1, k2⟩ := He.ba this
    exact ⟨of_decide_eq_true k1, by simpa using k2⟩
section
variable {fa : List He.Fa} {fn : List He.DefD} {ts : List He.Tab} {ps : List PrD} {xs : List XiD} {ex : PySem.W.Frag → Bool} {w : World} {K : PySem.W.Frag}
theorem SaysY.prop (c : SaysY fa fn ts ps xs ex w K) (i : Nat) {p : PrD} (h : ps[i]? = some p) : PropOf K (He.ga K p.cls) p.name (gPr K p.cls p.name) (gAd K p.cls p.name) ∧ ∃ fd, FunD K p.d.name p.d.qual p.d.params p.d.body p.d.scope (p.d.dvs K) (p.d.kws K) (gAd K p.cls p.name) fd := by
  obtain ⟨h1, h2⟩ := c.pr i p h
  obtain ⟨a1, h1⟩ := He.ba h1
  obtain ⟨a2, h1⟩ := He.ba h1
  obtain ⟨a3, h1⟩ := He.ba h1
  obtain ⟨a4, h1⟩ := He.ba h1
  refine ⟨⟨of_decide_eq_true a1, of_decide_eq_true a2, of_decide_eq_true a3, ?_⟩, funA h2 h1⟩
  cases q : PySem.W.recIn K (gPr K p.cls p.name) "property" with
  | none => rw [q] at a4; cases a4
  | some l =>
    rw [q] at a4
    cases l with
    | nil => cases a4
    | cons v l =>
      cases v <;> first | cases a4 | skip
      refine ⟨l, ?_⟩
      unfold gAd
      rw [q]
theorem drv_of {C : Str} {G : Gx} (hK : G.K = K) (hC : G.cd 0 = He.ga K C) (cl : Cls K (He.ga K C)) (h : drvB K C = true) : DrvOk G := by
  obtain ⟨a1, h⟩ := He.ba h
  obtain ⟨a2, h⟩ := He.ba h
  obtain ⟨a3, h⟩ := He.ba h
  obtain ⟨a4, h⟩ := He.ba h
  obtain ⟨a5, h⟩ := He.ba h
  obtain ⟨a6, a7⟩ := He.ba h
  constructor <;> rw [hK]
  · rw [hC]; exact cl
  · rw [hC]; exact of_decide_eq_true a1
  · exact of_decide_eq_true a2
  · exact of_decide_eq_true a3
  · rw [hC]; exact of_decide_eq_true a4
  · rw [hC]; exact of_decide_eq_true a5
  · rw [hC]; exact fun n hn => of_decide_eq_true (List.all_eq_true.mp a6 n hn)
  · rw [hC]; exact fun n hn => of_decide_eq_true (List.all_eq_true.mp a7 n hn)
theorem km_ok {G : Gx} {x : Str} {kvs : List (Str × Int)} (hK : G.K = K) (hd : ∃ es n, KDict K G.w (He.ga K x) es n) (h : kmB K x kvs = true) : KMap G (He.ga K x) (kvs.map fun p => (p.1, D.int p.2)) := by
  obtain ⟨es, n, kd⟩ := hd
  refine ⟨es, n, by rw [hK]; exact kd, fun z => ?_⟩
  rw [hK]
  unfold kmB at h
  unfold PySem.W.nsIn
  split at h
  · rename_i oc od es' n' osl hl
    rw [hl]
    simp only
    replace h := of_decide_eq_true h
    clear hl kd
    generalize es'.toList = l at h
    induction kvs generalizing l with
    | nil =>
      have : l = [] := by simpa using h
      subst this
      simp
    | cons p kvs ih =>
      cases l with
      | nil => cases h
      | cons e l =>
        rw [List.map_cons, List.map_cons] at h
        obtain ⟨h1, h2⟩ := List.cons.inj h
        have ih := ih l h2
        split at h1
        · rename_i k t i t' ek ev
          have e1 := Option.some.inj h1
          rw [List.map_cons, List.lookup_cons, List.find?_cons, ek]
          rw [← e1]
          by_cases q : k = z
          · subst q
            have : (Value.str k t).isStr k = true := by simp [Value.isStr]
            rw [this]
            simp only [beq_self_eq_true]
            exact ⟨t', by rw [ev]⟩
          · have q1 : (Value.str k t).isStr z = false := by simp [Value.isStr, q]
            have q2 : (z == k) = false := by simpa using Ne.symm q
            rw [q1, q2]
            simp only
            have q3 : e.refKey = false := by unfold DictEntry.refKey; rw [ek]
            rw [List.any_cons, q3, Bool.false_or]
            exact ih
        · cases h1
  · cases h
theorem tup_ok {G : Gx} {x : Str} {xs : List Str} (hK : G.K = K) (h : He.tupB K x (xs.map He.Dv.str) = true) (F : Hp) : Is G F (.ref (He.ga K x)) (.tup (xs.map D.str)) := by
  have := He.tupB_ok h F
  rw [← hK] at this ⊢
  refine .tup this ?_
  rw [List.map_map]
  exact IsL.of_strs xs
end
end DL
namespace DL
open PySem PySem.Spec L2
set_option autoImplicit false
theorem tk_of {K : PySem.W.Frag} {G : Gx} {mg : Str → Option Value} {x : Str} (hK : G.K = K) (hm : mg x = some (.ref (He.ga K x))) (h : tkB K x = true) : ∀ u v, mg x = some u → RelV v u → TupK G v := fun u v h1 h2 => by
  rw [hm] at h1
  cases h1
  have e : v = .ref (He.ga K x) := by
    cases v <;> first | (obtain ⟨t, z⟩ := h2; cases z; done) | (cases h2; done) | (cases h2; rfl) | skip
  subst e
  unfold tkB at h
  split at h
  · rename_i c dt sl hl
    exact ⟨_, _, rfl, by rw [hK]; exact hl, by rw [of_decide_eq_true h], rfl⟩
  · cases h
theorem fact_mem {fa : List He.Fa} {fn : List He.DefD} {K : PySem.W.Frag} (c : He.SaysD fa fn K) {f : He.Fa} (h : f ∈ fa) : f.ok K = true := by
  obtain ⟨i, hi, e⟩ := List.mem_iff_getElem.mp h
  exact c.fact i (f := f) (by rw [List.getElem?_eq_getElem hi, e])
end DL
namespace DL
open PySem PySem.Spec L2
open PyProof.Rows hiding St
set_option autoImplicit false
/-- a promise under which nothing is raised, by itself -/
theorem fn_calm {P : Program} {w : World} {K : PySem.W.Frag} {mg : Str → Option Value} {base : Heap} {k : Nat} {f : Addr} {fd : FuncData} {ps : List Str} {sp : Sp} (F : FnOk P w K mg base (L2.CX P w) k f fd ps sp) :
    FnOk P w K mg base CX0 k f fd ps (fun vs H Q _ => sp vs H Q fun _ _ _ => False) :=
  ⟨fun vs H Q E h => F.len _ _ _ _ h, fun A outer s H args us vs Q E hr he hb hv h => codeAny_mono (F.run A outer s H args us vs Q (fun _ _ _ => False) hr he hb hv h) fun r s' hq => by
    cases r with
    | error e =>
      obtain ⟨_, _, _, _, _, _, _, _, _, _, _, _, z⟩ := hq
      exact z.elim
    | ok fl => cases fl <;> exact hq⟩
theorem isL_ints {G : Gx} {F : Hp} : ∀ ns : List Int, IsL G F (ns.map V.int) (ns.map D.int) := fun ns => IsL.of_ints ns
/-- the law's own promise, by what its data term comes to -/
theorem law_sp {G : Gx} {m : List U → Store → M U} {H : Hp} {a : Addr} {ns : List Int} (h : m [.d (.scr (ns.map D.int))] [] = some (.ok (.d (.bl true)) [])) (hS : SqL G.K H a (ns.map V.int)) :
    spU G m [.ref a] H (fun v _ => v = .bl true) (fun _ _ _ => False) := by
  refine ⟨H, [], [], [.d (.scr (ns.map D.int))], ⟨Same.refl H, rfl, fun n l c h1 => by simp at h1, fun n m l l' c c' b h1 => by simp at h1⟩, .cons (.d (.scr hS (IsL.of_ints ns))) .nil, ?_⟩
  rw [h]
  intro F' r' v H' _ _ q
  cases q with
  | d q => cases q; rfl
end DL

/-! Tests by their values. -/
namespace DL
open PySem PySem.Spec L2
set_option autoImplicit false
section
variable {Γ : Ev}
def asT (m : M U) : M Bool := bnD m fun d S1 => match d with | .bl k => some (.ok k S1) | _ => none
theorem he_call {f : Nat} {es : E} (e : Env) (S : Store) : evT Γ (.call f es) e S = asT (evE Γ (.call f es) e S) := by
  unfold evT evE asT
  cases evL Γ es e S with
  | none => rfl
  | some z => cases z <;> rfl
theorem he_isi {t : Ty} {a : E} (e : Env) (S : Store) : evT Γ (.isi t a) e S = asT (evE Γ (.isi t a) e S) := by
  unfold evT asT
  rw [evE]
  cases evE Γ a e S with
  | none => rfl
  | some z => cases z with
    | ex x S => rfl
    | ok u S => cases u <;> rfl
theorem he_bi {b : Bi} {es : E} (e : Env) (S : Store) : evT Γ (.bi b es) e S = asT (evE Γ (.bi b es) e S) := by
  unfold evT evE asT
  cases evL Γ es e S with
  | none => rfl
  | some z => cases z with
    | ex x S => rfl
    | ok u S =>
      simp only [bnd_ok]
      cases biU b u S with
      | none => rfl
      | some d => cases d <;> rfl
theorem he_var {i : Nat} (e : Env) (S : Store) : evT Γ (.var i) e S = asT (evE Γ (.var i) e S) := by
  unfold evT evE asT
  cases e[i]? with
  | none => rfl
  | some o => cases o with
    | none => rfl
    | some u => cases u with
      | loc n => rfl
      | d d => cases d <;> rfl
theorem he_meth {c f : Nat} {m : Str} {a es : E} (e : Env) (S : Store) : evT Γ (.meth c f m a es) e S = asT (evE Γ (.meth c f m a es) e S) := by
  unfold evT asT
  rw [evE]
  cases evE Γ a e S with
  | none => rfl
  | some z => cases z with
    | ex x S => rfl
    | ok u S =>
      simp only [bnd_ok]
      cases insOk c m u S with
      | false => rfl
      | true =>
        simp only [if_true]
        cases evL Γ es e S with
        | none => rfl
        | some z => cases z <;> rfl
end
section
variable {G : Gx} {Γ : Ev} {tb : Tb} {c : Sc} {X : Cx} {W : WX} {j : Nat} {pos : Pos}
theorem dt_v {a : E} {ea : Expr} (ha : PE X ea (rdE G Γ W a)) (hv : valE ea = true) (he : ∀ e S, evT Γ a e S = asT (evE Γ a e S)) : PT X ea (rdT G Γ W a) := dt_val ha hv he
end
end DL

/-! Exceptions over data: raise, try. -/
namespace DL
open PySem PySem.Spec L2 DX
set_option autoImplicit false
section
variable {G : Gx} {Γ : Ev} {tb : Tb} {c : Sc} {X : Cx} {W : WX} {j : Nat} {pos : Pos}
theorem ds_rais0 (C : Ct G Γ tb c X W j) {k : Nat} {x : Str} {px pc : Pos} (hk : (k, x) ∈ tb.xs0) (hg : isGlB c x = true) : PS X (.Raise (some (.Call (.Name x px) [] [] pc)) none pos) (rdS G Γ W (.rais k [] .nil)) := by
  obtain ⟨m1, m2, m3, m4, m5⟩ := C.wd.x0 k x hk
  obtain ⟨g1, g2⟩ := gl_of C hg
  refine ps_imp (ps_raise C.calm C.tk (pmk_zero PySem.F.excBase_ValueError (by rw [C.K]; exact m2) m1 (by rw [C.K]; exact m3) (raises_own (by rw [C.K]; exact m4) (by rw [C.K]; exact m5)) g1 g2)) fun D σ H ⟨F, r, S, e, R, L, p⟩ => ?_
  unfold evS evL at p
  exact p F r _ none σ H .refl R L ⟨rfl, .inl ⟨rfl, rfl⟩⟩
theorem isX_zip {F : Hp} : ∀ {ks : List Str} {vs : List V} {ds : List D}, IsL G F vs ds → IsX G F (ks.zip vs) (ks.zip ds)
  | [], _, _, _ => by simp; exact .nil
  | k :: ks, _, _, .nil => by simp; exact .nil
  | k :: ks, _, _, .cons h t => by simp only [List.zip_cons_cons]; exact .cons h (isX_zip t)
theorem ds_rais1 (C : Ct G Γ tb c X W j) {k : Nat} {x : Str} {fs : List Str} {es : E} {ea : Expr} {l : List Expr} {px pc : Pos} (hk : (k, x, fs) ∈ tb.xs1) (hg : isGlB c x = true) (hs : PA X (ea :: l) (rdL G Γ W es)) (hp : (ea :: l).all plainE = true) :
    PS X (.Raise (some (.Call (.Name x px) (ea :: l) [] pc)) none pos) (rdS G Γ W (.rais k fs es)) := by
  obtain ⟨m1, m0, fI, name, qual, params, scope, tx, ft, Z, ef, two⟩ := C.wd.x1 k x fs hk
  obtain ⟨g1, g2⟩ := gl_of C hg
  rw [List.all_cons, Bool.and_eq_true] at hp
  refine ps_imp (ps_raise C.calm C.tk (pmk_x (X := X) (by rw [C.K]; exact Z) two (C.room.mono (by omega)) g1 m1 m0 hs g2 (star_cons hp.1 _ _) (plains _ _ _ hp.2))) fun D σ H ⟨F, r, S, e, R, L, p⟩ => ?_
  unfold evS at p
  refine ⟨F, r, S, e, R, L, Post.imp (PostS.inS (Rel := fun F r => Paired (IsU G F r)) p L) fun vs H1 ⟨F1, r1, S1, us, e1, R1, q1, p1⟩ => ?_⟩
  split at p1
  · rename_i ds hds
    split at p1
    · rename_i hl
      have i1 := lst1_is q1 hds
      refine ⟨by rw [i1.length, ef]; exact hl, fun d hd => ?_⟩
      obtain ⟨R2, s2⟩ := R1.new (o := .xd ((ft.map FTx.f).zip vs)) hd
      refine p1 _ r1 _ (some d) σ _ (.cells s2) R2 ((L.mono e1).mono (.cells s2)) ⟨rfl, .inr ⟨d, _, rfl, upd_same, ?_⟩⟩
      show IsX G _ _ (fs.zip ds)
      rw [← ef]
      exact isX_zip (i1.mono s2)
    · exact p1.elim
  · exact p1.elim

/-! ### try -/
/-- the suite's own exceptions: none -/
abbrev W0 : WX := fun _ _ _ _ => False
theorem noXS_post {F : Hp} {r : Pl} {m : MS} {D : Ends} {W' : WX} (h : PostS G W F r (noXS m) D) : PostS G W' F r m D := by
  cases m with
  | none => exact h
  | some z => cases z with
    | nx e S => exact h
    | rt u S => exact h
    | ex x e S => exact h.elim
/-- the suite of a clause with a name -/
inductive XsOk (G : Gx) (tb : Tb) (X : Cx) (C0 i t : Nat) : EX → Expr → Prop
  | str {x : Str} {k : Nat} {p : Pos} : XsOk G tb X C0 i t (.str x) (.Constant (.str x) k p)
  | fld {n f : Str} {p q : Pos} : (C0, f) ∈ tb.xfs → X.N[i]? = some n → X.env.kindOf n = some .local → (n == ("__debug__" : Str)) = false → (n == ("__classdict__" : Str)) = false → attributeBase (.Name n p) f X.env (eval (.Name n p) X.env) = eval (.Name n p) X.env → XsOk G tb X C0 i t (.fld f) (.Attribute (.Name n p) f q)
  | pair {a b : EX} {ea eb : Expr} {k : Nat} {p : Pos} : XsOk G tb X C0 i t a ea → XsOk G tb X C0 i t b eb → plainE ea = true → plainE eb = true → XsOk G tb X C0 i t (.pair a b) (.Tuple [ea, eb] k p)
def rdX (G : Gx) (c0 i : Nat) (a : Addr) (cls : Value) (d : Option Addr) (x : EX) : TE := fun σ H Q => ∃ F r S fs vs dd dv, Rp G F r S H ∧ σ[i]? = some (some (.ref a)) ∧ cls = .ref (G.xc c0) ∧ (fs = [] ∨ (d = some dd ∧ F dd = some (.xd vs))) ∧ IsX G F vs fs ∧ evX fs x = some dv ∧ ∀ F' v H', Same F F' → Rp G F' r S H' → Is G F' v dv → Q v H'
theorem isX_mono {F F' : Hp} (s : Same F F') : ∀ {vs : List (Str × V)} {fs : List (Str × D)}, IsX G F vs fs → IsX G F' vs fs
  | _, _, .nil => .nil
  | _, _, .cons h t => .cons (h.mono s) (isX_mono s t)
theorem isX_look {F : Hp} {f : Str} {d : D} : ∀ {vs : List (Str × V)} {fs : List (Str × D)}, IsX G F vs fs → fs.lookup f = some d → ∃ v, vs.lookup f = some v ∧ Is G F v d
  | _, _, .nil, e => by cases e
  | _, _, .cons (x := x) h t, e => by
    rw [List.lookup_cons] at e ⊢
    cases q : (f == x) with
    | true => rw [q] at e; simp only at e ⊢; cases e; exact ⟨_, rfl, h⟩
    | false => rw [q] at e; simp only at e ⊢; exact isX_look t e
theorem xs_pe (C : Ct G Γ tb c X W j) {c0 i t : Nat} {a : Addr} {oe : Obj} {cls : Value} {d : Option Addr} {pn : List (Addr × Obj)} (hz : Zc cls d oe) (hf : ∃ vs, oe.data = .fields vs) : ∀ {x : EX} {ex : Expr}, XsOk G tb X c0 i t x ex → PE (X.suite a ((a, oe) :: pn)) ex (rdX G c0 i a cls d x)
  | _, _, .str => pe_imp pe_str fun σ H Q ⟨F, r, S, fs, vs, dd, dv, R, q1, q2, q3, q4, q5, q6⟩ => by
    cases q5
    exact q6 F _ H (Same.refl F) R (.str _)
  | _, _, .fld (n := n) (f := f) hx h1 h2 h3 h4 h5 => by
    obtain ⟨T, no⟩ := C.wd.xf _ _ hx
    refine pe_imp (pe_xf (X := X) (C := G.xc c0) (by rw [C.K]; exact T) (by rw [C.K]; exact no) hz hf (pe_var (i := i) (X := X.suite a ((a, oe) :: pn)) h1 (.inl h2) h3 h4) h5) fun σ H Q ⟨F, r, S, fs, vs, dd, dv, R, q1, q2, q3, q4, q5, q6⟩ => ?_
    rcases q3 with q3 | ⟨q3, q7⟩
    · subst q3
      cases q5
    · obtain ⟨v, l1, l2⟩ := isX_look q4 (show fs.lookup f = some dv from q5)
      exact ⟨_, q1, rfl, q2, dd, vs, v, q3, R.sub _ _ q7, l1, q6 F v H (Same.refl F) R l2⟩
  | _, _, .pair ha hb pa pb => by
    refine pe_imp (pe_tup (pa_cons (xs_pe C hz hf ha) (pa_cons (xs_pe C hz hf hb) pa_nil (star_cons pb _ _)) (star_cons pa _ _))) fun σ H Q ⟨F, r, S, fs, vs, dd, dv, R, q1, q2, q3, q4, q5, q6⟩ => ?_
    unfold evX at q5
    split at q5
    · rename_i x y ex ey
      cases q5
      refine ⟨F, r, S, fs, vs, dd, x, R, q1, q2, q3, q4, ex, fun F1 v1 H1 s1 R1 i1 => ?_⟩
      refine ⟨F1, r, S, fs, vs, dd, y, R1, q1, q2, q3.imp id (fun z => ⟨z.1, s1 _ _ z.2⟩), isX_mono s1 q4, ey, fun F2 v2 H2 s2 R2 i2 => ?_⟩
      refine ⟨by show 2 ≤ sizeLine; decide, fun p hp => ?_⟩
      obtain ⟨R3, s3, i3⟩ := new_tup (l := [x, y]) R2 hp (.cons (i1.mono s2) (.cons i2 .nil))
      exact q6 _ _ _ ((s1.trans s2).trans s3) R3 i3
    · cases q5

/-- the clauses, as text and as data -/
inductive HsOk (G : Gx) (Γ : Ev) (tb : Tb) (X : Cx) : List ExceptHandler → Stm → Prop
  | nil : HsOk G Γ tb X [] .nop
  | plain {k : Nat} {x : Str} {b₀ : Stmt} {suite : List Stmt} {np p : Pos} {hds : List ExceptHandler} {b r : Stm} (hk : tb.xcs[k]? = some (some x)) (hg : Gl X x) (hd : (x == ("__debug__" : Str)) = false) (hs : ∀ (a : Addr) (oe : Obj) (pn : List (Addr × Obj)), PSs (X.suite a ((a, oe) :: pn)) (b₀ :: suite) (rdS G Γ W0 b)) (t : HsOk G Γ tb X hds r) :
      HsOk G Γ tb X (.ExceptHandler (some (.Name x np)) none (b₀ :: suite) p :: hds) (.hand k b r)
  | named {k i t : Nat} {x n y : Str} {ex : Expr} {z : EX} {np p py ps : Pos} {hds : List ExceptHandler} {r : Stm} (hk : tb.xcs[k]? = some (some x)) (hg : Gl X x) (hd : (x == ("__debug__" : Str)) = false) (hi : X.N[i]? = some n) (hl : X.env.kindOf n = some .local) (ht : X.N[t]? = some y) (hy : L2.Loc X.env.scope y) (hf : X.fn y = true ∨ X.env.scope.names.lookup y = some .local)
      (hx : XsOk G tb X k i t z ex) (hw : swapsWith ex (some (.Name y py)) ps.line X.env = pure false) (rest : HsOk G Γ tb X hds r) :
      HsOk G Γ tb X (.ExceptHandler (some (.Name x np)) (some n) [.Assign [.Name y py] ex ps] p :: hds) (.handX k i t z r)
/-- what the clauses wish is met -/
theorem hs_wish (C : Ct G Γ tb c X W j) {hds : List ExceptHandler} {h : Stm} (ok : HsOk G Γ tb X hds h) : ∃ l, Hx X hds l ∧ ∀ {F : Hp} {r : Pl} {x : Xn} {e : Env} {S : Store} {D : Ends} {cl : Value} {d : Option Addr} {σ : L2.St} {H : Hp}, x.c < 8 → Rp G F r S H → Lo G F r σ e → XnIs G F cl d x → PostS G W F r (evH Γ h x e S) D → wHx X.K W D l cl d σ H := by
  induction ok with
  | nil =>
    refine ⟨[], .nil, fun {F r x e S D cl d σ H} hc R L xi p => ?_⟩
    unfold evH at p
    exact p F r cl d σ H .refl R L xi
  | @plain k x b₀ suite np p0 hds b r0 hk hg hd hs t ih =>
    obtain ⟨l, h1, h2⟩ := ih
    obtain ⟨m1, m2⟩ := C.wd.xc k x hk
    refine ⟨⟨.ref (G.xc k), none, fun _ _ _ => rdS G Γ W0 b⟩ :: l, .cons ⟨hg, hd, .inl m1⟩ trivial (fun a oe cls d pn _ _ => hs a oe pn) h1, fun {F r x e S D cl d σ H} hc R L xi p => ?_⟩
    obtain ⟨xc, xd⟩ := xi
    refine ⟨decide (x.c = k), by rw [xc, C.K]; exact m2 _ hc, fun hb a ha => ?_, fun hb => ?_⟩
    · have hb := of_decide_eq_true hb
      unfold evH at p
      rw [if_pos hb] at p
      exact ⟨F, r, S, e, R, L, noXS_post p⟩
    · have hb := of_decide_eq_false hb
      unfold evH at p
      rw [if_neg hb] at p
      exact h2 hc R L ⟨xc, xd⟩ p
  | @named k i t x n y ex z np p0 py ps hds r0 hk hg hd hi hl ht hy hf hx hw rest ih =>
    obtain ⟨l, h1, h2⟩ := ih
    obtain ⟨m1, m2⟩ := C.wd.xc k x hk
    refine ⟨⟨.ref (G.xc k), some i, fun a cls d => fun D σ H => rdX G k i a cls d z σ H fun v H' => D.nx (σ.set t (some v)) H'⟩ :: l, .cons ⟨hg, hd, .inl m1⟩ ⟨hi, hl⟩ (fun a oe cls d pn hz hfl => pss_one (ps_set (X := X.suite a ((a, oe) :: pn)) C.nd ht hy (xs_pe C hz hfl hx) hw hf)) h1, fun {F r x e S D cl d σ H} hc R L xi p => ?_⟩
    obtain ⟨xc, xd⟩ := xi
    refine ⟨decide (x.c = k), by rw [xc, C.K]; exact m2 _ hc, fun hb a ha => ?_, fun hb => ?_⟩
    · have hb := of_decide_eq_true hb
      unfold evH at p
      rw [if_pos hb] at p
      split at p
      case isFalse => exact p.elim
      rename_i hje
      split at p
      · rename_i dv hv
        have hlen : i < σ.length := by rw [L.len]; exact hje
        have go : ∀ dd vs, (x.fs = [] ∨ (d = some dd ∧ F dd = some (.xd vs))) → IsX G F vs x.fs → rdX G k i a cl d z (σ.set i (some (.ref a))) H fun v H' => D.nx (((σ.set i (some (.ref a))).set t (some v)).set i none) H' := fun dd vs g1 g2 => by
          refine ⟨F, r, S, x.fs, vs, dd, dv, R, by rw [List.getElem?_set_self hlen], by rw [xc, hb], g1, g2, hv, fun F' v H' s' R' i' => ?_⟩
          refine PostS.nx p (.cells s') R' ?_
          have L1 := ((L.mono (.cells s')).set t (.d i')).clr i
          refine ⟨by simpa using L1.len, fun q u hq => ?_⟩
          obtain ⟨w, w1, w2⟩ := L1.at_ q u hq
          refine ⟨w, ?_, w2⟩
          rw [← w1]
          by_cases hqi : i = q
          · subst hqi
            by_cases hl2 : i < ((σ.set i (some (.ref a))).set t (some v)).length
            · rw [List.getElem?_set_self hl2, List.getElem?_set_self (by simpa using hl2)]
            · rw [List.getElem?_eq_none (by simpa using hl2), List.getElem?_eq_none (by simpa using hl2)]
          · rw [List.getElem?_set_ne hqi, List.getElem?_set_ne hqi]
            by_cases hqt : t = q
            · subst hqt
              by_cases hl2 : t < σ.length
              · rw [List.getElem?_set_self (by simpa using hl2), List.getElem?_set_self hl2]
              · rw [List.getElem?_eq_none (by simpa using hl2), List.getElem?_eq_none (by simpa using hl2)]
            · rw [List.getElem?_set_ne hqt, List.getElem?_set_ne hqi, List.getElem?_set_ne hqt]
        rcases xd with ⟨f0, d0⟩ | ⟨dd, vs, d0, f1, f2⟩
        · exact go 0 [] (.inl f0) (by rw [f0]; exact .nil)
        · exact go dd vs (.inr ⟨d0, f1⟩) f2
      · exact p.elim
    · have hb := of_decide_eq_false hb
      unfold evH at p
      rw [if_neg hb] at p
      exact h2 hc R L ⟨xc, xd⟩ p
theorem ds_try (C : Ct G Γ tb c X W j) (O : Ow X) {b h : Stm} {body : List Stmt} {h₀ : ExceptHandler} {hds : List ExceptHandler} (ok : HsOk G Γ tb X (h₀ :: hds) h) (hb : ∀ {X' : Cx} {W' : WX}, Ct G Γ tb c X' W' j → Ow X' → X'.env = X.env → PSs X' body (rdS G Γ W' b)) :
    PS X (.Try body (h₀ :: hds) [] [] pos) (rdS G Γ W (.tri b h)) := by
  obtain ⟨l, h1, h2⟩ := hs_wish C ok
  refine ps_imp (ps_try_hx (tb := fun W' => rdS G Γ W' b) O.stk O.fr C.nd C.tk (fun W' pn xe tk po => ?_) h1) fun D σ H ⟨F, r, S, e, R, L, p⟩ => ?_
  · exact hb (X' := X.tr pn xe) ⟨C.K, C.w, C.N, C.sc, C.nd, C.calm, tk, C.top, C.room, C.wd⟩ ⟨po, O.stk, O.fr, O.ex⟩ rfl
  · unfold evS at p
    refine ⟨F, r, S, e, R, L, ?_⟩
    cases q : evS Γ b e S with
    | none => rw [q] at p; exact p
    | some z =>
      rw [q] at p
      cases z with
      | nx e1 S1 => exact p
      | rt u S1 => exact p
      | ex x e1 S1 =>
        simp only at p
        split at p
        · rename_i hc
          exact fun F1 r1 cl d σ1 H1 x1 R1 L1 xi => h2 hc R1 L1 xi (PostS.mono (m := evH Γ h x e1 S1) p x1)
        · exact p.elim
/-! ### suites -/
theorem de_varW {X : Cx} {c : Sc} {i : Nat} {x : Str} (hN : X.N = c.N) (hs : X.env.scope = c.sc) (h : isVisB c i x = true) : PE X (.Name x pos) (rdE G Γ W (.var i)) := by
  unfold isVisB at h
  simp only [Bool.and_eq_true, decide_eq_true_eq, Bool.not_eq_true'] at h
  obtain ⟨⟨⟨h1, h2⟩, h3⟩, h4⟩ := h
  refine pe_imp (pe_var (i := i) (by rw [hN]; exact h1) ?_ h3 h4) fun σ H Q ⟨F, r, S, e, R, L, p⟩ => ?_
  · unfold Vis
    rw [hs]
    split at h2
    · rename_i q; exact .inl q
    · rename_i q; exact .inr (.inl q)
    · rename_i q; exact .inr (.inr q)
    · cases h2
  · unfold evE at p
    split at p
    · rename_i u hu
      obtain ⟨v, a, b⟩ := L.at_ i u hu
      exact ⟨v, a, Post.done p .refl R b⟩
    · exact p.elim
/-- name = e within a suite -/
theorem su_set (C : Ct G Γ tb c X W j) {i : Nat} {x : Str} {a : E} {ea : Expr} {px : Pos} (hx : isLocB c i x = true) (ha : ∀ (a' : Addr) (oe : Obj) (pn : List (Addr × Obj)), PE (X.suite a' ((a', oe) :: pn)) ea (rdE G Γ W0 a)) (hs : swapsWith ea (some (.Name x px)) pos.line X.env = pure false) (a' : Addr) (oe : Obj) (pn : List (Addr × Obj)) :
    PSs (X.suite a' ((a', oe) :: pn)) [.Assign [.Name x px] ea pos] (rdS G Γ W0 (.asg [i] a)) := by
  obtain ⟨h1, h2, h3⟩ := loc_of C hx
  refine pss_one (ps_imp (ps_set (X := X.suite a' ((a', oe) :: pn)) C.nd h1 h2 (ha a' oe pn) hs h3) fun D σ H ⟨F, r, S, e, R, L, p⟩ => ?_)
  unfold evS at p
  exact ⟨F, r, S, e, R, L, Post.imp (PostS.inS (Rel := IsU G) p L) fun x H1 ⟨F1, r1, S1, u, e1, R1, q1, p1⟩ => PostS.nx p1 .refl R1 ((L.mono e1).set i q1)⟩
/-- name + 1 within a suite -/
theorem su_add (C : Ct G Γ tb c X W j) {i : Nat} {x : Str} {v : Int} {k : Nat} {px pk pb : Pos} (hx : isVisB c i x = true) (a' : Addr) (oe : Obj) (pn : List (Addr × Obj)) :
    PE (X.suite a' ((a', oe) :: pn)) (.BinOp (.Name x px) .Add (.Constant (.int v) k pk) pb) (rdE G Γ W0 (.bop .add (.var i) (.int v))) :=
  pe_imp (pe_op (or_bop (X := X.suite a' ((a', oe) :: pn)) C.K .add) (de_varW (X := X.suite a' ((a', oe) :: pn)) C.N C.sc hx) de_int) fun σ H Q ⟨F, r, S, e, R, L, p⟩ => two R L (by unfold evE at p; exact p)
theorem hs_plain (C : Ct G Γ tb c X W j) {k : Nat} {x : Str} {b₀ : Stmt} {suite : List Stmt} {np p : Pos} {hds : List ExceptHandler} {b r : Stm} (hk : tb.xcs[k]? = some (some x)) (hg : isGlB c x = true) (hs : ∀ (a : Addr) (oe : Obj) (pn : List (Addr × Obj)), PSs (X.suite a ((a, oe) :: pn)) (b₀ :: suite) (rdS G Γ W0 b)) (t : HsOk G Γ tb X hds r) :
    HsOk G Γ tb X (.ExceptHandler (some (.Name x np)) none (b₀ :: suite) p :: hds) (.hand k b r) :=
  let ⟨g1, g2⟩ := gl_of C hg
  .plain hk g1 g2 hs t
def isLB (c : Sc) (i : Nat) (n : Str) : Bool := decide (c.N[i]? = some n) && decide (c.sc.names.lookup n = some .local)
theorem isL_of (C : Ct G Γ tb c X W j) {i : Nat} {n : Str} (h : isLB c i n = true) : X.N[i]? = some n ∧ X.env.kindOf n = some .local := by
  unfold isLB at h
  simp only [Bool.and_eq_true, decide_eq_true_eq] at h
  refine ⟨by rw [C.N]; exact h.1, ?_⟩
  show X.env.scope.names.lookup n = _
  rw [C.sc]; exact h.2
theorem hs_named (C : Ct G Γ tb c X W j) {k i t : Nat} {x n y : Str} {ex : Expr} {z : EX} {np p py ps : Pos} {hds : List ExceptHandler} {r : Stm} (hk : tb.xcs[k]? = some (some x)) (hg : isGlB c x = true) (hi : isLB c i n = true) (ht : isLocB c t y = true) (hx : XsOk G tb X k i t z ex) (hw : swapsWith ex (some (.Name y py)) ps.line X.env = pure false) (rest : HsOk G Γ tb X hds r) :
    HsOk G Γ tb X (.ExceptHandler (some (.Name x np)) (some n) [.Assign [.Name y py] ex ps] p :: hds) (.handX k i t z r) :=
  let ⟨g1, g2⟩ := gl_of C hg
  let ⟨h1, h2⟩ := isL_of C hi
  let ⟨t1, t2, t3⟩ := loc_of C ht
  .named hk g1 g2 h1 h2 t1 t2 t3 hx hw rest
theorem xs_fld (C : Ct G Γ tb c X W j) {k i t : Nat} {n f : Str} {p q : Pos} (hf : (k, f) ∈ tb.xfs) (hi : isLB c i n = true) (h3 : (n == ("__debug__" : Str)) = false) (h4 : (n == ("__classdict__" : Str)) = false) (hb : attributeBase (.Name n p) f X.env (eval (.Name n p) X.env) = eval (.Name n p) X.env) : XsOk G tb X k i t (.fld f) (.Attribute (.Name n p) f q) :=
  let ⟨h1, h2⟩ := isL_of C hi
  .fld hf h1 h2 h3 h4 hb
end
end DL

/-! A drive's own len, its own ==; sorted by sums; comprehensions of two clauses; a tuple from behind. -/
namespace DL
open PySem PySem.Spec L2
open PyProof.Rows hiding St
set_option autoImplicit false
section
variable {G : Gx} {Γ : Ev} {tb : Tb} {c : Sc} {X : Cx} {W : WX} {j : Nat} {pos : Pos}

/-! ### len of an instance -/
def rOwnLen (K : PySem.W.Frag) (C : Addr) (sp : Sp) : List V → Hp → VK → Prop := fun xs H Q => ∃ a dx fs, xs = [.ref a] ∧ H a = some (.ins C dx fs) ∧ sp [.ref a] H (fun v H2 => ∃ n, v = .int n ∧ 0 ≤ n ∧ n < 2 ^ 63 ∧ Q (.int n) H2) E0
theorem env_in1 {pins : List (Addr × Obj)} {σ : L2.St} {H : Hp} {s : Shared} (I : Inv X pins σ H s) : Env0 X.prog X.w X.K X.mg X.base X.A.in1 X.stack s H := by
  have e := I.env0
  exact ⟨e.frames, e.mod, e.bs, e.bsz, e.funs, e.frf, e.hok, e.bare⟩
theorem cr_ownlen {CX : CXT} {k : Nat} {f C : Addr} {fd : FuncData} {ps : List Str} {sp : Sp} (F : FnOk X.prog X.w X.K X.mg X.base CX k f fd ps sp) (hr : Room (k + 1) X.A) (hs : PySem.W.findIn X.K (.ref C) "__len__" = some (some (.ref f))) (hf : PySem.W.isFn X.K (.ref f) = true) (hb : Binds X.K fd ps []) (hx : Passes CX X E0) :
    CallR X (.builtin "len") (rOwnLen X.K C sp) := by
  intro pins s σ H xs us Q I r h
  obtain ⟨a, dx, fs, rfl, ha, hsp⟩ := h
  obtain rfl := Vals.ref1 r
  obtain ⟨mA, J, _⟩ := ins_get I.hok ha
  obtain ⟨od, J, _⟩ := J.look
  obtain ⟨m, hF⟩ := I.fr
  refine PySem.W.len_K hF I.ok.mod.kin J hs hf ?_
  have hl := F.len _ _ _ _ hsp
  have r2 : Vals [V.ref a] [Value.ref a] := .cons rfl .nil
  have hb2 := hb s [.ref a] I.kIn (by rw [List.append_nil]; exact hl)
  rw [List.append_nil] at hb2
  refine wpAny_call (codeAny_mono (F.run X.A.in1 X.stack s H ⟨[.ref a], []⟩ [.ref a] [.ref a] _ E0 hr.in1 (env_in1 I) hb2 r2 hsp) fun r s' hq => ?_)
  cases r with
  | error e => exact hx pins σ H s e s' I hq
  | ok fl =>
    cases fl with
    | ret w =>
      obtain ⟨z, H', I', rz, n, ez, n0, n1, q⟩ := I.after hq
      subst ez
      obtain ⟨t, rfl⟩ := rz
      exact ⟨⟨n0, n1⟩, .int n, H', I'.tok _, ⟨_, rfl⟩, q⟩
    | next => exact False.elim hq
    | brk => exact False.elim hq
    | cont => exact False.elim hq
theorem de_leno (C : Ct G Γ tb c X W j) {k f : Nat} {x : Str} {a : E} {ea : Expr} {px : Pos} (hk : tb.cls[k]? = some x) (hf : tb.fns[f]? = some ⟨some k, "__len__"⟩) (hfr : Str.ofString "len" ∈ tb.free) (hg : isGlB c (Str.ofString "len") = true) (ha : PE X ea (rdE G Γ W a)) (hp : plainE ea = true) :
    PE X (.Call (.Name (Str.ofString "len") px) [ea] [] pos) (rdE G Γ W (.leno k f a)) := by
  obtain ⟨g1, g2⟩ := gl_of C hg
  obtain ⟨ad, fd, ps, h1, h2, h3, h4, h5⟩ := C.wd.mt f k _ hf (List.getElem?_eq_some_iff.mp hk).1
  refine pe_imp (pe_callB (cr_ownlen (CX := L2.CX X.prog X.w) (C := G.cd k) (by rw [C.K, C.w]; exact h5) C.room (by rw [C.K]; exact h1) (by rw [C.K]; exact h2) (by rw [C.K]; exact h4) passL) g1 (C.wd.fr _ hfr) (by decide +kernel) (pa_cons ha pa_nil (star_cons hp _ _)) (by decide +kernel) g2 (star_cons hp _ _) rfl) fun σ H Q ⟨F, r, S, e, R, L, p⟩ => ?_
  unfold evE at p
  refine ⟨F, r, S, e, R, L, Post.imp (Post.bnd (Rel := IsU G) p) fun y H1 ⟨F1, r1, S1, u, e1, R1, q1, p1⟩ => ?_⟩
  cases hi : insOk k "__len__" u S1 with
  | false => rw [hi] at p1; exact p1.elim
  | true =>
    rw [hi] at p1
    simp only [if_true] at p1
    obtain ⟨a', dx, fs, rfl, q2, q3⟩ := ins_at R1 q1 hi
    refine ⟨a', dx, fs, rfl, q2, ?_⟩
    refine sp_of (G := G) (σ := σ) (W := fun _ _ _ _ => False) (m := Γ.fn f) (us := [u]) R1 (.cons q1 .nil) ?_
    cases z : Γ.fn f [u] S1 with
    | none => rw [z] at p1; exact p1
    | some m =>
      rw [z] at p1
      cases m with
      | ex xx S2 => exact p1.elim
      | ok v S2 =>
        cases v with
        | loc n => exact p1.elim
        | d d =>
          cases d <;> first | exact p1.elim | skip
          rename_i n
          simp only [noX_ok] at p1
          split at p1
          · rename_i hn
            intro F3 r3 b H3 e3 R3 i3
            cases i3 with
            | d i3 => cases i3; exact ⟨n, rfl, hn.1, hn.2, p1 F3 r3 _ H3 e3 R3 (.d (.int _))⟩
          · exact p1.elim

/-! ### == of drives -/
def rOwnEq (K : PySem.W.Frag) (C : Addr) (sp : Sp) : R2 := fun x y H Q => ∃ a dx fs t, x = .ref a ∧ H a = some (.ins C dx fs) ∧ TyX K H y t ∧ PySem.W.notFirst K C t = true ∧ sp [x, y] H (fun v H2 => ∃ b, v = .bl b ∧ Q (.bl b) H2) E0
theorem op_ownEq {CX : CXT} {k : Nat} {f C : Addr} {fd : FuncData} {ps : List Str} {sp : Sp} (F : FnOk X.prog X.w X.K X.mg X.base CX k f fd ps sp) (hr : Room k X.A) (hs : PySem.W.findIn X.K (.ref C) "__eq__" = some (some (.ref f))) (hf : PySem.W.isFn X.K (.ref f) = true) (hb : Binds X.K fd ps []) (hx : ∀ σ, PassesAt CX X σ E0) :
    OpR X (compareOp .Eq) (rOwnEq X.K C sp) := by
  intro pins s σ H x y v u Q I rx ry h
  obtain ⟨a, dx, fs, t, rfl, ha, ht, hn, hsp⟩ := h
  cases rx
  obtain ⟨mA, J, _⟩ := ins_get I.hok ha
  obtain ⟨od, J, _⟩ := J.look
  obtain ⟨m, hF⟩ := I.fr
  obtain ⟨P, Z, hP, _⟩ := kit_of I ry ht
  refine PySem.W.cmp_K (op := .Eq) (tb := t) (by have := hr.un; omega) hF I.ok.mod.kin J (Z.ty _ _ I.kIn hP) hn hs hf ?_
  refine wpAny_mono (run_fnS (E := fun _ => E0) (Q := fun v H2 => ∃ b, v = .bl b ∧ Q (.bl b) H2) (us := [.ref a, u]) (vs := [.ref a, y]) F hr hb (hx σ) I (.cons rfl (.cons ry .nil)) hsp) (fun w s' hq => ?_) fun _ _ e => e
  obtain ⟨z, H', I', rz, b, ez, q⟩ := hq
  subst ez
  obtain rfl : w = Value.bool b := rz
  exact ⟨.bl b, H', I', rfl, q⟩
theorem notFirst_of {d : D} {C : Addr} (hC : C = G.cd 0) (dk : ∀ t, d = .drv t → DrvOk G) (h : drvTup d = true) : PySem.W.notFirst G.K C (ofD G d) = true := by
  subst hC
  cases d <;> first | (simp [drvTup] at h; done) | skip
  · show (_ || _) = true
    rw [Bool.or_eq_true]
    exact .inr (by unfold ofD PySem.W.subIn; rfl)
  · simp [PySem.W.notFirst, ofD]
theorem eqo_core (C : Ct G Γ tb c X W j) {f : Nat} {x : Str} (hk : tb.cls[0]? = some x) (hf : tb.fns[f]? = some ⟨some 0, "__eq__"⟩) : ∃ sp, OpR X (compareOp .Eq) (rOwnEq X.K (G.cd 0) sp) ∧ sp = spU G (Γ.fn f) := by
  obtain ⟨ad, fd, ps, h1, h2, h3, h4, h5⟩ := C.wd.mt f 0 _ hf (List.getElem?_eq_some_iff.mp hk).1
  exact ⟨_, op_ownEq (CX := L2.CX X.prog X.w) (by rw [C.K, C.w]; exact h5) (C.room.mono (Nat.le_succ _)) (by rw [C.K]; exact h1) (by rw [C.K]; exact h2) (by rw [C.K]; exact h4) (fun σ => passAt takes0 σ), rfl⟩
/-- what the own == is asked, and what is done with its answer -/
theorem eqo_rd (C : Ct G Γ tb c X W j) {f : Nat} {x : Str} (hk : tb.cls[0]? = some x) {F : Hp} {r : Pl} {S : Store} {H : Hp} {v w : V} {d1 d2 : D} (R : Rp G F r S H) (h1 : Is G F v d1) (h2 : Is G F w d2) {Q : Bool → Hp → Prop}
    (p : ∃ c S3, eqO Γ.fn f d1 d2 S = some (.ok c S3) ∧ ∀ F3 r3 H3, Ext F F3 r r3 → Rp G F3 r3 S3 H3 → Q c H3) : rOwnEq X.K (G.cd 0) (spU G (Γ.fn f)) v w H fun z H3 => ∃ b, z = .bl b ∧ Q b H3 := by
  obtain ⟨c, S3, hv, p⟩ := p
  unfold eqO at hv
  have h0 : 0 < tb.cls.length := (List.getElem?_eq_some_iff.mp hk).1
  have dk : ∀ t, d2 = .drv t → DrvOk G := fun _ _ => C.wd.drv h0
  split at hv
  · rename_i t0 hb
    cases h1 with
    | drv g1 g2 =>
      refine ⟨_, _, _, ofD G d2, rfl, R.sub _ _ g1, by rw [C.K]; exact ty_of R.sub dk h2, by rw [C.K]; exact notFirst_of rfl dk hb, ?_⟩
      refine sp_of (G := G) (σ := []) (W := fun _ _ _ _ => False) (m := Γ.fn f) (us := [.d (.drv _), .d d2]) R (.cons (.d (.drv g1 g2)) (.cons (.d h2) .nil)) ?_
      cases z : Γ.fn f [.d (.drv t0), .d d2] S with
      | none => rw [z] at hv; cases hv
      | some y =>
        rw [z] at hv
        cases y with
        | ex xx S2 => cases hv
        | ok u S2 =>
          cases u with
          | loc n => cases hv
          | d d =>
            cases d <;> first | (cases hv; done) | skip
            cases hv
            intro F3 r3 b' H3 e3 R3 i3
            cases i3 with
            | d i3 => cases i3; exact ⟨_, rfl, _, rfl, p F3 r3 H3 e3 R3⟩
  · cases hv
theorem de_eqo (C : Ct G Γ tb c X W j) {f : Nat} {x : Str} {a b : E} {ea eb : Expr} (hk : tb.cls[0]? = some x) (hf : tb.fns[f]? = some ⟨some 0, "__eq__"⟩) (ha : PE X ea (rdE G Γ W a)) (hb : PE X eb (rdE G Γ W b)) (hp : plainE eb = true) : PE X (.Compare ea [.Eq] [eb] pos) (rdE G Γ W (.eqo f a b)) := by
  obtain ⟨sp, ho, rfl⟩ := eqo_core C hk hf
  refine pe_imp (pe_cmpR ho ha hb (nobeh hp _)) fun σ H Q ⟨F, r, S, e, R, L, p⟩ => ?_
  unfold evE at p
  refine ⟨F, r, S, e, R, L, Post.imp (Post.bnD p) fun v H1 ⟨F1, r1, S1, d1, e1, R1, q1, p1⟩ => ?_⟩
  refine ⟨F1, r1, S1, e, R1, L.mono e1, Post.imp (Post.bnD p1) fun w H2 ⟨F2, r2, S2, d2, e2, R2, q2, p2⟩ => ?_⟩
  have q := eqo_rd C hk (Q := fun b H => Q (.bl b) H) R2 (q1.mono e2.sub) q2 (by
    cases z : eqO Γ.fn f d1 d2 S2 with
    | none => rw [z] at p2; exact p2.elim
    | some y =>
      rw [z] at p2
      cases y with
      | ex xx S3 => exact p2.elim
      | ok k S3 => exact ⟨k, S3, rfl, fun F3 r3 H3 e3 R3 => p2 F3 r3 _ H3 e3 R3 (.d (.bl _))⟩)
  obtain ⟨a1, a2, a3, a4, a5, a6, a7, a8, a9⟩ := q
  refine ⟨a1, a2, a3, a4, a5, a6, a7, a8, ?_⟩
  obtain ⟨F3, r3, S3, us, b1, b2, b3⟩ := a9
  refine ⟨F3, r3, S3, us, b1, b2, Post.imp b3 fun z H3 ⟨k, ez, k2, ek, hq⟩ => ?_⟩
  subst ez
  cases ek
  exact ⟨k, rfl, hq⟩
theorem dt_eqo (C : Ct G Γ tb c X W j) {f : Nat} {x : Str} {a b : E} {ea eb : Expr} (hk : tb.cls[0]? = some x) (hf : tb.fns[f]? = some ⟨some 0, "__eq__"⟩) (ha : PE X ea (rdE G Γ W a)) (hb : PE X eb (rdE G Γ W b)) (hp : plainE eb = true) : PT X (.Compare ea [.Eq] [eb] pos) (rdT G Γ W (.eqo f a b)) := by
  obtain ⟨sp, ho, rfl⟩ := eqo_core C hk hf
  refine pt_imp (pt_cmpR ho ha hb (nobeh hp _)) fun σ H Q ⟨F, r, S, e, R, L, p⟩ => ?_
  unfold evT at p
  refine ⟨F, r, S, e, R, L, Post.imp (Post.bnD p) fun v H1 ⟨F1, r1, S1, d1, e1, R1, q1, p1⟩ => ?_⟩
  refine ⟨F1, r1, S1, e, R1, L.mono e1, Post.imp (Post.bnD p1) fun w H2 ⟨F2, r2, S2, d2, e2, R2, q2, p2⟩ => ?_⟩
  have q := eqo_rd C hk (Q := Q) R2 (q1.mono e2.sub) q2 (by
    cases z : eqO Γ.fn f d1 d2 S2 with
    | none => rw [z] at p2; exact p2.elim
    | some y =>
      rw [z] at p2
      cases y with
      | ex xx S3 => exact p2.elim
      | ok k S3 => exact ⟨k, S3, rfl, fun F3 r3 H3 e3 R3 => p2 F3 r3 _ H3 e3 R3 rfl⟩)
  exact q

/-! ### sorted(xs, key=sum) -/
theorem keyed_len : ∀ {l : List D} {ks : List (Int × D)}, keyed l = some ks → ks.map (·.2) = l
  | [], ks, h => by simp [keyed] at h; subst h; rfl
  | d :: r, ks, h => by
    simp only [keyed, Option.bind_eq_some_iff, Option.map_eq_some_iff] at h
    obtain ⟨k, h1, m, h2, rfl⟩ := h
    simp [keyed_len h2]
/-- a tuple of numbers: v, what it is, its sum -/
def SumAt (G : Gx) (F : Hp) (v : V) (k : Int) (d : D) : Prop := ∃ (a : Addr) (ns : List Int), v = .ref a ∧ SqT G.K F a (ns.map V.int) ∧ ns.sum = k ∧ Is G F v d
theorem sums_of {F : Hp} : ∀ {xs : List V} {l : List D} {ks : List (Int × D)}, IsL G F xs l → keyed l = some ks → ∃ bs : List (V × Int × D), bs.map (·.1) = xs ∧ bs.map (·.2) = ks ∧ ∀ b ∈ bs, SumAt G F b.1 b.2.1 b.2.2
  | _, [], ks, .nil, h => by simp [keyed] at h; subst h; exact ⟨[], rfl, rfl, by simp⟩
  | _, d :: r, ks, .cons (v := v) h t, e => by
    simp only [keyed, Option.bind_eq_some_iff, Option.map_eq_some_iff] at e
    obtain ⟨k, h1, m, h2, rfl⟩ := e
    obtain ⟨bs, e1, e2, e3⟩ := sums_of t h2
    refine ⟨(v, k, d) :: bs, by simp [e1], by simp [e2], ?_⟩
    intro b hb
    rcases List.mem_cons.mp hb with rfl | hb
    · cases d <;> first | (simp [sumOf] at h1; done) | skip
      simp only [sumOf, Option.map_eq_some_iff] at h1
      obtain ⟨ns, i1, i2⟩ := h1
      cases h with
      | tup q1 q2 =>
        have := intsOf_is q2 i1
        subst this
        exact ⟨_, ns, rfl, q1, i2, .tup q1 q2⟩
    · exact e3 b hb
theorem sumsL {F : Hp} : ∀ {bs : List (V × Int × D)}, (∀ b ∈ bs, SumAt G F b.1 b.2.1 b.2.2) → IsL G F (bs.map (·.1)) (bs.map (·.2.2))
  | [], _ => .nil
  | b :: bs, h => by
    obtain ⟨_, _, _, _, _, q⟩ := h b List.mem_cons_self
    exact .cons q (sumsL fun b hb => h b (List.mem_cons_of_mem _ hb))
/-- v stands for b, a tuple of numbers in the heap -/
def SumIn (s : Shared) (v : Value) (b : V × Int × D) : Prop := RelV b.1 v ∧ ∃ t xs, v = .ref t ∧ s.heap.IsTuple t (intItems xs) ∧ preSum (numAt xs) xs.size = b.2.1
theorem each_of {R : Value → V × Int × D → Prop} : ∀ {bs : List (V × Int × D)} {us : List Value}, Vals (bs.map (·.1)) us → (∀ b u, b ∈ bs → RelV b.1 u → R u b) → PySem.W.EachIs R us bs
  | [], _, .nil, _ => .nil
  | b :: bs, _, .cons r t, h => .cons (h b _ List.mem_cons_self r) (each_of t fun b u hb => h b u (List.mem_cons_of_mem _ hb))
theorem vals_each {s : Shared} : ∀ {us : List Value} {bs : List (V × Int × D)}, PySem.W.EachIs (SumIn s) us bs → Vals (bs.map (·.1)) us
  | _, _, .nil => .nil
  | _, _, .cons h t => .cons h.1 (vals_each t)
def rSrt (G : Gx) : V → Hp → VK → Prop := fun x H Q => ∃ F r S d l, Rp G F r S H ∧ Is G F x d ∧ srtD d = some l ∧ ∀ F' v H', Same F F' → Rp G F' r S H' → Is G F' v l → Q v H'
theorem sorted_sum {pins : List (Addr × Obj)} {s : Shared} {σ : L2.St} {H : Hp} {x : V} {u : Value} {Q : VK} (hc : X.calm = true) (hK : X.K = G.K) (hu : X.A.units + 64 < cLine) (I : Inv X pins σ H s) (rx : RelV x u) (h : rSrt G x H Q) :
    wpAny (model X.prog X.w) X.A (call (.builtin "sorted") [u] [(Str.ofString "key", .builtin "sum")]) (EP X pins σ Q) X.xe s := by
  obtain ⟨F, r, S, d, l, R, hd, hl, q⟩ := h
  cases d <;> first | (simp [srtD] at hl; done) | skip
  rename_i m
  simp only [srtD, Option.map_eq_some_iff] at hl
  obtain ⟨ks, hks, rfl⟩ := hl
  obtain ⟨a, xs, rfl, ha, ta⟩ := rp_lists R hd
  cases rx
  obtain ⟨its, rv, hl, hz⟩ := I.list (SqL.of ha)
  obtain ⟨bs, b1, b2, b3⟩ := sums_of ta hks
  have hlen : bs.length = its.length := by rw [← rv.length, ← b1, List.length_map]
  have each : PySem.W.EachIs (SumIn s) its bs := each_of (by rw [b1]; exact rv) fun b u hb ru => by
    obtain ⟨t, ns, e, h1, h2, h3⟩ := b3 b hb
    refine ⟨ru, t, ?_⟩
    obtain ⟨its2, r2, hT, _⟩ := I.tuple (by rw [hK]; exact same_sqT R.sub h1)
    rw [e] at ru
    obtain ⟨ys, hy⟩ := r2.ints.allInts.items
    refine ⟨ys, ru, by rw [← hy]; exact hT, ?_⟩
    have e2 := r2.ints.numsOf
    have e3 : its2 = (intItems ys).toList := by rw [← hy]
    rw [e3, nums_intItems] at e2
    rw [← h2, ← e2, preSum_eq, List.take_of_length_le (by simp)]
  refine PySem.W.sorted_key_data (b := false) (fun b : V × Int × D => .int b.2.1) (R := SumIn s) hl.isList each (PySem.W.AllAlike.of fun _ _ => by simp [PySem.W.alike]) (PySem.W.Sortable.others fun _ => ⟨by simp, by simp⟩) (by rw [hlen, ← rv.length]; exact hz) (fun b _ => by show X.A.units + 2 + 0 < _; omega) (PyProof.Rows.ksk_s1 _ _) (fun _ => PyProof.Rows.ksk_l1 _ _) (fun _ => PyProof.Rows.ksk_t4 _ _) ?_ ?_
  · rintro v b ⟨_, t, ys, rfl, hT, hs⟩ _ h tk kp
    refine PySem.W.ktm_sumG (I.ok.hd hc) (hT.at fun o e => kp _ _ e) fun h' tk' t' kp' => ?_
    exact ⟨h', tk', rfl, kp', by rw [hs]; exact .int _ _⟩
  · intro out cc h' tk kp hfresh hat hol eo
    rw [PySem.W.dataLe_int] at eo
    have ro := vals_each eo
    generalize hms : (bs.mergeSort fun a b => decide (a.2.1 ≤ b.2.1)) = ms at eo ro
    have hms' : ∀ b ∈ ms, b ∈ bs := fun b hb => by rw [← hms] at hb; exact (List.mergeSort_perm _ _).mem_iff.mp hb
    have hn : H (s.heap.objs.size + 1) = none := I.hok.fresh (Nat.le_succ _)
    have hml : ms.length = bs.length := by rw [← hms]; exact (List.mergeSort_perm _ _).length_eq
    have I2 : Inv X pins σ (upd H (s.heap.objs.size + 1) (.lst (ms.map (·.1)))) { s with heap := h', toks := tk } := I.laid (t' := tk) kp (Nat.le_succ _) ⟨by rw [List.length_map, hml, hlen, ← rv.length]; exact hz, out, cc, ro, hat⟩
    have il := sumsL fun b hb => b3 b (hms' b hb)
    have es : ms.map (·.2.2) = (sortK ks).map (·.2) := by
      rw [← b2, ← hms]
      rw [sortK_eq]
      have := List.map_mergeSort (f := fun b : V × Int × D => b.2) (r := fun a b => decide (a.2.1 ≤ b.2.1)) (s := fun a b : Int × D => decide (a.1 ≤ b.1)) (l := bs) (fun _ _ _ _ => rfl)
      rw [← this]
      simp
    rw [es] at il
    obtain ⟨R2, s2, i2⟩ := new_lst R hn il
    exact ⟨.ref _, _, I2, rfl, q _ _ _ s2 R2 i2⟩
theorem de_srt (C : Ct G Γ tb c X W j) {a : E} {ea : Expr} {px pk p2 : Pos} (hf : Str.ofString "sorted" ∈ tb.free) (hg : isGlB c (Str.ofString "sorted") = true) (hf2 : Str.ofString "sum" ∈ tb.free) (hg2 : isGlB c (Str.ofString "sum") = true) (ha : PE X ea (rdE G Γ W a)) (hp : plainE ea = true) :
    PE X (.Call (.Name (Str.ofString "sorted") px) [ea] [⟨some (Str.ofString "key"), .Name (Str.ofString "sum") pk, p2⟩] pos) (rdE G Γ W (.srt a)) := by
  obtain ⟨g1, g2⟩ := gl_of C hg
  obtain ⟨g3, g4⟩ := gl_of C hg2
  refine ⟨fun pins s σ H Q I ⟨F, r, S, e, R, L, p⟩ => ?_⟩
  refine wpAny_Call_Name_kw (ld_blt I g1 (C.wd.fr _ hf) (u := .builtin "sorted") (by decide +kernel) ?_ (by decide +kernel) g2)
  unfold evE at p
  refine PyProof.Rows.callWith_kw (thn ((pa_cons ha pa_nil (star_cons hp _ _)).run pos pins s σ H (fun vs H1 => ∃ x, vs = [x] ∧ rSrt G x H1 Q) I ?_) fun us s1 ⟨vs, H1, I1, r1, x, ev, q1⟩ => ?_) (by rw [star_cons hp]; rfl) (by rw [star_cons hp]; rfl) rfl rfl
  · refine ⟨F, r, S, e, R, L, Post.imp (Post.bnD p) fun x H1 ⟨F1, r1, S1, d1, e1, R1, i1, p1⟩ => ?_⟩
    obtain ⟨l, h1, h2⟩ := Post.giv p1
    exact ⟨x, rfl, F1, r1, S1, d1, l, R1, i1, h1, h2⟩
  · subst ev
    obtain ⟨u, rfl, ru⟩ := vals1 r1
    show wpAny _ _ (evalAll ((do let v ← eval (.Name (Str.ofString "sum") pk) X.env; standAt pos; pure v) :: [])) _ _ s1
    refine wpAny_evalAll_cons (wpAny_bind (ld_blt I1 g3 (C.wd.fr _ hf2) (u := .builtin "sum") (by decide +kernel) (wpAny_bind (wpAny_standAt (wpAny_pure ?_))) (by decide +kernel) g4))
    refine wpAny_evalAll_nil ?_
    exact sorted_sum C.calm C.K (by have := C.un; omega) I1 ru q1

/-! ### comprehensions of two clauses -/
/-- a turn of the inner walk, of the outer one -/
def inF (Γ : Ev) (n : Nat) (vs1 g1 : List Nat) (t1 el : E) (e1 : Env) : D → Store → M Unit := fun d1 S5 => noX (match bindTo g1 d1 (wipeE e1 vs1) with
  | none => none
  | some e2 => bnd (evT Γ t1 e2 S5) fun c1 S6 => if c1 then bnD (evE Γ el e2 S6) fun x S7 => (match S7[n]? with
      | some (.lst acc) => if acc.length < line then some (.ok () (S7.set n (.lst (acc ++ [x])))) else none
      | _ => none) else some (.ok () S6))
def outF (Γ : Ev) (n : Nat) (vs g : List Nat) (t : E) (vs1 : List Nat) (it1 : E) (g1 : List Nat) (t1 el : E) (e : Env) : D → Store → M Unit := fun d S2 => noX (match bindTo g d (wipeE e vs) with
  | none => none
  | some e1 => bnd (evT Γ t e1 S2) fun c S3 => if c then bnd (evI Γ it1 e1 S3) fun l1 S4 => walks (inF Γ n vs1 g1 t1 el e1) l1 S4 else some (.ok () S3))
theorem wipe_in {vs vs1 : List Nat} (hv : ∀ i ∈ vs1, i ∈ vs) (σ : L2.St) : L2.wipe (L2.wipe σ vs1) vs = L2.wipe σ vs := by
  have ww : ∀ vs' : List Nat, (∀ i ∈ vs', i ∈ vs) → ∀ σ : L2.St, L2.wipe (L2.wipe σ vs') vs = L2.wipe σ vs := by
    intro vs'
    induction vs' with
    | nil => intro _ σ; rfl
    | cons v vs' ih =>
      intro hh σ
      show L2.wipe ((L2.wipe σ vs').set v none) vs = _
      rw [wipe_set (hh v List.mem_cons_self), ih (fun i m => hh i (List.mem_cons_of_mem _ m))]
  exact ww vs1 hv σ
/-- the inner walk, from which the outer one goes on -/
theorem lc2_in {n : Nat} {Dl : Addr} {vs1 g1 : List Nat} {t1 el : E} {σ σ2 : L2.St} {e1 : Env} {F : Hp} {r : Pl} {S : Store} {H1 : Hp} {J : It} {l : List D} {Nx : Hp → Prop} (hv : ∀ i ∈ g1, i ∈ vs1) (R : Rp G F r S H1) (L : Lo G F r σ2 e1) (it : ItOk G F J l)
    (hD : ∃ t, r[n]? = some (Dl :: t))
    (p : Post G W σ (fun _ _ (_ : Unit) (_ : Unit) => True) F r (walks (inF Γ n vs1 g1 t1 el e1) l S) (fun _ H' => Nx H')) :
    ∃ W1 : Nat → Nat → Hp → Prop, (∃ m, W1 0 m H1) ∧ ∀ j k H, W1 j k H →
      (J.stop j H ∧ Nx H) ∨ (J.go j H ∧ ∃ Nx1 : Hp → Prop, (∀ H', Nx1 H' → ∃ k', k' < k ∧ W1 (j + 1) k' H') ∧ ∀ x H', J.yld j H x H' → rdG G g1 x (L2.wipe σ2 vs1) H' fun σ3 H5 => L2.wipe σ3 vs1 = L2.wipe σ2 vs1 ∧ rdT G Γ (fun _ _ _ _ => False) t1 σ3 H5 fun b H6 =>
        if b = true then rdE G Γ (fun _ _ _ _ => False) el σ3 H6 fun y H7 => ∃ acc, H7 Dl = some (.lst acc) ∧ acc.length < sizeLine ∧ Nx1 (upd H7 Dl (.lst (acc ++ [y]))) else Nx1 H6) := by
  obtain ⟨t0, hD⟩ := hD
  refine ⟨fun i m H => m = l.length - i ∧ i ≤ l.length ∧ ∃ F' r' S', Ext F F' r r' ∧ Rp G F' r' S' H ∧ Post G W σ (fun _ _ (_ : Unit) (_ : Unit) => True) F' r' (walks (inF Γ n vs1 g1 t1 el e1) (l.drop i) S') (fun _ H' => Nx H'),
    ⟨l.length, by simp, Nat.zero_le _, F, r, S, .refl, R, p⟩, ?_⟩
  rintro i m H ⟨rfl, hi, F', r', S', s', R', p'⟩
  obtain ⟨go, stop⟩ := it i F' r' S' H s'.sub R'
  by_cases hlt : i < l.length
  · obtain ⟨go, yl⟩ := go hlt
    refine .inr ⟨go, fun H' => ∃ F2 r2 S2, Ext F F2 r r2 ∧ Rp G F2 r2 S2 H' ∧ Post G W σ (fun _ _ (_ : Unit) (_ : Unit) => True) F2 r2 (walks (inF Γ n vs1 g1 t1 el e1) (l.drop (i + 1)) S2) (fun _ H' => Nx H'), fun H' ⟨F2, r2, S2, s2, R2, p2⟩ => ⟨l.length - (i + 1), by omega, rfl, hlt, F2, r2, S2, s2, R2, p2⟩, fun x H' y => ?_⟩
    obtain ⟨F2, d, s2, R2, ed, ix⟩ := yl x H' y
    have ed' : l.drop i = d :: l.drop (i + 1) := by
      rw [List.getElem?_eq_getElem hlt] at ed
      rw [List.drop_eq_getElem_cons hlt, Option.some.inj ed]
    rw [ed'] at p'
    unfold walks at p'
    have p3 := Post.bnd (Rel := fun _ _ (_ : Unit) (_ : Unit) => True) (p'.mono (.cells s2))
    unfold inF at p3
    cases hb : bindTo g1 d (wipeE e1 vs1) with
    | none => rw [hb] at p3; exact p3.elim
    | some e2 =>
      rw [hb] at p3
      have Lw := (L.mono (s'.trans (.cells s2))).wipe vs1
      refine ⟨F2, r', S', wipeE e1 vs1, .d d, e2, R2, Lw, .d ix, by rw [bind_eq]; exact hb, fun σ3 L3 hw => ⟨by rw [hw vs1 hv, wipe_wipe], ?_⟩⟩
      have p4 := noX_post p3 (W' := fun _ _ _ _ => False) (σ' := σ3)
      refine ⟨F2, r', S', e2, R2, L3, Post.imp (Post.bnd (Rel := fun _ _ (b : Bool) c => b = c) p4) fun b H3 ⟨F3, r3, S3, b', x3, R3, eb, p5⟩ => ?_⟩
      subst eb
      cases b with
      | true =>
        rw [if_pos rfl] at p5
        refine iteT ⟨F3, r3, S3, e2, R3, L3.mono x3, Post.imp (Post.bnD p5) fun y H4 ⟨F4, r4, S4, dy, x4, R4, iy, p6⟩ => ?_⟩
        split at p6
        · rename_i acc hacc
          split at p6
          · rename_i hl
            have xx := ((s'.trans (.cells s2)).trans x3).trans x4
            obtain ⟨t', ht'⟩ := xx.pre _ _ _ hD
            obtain ⟨xs, h1, h2⟩ := R4.list ht' hacc
            refine ⟨xs, h1, by rw [h2.length, sizeLine_eq]; exact hl, ?_⟩
            have R5 := R4.wlist ht' hacc (h2.app (.cons iy .nil))
            obtain ⟨F5, r5, S5, _, x5, R5', _, p7⟩ := Post.done (b := ()) p6 .refl R5 trivial
            exact ⟨F5, r5, S5, (s'.trans (.cells s2)).trans x5, R5', p7⟩
          · exact p6.elim
        · exact p6.elim
      | false =>
        rw [if_neg Bool.false_ne_true] at p5
        refine iteF ?_
        obtain ⟨F5, r5, S5, _, x5, R5, _, p7⟩ := Post.done (b := ()) p5 .refl R3 trivial
        exact ⟨F5, r5, S5, (s'.trans (.cells s2)).trans x5, R5, p7⟩
  · have e0 : i = l.length := by omega
    subst e0
    refine .inl ⟨stop rfl, ?_⟩
    rw [List.drop_length] at p'
    unfold walks at p'
    exact Post.done (b := ()) p' .refl R' trivial

/-- the outer walk -/
theorem lc2_out {n : Nat} {Dl : Addr} {vs g : List Nat} {t : E} {vs1 g1 : List Nat} {it1 t1 el : E} {σ : L2.St} {e : Env} {F : Hp} {r : Pl} {S : Store} {H1 : Hp} {J : It} {l : List D} {Fin : Hp → Prop} (hv : ∀ i ∈ g, i ∈ vs) (hv1 : ∀ i ∈ g1, i ∈ vs1) (R : Rp G F r S H1) (L : Lo G F r σ e) (it : ItOk G F J l)
    (hD : ∃ t, r[n]? = some (Dl :: t))
    (p : Post G W σ (fun _ _ (_ : Unit) (_ : Unit) => True) F r (walks (outF Γ n vs g t vs1 it1 g1 t1 el e) l S) (fun _ H' => Fin H')) :
    ∃ W0 : Nat → Nat → Hp → Prop, (∃ m, W0 0 m H1) ∧ ∀ i m H, W0 i m H →
      (J.stop i H ∧ Fin H) ∨ (J.go i H ∧ ∃ Nx : Hp → Prop, (∀ H', Nx H' → ∃ m', m' < m ∧ W0 (i + 1) m' H') ∧ ∀ x H', J.yld i H x H' → rdG G g x (L2.wipe σ vs) H' fun σ2 H2 => L2.wipe σ2 vs = L2.wipe σ vs ∧ rdT G Γ (fun _ _ _ _ => False) t σ2 H2 fun b H3 =>
        if b = true then rdI G Γ (fun _ _ _ _ => False) it1 σ2 H3 fun J1 H4 => ∃ W1 : Nat → Nat → Hp → Prop, (∃ m, W1 0 m H4) ∧ ∀ j k H, W1 j k H →
          (J1.stop j H ∧ Nx H) ∨ (J1.go j H ∧ ∃ Nx1 : Hp → Prop, (∀ H', Nx1 H' → ∃ k', k' < k ∧ W1 (j + 1) k' H') ∧ ∀ x H', J1.yld j H x H' → rdG G g1 x (L2.wipe σ2 vs1) H' fun σ3 H5 => L2.wipe σ3 vs1 = L2.wipe σ2 vs1 ∧ rdT G Γ (fun _ _ _ _ => False) t1 σ3 H5 fun b H6 =>
            if b = true then rdE G Γ (fun _ _ _ _ => False) el σ3 H6 fun y H7 => ∃ acc, H7 Dl = some (.lst acc) ∧ acc.length < sizeLine ∧ Nx1 (upd H7 Dl (.lst (acc ++ [y]))) else Nx1 H6)
        else Nx H3) := by
  obtain ⟨t0, hD⟩ := hD
  refine ⟨fun i m H => m = l.length - i ∧ i ≤ l.length ∧ ∃ F' r' S', Ext F F' r r' ∧ Rp G F' r' S' H ∧ Post G W σ (fun _ _ (_ : Unit) (_ : Unit) => True) F' r' (walks (outF Γ n vs g t vs1 it1 g1 t1 el e) (l.drop i) S') (fun _ H' => Fin H'),
    ⟨l.length, by simp, Nat.zero_le _, F, r, S, .refl, R, p⟩, ?_⟩
  rintro i m H ⟨rfl, hi, F', r', S', s', R', p'⟩
  obtain ⟨go, stop⟩ := it i F' r' S' H s'.sub R'
  by_cases hlt : i < l.length
  · obtain ⟨go, yl⟩ := go hlt
    refine .inr ⟨go, fun H' => ∃ F2 r2 S2, Ext F F2 r r2 ∧ Rp G F2 r2 S2 H' ∧ Post G W σ (fun _ _ (_ : Unit) (_ : Unit) => True) F2 r2 (walks (outF Γ n vs g t vs1 it1 g1 t1 el e) (l.drop (i + 1)) S2) (fun _ H' => Fin H'), fun H' ⟨F2, r2, S2, s2, R2, p2⟩ => ⟨l.length - (i + 1), by omega, rfl, hlt, F2, r2, S2, s2, R2, p2⟩, fun x H' y => ?_⟩
    obtain ⟨F2, d, s2, R2, ed, ix⟩ := yl x H' y
    have ed' : l.drop i = d :: l.drop (i + 1) := by
      rw [List.getElem?_eq_getElem hlt] at ed
      rw [List.drop_eq_getElem_cons hlt, Option.some.inj ed]
    rw [ed'] at p'
    unfold walks at p'
    have p3 := Post.bnd (Rel := fun _ _ (_ : Unit) (_ : Unit) => True) (p'.mono (.cells s2))
    unfold outF at p3
    cases hb : bindTo g d (wipeE e vs) with
    | none => rw [hb] at p3; exact p3.elim
    | some e1 =>
      rw [hb] at p3
      have Lw := (L.mono (s'.trans (.cells s2))).wipe vs
      refine ⟨F2, r', S', wipeE e vs, .d d, e1, R2, Lw, .d ix, by rw [bind_eq]; exact hb, fun σ3 L3 hw => ⟨by rw [hw vs hv, wipe_wipe], ?_⟩⟩
      have p4 := noX_post p3 (W' := fun _ _ _ _ => False) (σ' := σ3)
      refine ⟨F2, r', S', e1, R2, L3, Post.imp (Post.bnd (Rel := fun _ _ (b : Bool) c => b = c) p4) fun b H3 ⟨F3, r3, S3, b', x3, R3, eb, p5⟩ => ?_⟩
      subst eb
      cases b with
      | true =>
        rw [if_pos rfl] at p5
        refine iteT ⟨F3, r3, S3, e1, R3, L3.mono x3, Post.imp (Post.bnd (Rel := fun F _ J l => ItOk G F J l) p5) fun J1 H4 ⟨F4, r4, S4, l1, x4, R4, iy, p6⟩ => ?_⟩
        have xx := ((s'.trans (.cells s2)).trans x3).trans x4
        have hD4 : ∃ t', r4[n]? = some (Dl :: t') := let ⟨_, z⟩ := xx.pre _ _ _ hD; ⟨_, z⟩
        refine lc2_in (σ := σ3) hv1 R4 ((L3.mono x3).mono x4) iy hD4 (Post.imp p6 fun _ H' ⟨F5, r5, S5, _, x5, R5, _, p7⟩ => ⟨F5, r5, S5, (s'.trans (.cells s2)).trans x5, R5, p7⟩)
      | false =>
        rw [if_neg Bool.false_ne_true] at p5
        refine iteF ?_
        obtain ⟨F5, r5, S5, _, x5, R5, _, p7⟩ := Post.done (b := ()) p5 .refl R3 trivial
        exact ⟨F5, r5, S5, (s'.trans (.cells s2)).trans x5, R5, p7⟩
  · have e0 : i = l.length := by omega
    subst e0
    refine .inl ⟨stop rfl, ?_⟩
    rw [List.drop_length] at p'
    unfold walks at p'
    exact Post.done (b := ()) p' .refl R' trivial
theorem lc2_rd {it t it1 t1 el : E} {own : List (Str × Nat)} {g vs1 g1 : List Nat} {σ : L2.St} {H : Hp} {Q : VK} (hv : ∀ i ∈ g, i ∈ own.map (·.2)) (hv1 : ∀ i ∈ g1, i ∈ vs1) (h : rdE G Γ W (.lc2 (own.map (·.2)) it g t vs1 it1 g1 t1 el) σ H Q) :
    tLc2 (rdI G Γ W it) (rdG G g) (rdT G Γ (fun _ _ _ _ => False) t) (rdI G Γ (fun _ _ _ _ => False) it1) (rdG G g1) (rdT G Γ (fun _ _ _ _ => False) t1) (rdE G Γ (fun _ _ _ _ => False) el) (own.map (·.2)) vs1 σ H Q := by
  obtain ⟨F, r, S, e, R, L, p⟩ := h
  unfold evE at p
  refine ⟨F, r, S, e, R, L, Post.imp (Post.bnd (Rel := fun F _ J l => ItOk G F J l) p) fun J H1 ⟨F1, r1, S1, l, e1, R1, q1, p1⟩ => ?_⟩
  intro Dl hDl
  obtain ⟨R2, e2, i2⟩ := new_cell (l := []) (xs := []) R1 hDl .nil
  have at2 : (r1 ++ [[Dl]])[S1.length]? = some [Dl] := by
    rw [← R1.len, List.getElem?_append_right (Nat.le_refl _)]
    simp
  refine lc2_out (n := S1.length) hv hv1 R2 ((L.mono e1).mono e2) (q1.mono e2.sub) ⟨[], at2⟩ (W := W) ?_
  change Post G W σ (IsU G) F1 r1 (bnd (walks (outF Γ S1.length (own.map (·.2)) g t vs1 it1 g1 t1 el e) l (S1 ++ [.lst []])) fun _ S8 => (match S8[S1.length]? with
        | some (.lst r) => some (.ok (.d (.lst r)) (S8.take S1.length))
        | _ => none)) Q at p1
  cases z : walks (outF Γ S1.length (own.map (·.2)) g t vs1 it1 g1 t1 el e) l (S1 ++ [.lst []]) with
  | none => rw [z] at p1; exact p1
  | some y =>
    rw [z] at p1
    cases y with
    | ex xx S8 => exact fun F' r' c d H' e' R' x' => p1 F' r' c d H' (e2.trans e') R' x'
    | ok u S8 =>
      intro F' r' b H' e' R' _
      simp only [bnd_ok] at p1
      split at p1
      · rename_i ls hls
        obtain ⟨t', ht'⟩ := e'.pre _ _ _ at2
        obtain ⟨xs, h1, h2⟩ := R'.list ht' hls
        obtain ⟨R5, s5⟩ := R'.freeze ht' hls (fun z => by cases z) h1
        have R6 := R5.take S1.length
        have es : (S8.set S1.length Cell.dead).take S1.length = S8.take S1.length := by
          rw [List.take_set, List.set_eq_of_length_le (by rw [List.length_take]; exact Nat.min_le_left _ _)]
        rw [es] at R6
        exact p1 _ (r'.take S1.length) _ H' (((e2.trans e').trans (.cells s5)).take _ (by rw [R1.len]; exact Nat.le_refl _)) R6 (.d (.lst upd_same (h2.mono s5)))
      · exact p1.elim
/-- a block's names of two clauses -/
theorem de_lc2 (C : Ct G Γ tb c X W j) {elt tg iter tg1 iter1 : Expr} {ifs ifs1 : List Expr} {scope : Scope} {own : List (Str × Nat)} {vs1 : List Nat} {it t it1 t1 el : E} {g g1 : List Nat} (hok : blkC c.N c.sc scope own = true) (hv : ∀ i ∈ g, i ∈ own.map (·.2)) (hv1 : ∀ i ∈ g1, i ∈ vs1) (hvs : ∀ i ∈ vs1, i ∈ own.map (·.2)) (hp : plainE iter = true) (hp1 : plainE iter1 = true)
    (hi : PI X tg iter (rdI G Γ W it))
    (hg : ∀ {X' : Cx}, Ct G Γ tb ⟨c.N, relS scope c.sc, false⟩ X' (fun _ _ _ _ => False) j → PG X' tg (rdG G g))
    (ht : ∀ {X' : Cx}, Ct G Γ tb ⟨c.N, relS scope c.sc, false⟩ X' (fun _ _ _ _ => False) j → PTs X' ifs (rdT G Γ (fun _ _ _ _ => False) t))
    (hi1 : ∀ {X' : Cx}, Ct G Γ tb ⟨c.N, relS scope c.sc, false⟩ X' (fun _ _ _ _ => False) j → PI X' tg1 iter1 (rdI G Γ (fun _ _ _ _ => False) it1))
    (hg1 : ∀ {X' : Cx}, Ct G Γ tb ⟨c.N, relS scope c.sc, false⟩ X' (fun _ _ _ _ => False) j → PG X' tg1 (rdG G g1))
    (ht1 : ∀ {X' : Cx}, Ct G Γ tb ⟨c.N, relS scope c.sc, false⟩ X' (fun _ _ _ _ => False) j → PTs X' ifs1 (rdT G Γ (fun _ _ _ _ => False) t1))
    (he : ∀ {X' : Cx}, Ct G Γ tb ⟨c.N, relS scope c.sc, false⟩ X' (fun _ _ _ _ => False) j → PE X' elt (rdE G Γ (fun _ _ _ _ => False) el)) :
    PE X (.ListComp elt [⟨tg, iter, ifs, 0⟩, ⟨tg1, iter1, ifs1, 0⟩] scope pos) (rdE G Γ W (.lc2 (own.map (·.2)) it g t vs1 it1 g1 t1 el)) := by
  refine ⟨fun pins s σ H Q I h => ?_⟩
  rw [eval_ListComp]
  refine lc2_core C.calm C.nd I hi (blkOk_by (by rw [C.N, C.sc]; exact hok)) hvs (fun s H Ca cl fp => hg (C.blk s H scope cl Ca fp)) (fun s H Ca cl fp => ht (C.blk s H scope cl Ca fp)) (fun s H Ca cl fp => he (C.blk s H scope cl Ca fp)) (fun x => foldset hp _ x)
    (fun s H Ca cl fp => hi1 (C.blk s H scope cl Ca fp)) (fun s H Ca cl fp => hg1 (C.blk s H scope cl Ca fp)) (fun s H Ca cl fp => ht1 (C.blk s H scope cl Ca fp)) (fun env x => foldset hp1 _ x) (lc2_rd hv hv1 h) fun D Ca s' m H' I' q hn f => ⟨m, hn, fun h'' sb => ?_⟩
  obtain ⟨f0, f1, f2, f3, f4, f5⟩ := f
  exact ⟨.ref D, H', I'.turned (t' := s'.toks) (fun b o hb e => (sb.2 b hb).trans e) f0 f1 f3 f4 f5, rfl, q⟩
/-- name = [.. for .. for ..], written on one line -/
theorem ds_setLc2 (C : Ct G Γ tb c X W j) {i : Nat} {x : Str} {px spos : Pos} {elt tg iter tg1 iter1 : Expr} {ifs ifs1 : List Expr} {scope : Scope} {own : List (Str × Nat)} {vs1 : List Nat} {it t it1 t1 el : E} {g g1 : List Nat} (hx : locB c i x = true) (hk : c.sc.kind = .function) (hl : (px.line == pos.line) = true)
    (hs0 : (scope.names.any fun (n, k) => n == x && (k == .local || k == .cell)) = false) (hok : blkC c.N c.sc scope own = true) (hv : ∀ i ∈ g, i ∈ own.map (·.2)) (hv1 : ∀ i ∈ g1, i ∈ vs1) (hvs : ∀ i ∈ vs1, i ∈ own.map (·.2)) (hp : plainE iter = true) (hp1 : plainE iter1 = true)
    (hi : PI X tg iter (rdI G Γ W it))
    (hg : ∀ {X' : Cx}, Ct G Γ tb ⟨c.N, relS scope c.sc, false⟩ X' (fun _ _ _ _ => False) j → PG X' tg (rdG G g))
    (ht : ∀ {X' : Cx}, Ct G Γ tb ⟨c.N, relS scope c.sc, false⟩ X' (fun _ _ _ _ => False) j → PTs X' ifs (rdT G Γ (fun _ _ _ _ => False) t))
    (hi1 : ∀ {X' : Cx}, Ct G Γ tb ⟨c.N, relS scope c.sc, false⟩ X' (fun _ _ _ _ => False) j → PI X' tg1 iter1 (rdI G Γ (fun _ _ _ _ => False) it1))
    (hg1 : ∀ {X' : Cx}, Ct G Γ tb ⟨c.N, relS scope c.sc, false⟩ X' (fun _ _ _ _ => False) j → PG X' tg1 (rdG G g1))
    (ht1 : ∀ {X' : Cx}, Ct G Γ tb ⟨c.N, relS scope c.sc, false⟩ X' (fun _ _ _ _ => False) j → PTs X' ifs1 (rdT G Γ (fun _ _ _ _ => False) t1))
    (he : ∀ {X' : Cx}, Ct G Γ tb ⟨c.N, relS scope c.sc, false⟩ X' (fun _ _ _ _ => False) j → PE X' elt (rdE G Γ (fun _ _ _ _ => False) el)) :
    PS X (.Assign [.Name x px] (.ListComp elt [⟨tg, iter, ifs, 0⟩, ⟨tg1, iter1, ifs1, 0⟩] scope pos) spos) (rdS G Γ W (.asg [i] (.lc2 (own.map (·.2)) it g t vs1 it1 g1 t1 el))) := by
  obtain ⟨h1, h2⟩ := local_of C hx
  refine ps_imp (ps_setLc2 C.calm C.nd h1 h2 (sw_true (by rw [C.sc]; exact hk) h2 hl hs0) hi (blkOk_by (by rw [C.N, C.sc]; exact hok)) hvs (fun s H Ca cl fp => hg (C.blk s H scope cl Ca fp)) (fun s H Ca cl fp => ht (C.blk s H scope cl Ca fp))
    (fun s H Ca cl fp => hi1 (C.blk s H scope cl Ca fp)) (fun s H Ca cl fp => hg1 (C.blk s H scope cl Ca fp)) (fun s H Ca cl fp => ht1 (C.blk s H scope cl Ca fp)) (fun s H Ca cl fp => he (C.blk s H scope cl Ca fp)) (fun x => foldset hp _ x) (fun env x => foldset hp1 _ x)) fun D σ H h => ?_
  obtain ⟨F, r, S, e, R, L, p⟩ := h
  unfold evS at p
  refine lc2_rd hv hv1 ⟨F, r, S, e, R, L, Post.imp (PostS.inS (Rel := IsU G) p L) fun x H1 ⟨F1, r1, S1, u, e1, R1, q1, p1⟩ => PostS.nx p1 .refl R1 ((L.mono e1).set i q1)⟩

/-! ### t[::-1] -/
theorem adjust_rev (n : Nat) : Builtin.Slice.sliceAdjust none none (-1) (n : Int) = ((n : Int) - 1, -1) := by
  have h1 : ((-1 : Int) < 0) := by omega
  unfold Builtin.Slice.sliceAdjust
  simp only [h1, if_true]
theorem places_rev (n : Nat) : Builtin.Slice.slicePlaces ((n : Int) - 1) (-1) (-1) = n := by
  unfold Builtin.Slice.slicePlaces
  have h1 : ¬ ((-1 : Int) > 0) := by omega
  simp only [h1, if_false]
  split
  · rw [show -(-1 : Int) = 1 by omega, Int.ediv_one]; omega
  · omega
theorem fm_range {A : Type} : ∀ (l : List A) (f : Nat → Option A), (∀ i, i < l.length → f i = l[i]?) → (List.range l.length).filterMap f = l
  | [], f, _ => rfl
  | x :: l, f, h => by
    have h0 : f 0 = some x := by rw [h 0 (by simp)]; rfl
    rw [List.length_cons, List.range_succ_eq_map, List.filterMap_cons, h0]
    simp only [List.filterMap_map]
    rw [fm_range l (f ∘ Nat.succ) fun i hi => by
      show f (i + 1) = _
      rw [h (i + 1) (by simpa using hi)]
      simp]
theorem pick_rev (xs : Array Value) : ((List.range xs.size).filterMap fun (m : Nat) => xs[((xs.size : Int) - 1 + (m : Int) * -1).toNat]?) = xs.toList.reverse := by
  have := fm_range xs.toList.reverse (fun (m : Nat) => xs[((xs.size : Int) - 1 + (m : Int) * -1).toNat]?) fun i hi => by
    have hm : i < xs.size := by simpa using hi
    have e1 : ((xs.size : Int) - 1 + (i : Int) * -1).toNat = xs.size - 1 - i := by omega
    have h2 : xs.size - 1 - i < xs.size := by omega
    have h3 : i < xs.toList.reverse.length := by simpa using hm
    rw [e1, List.getElem?_eq_getElem h3, Array.getElem?_eq_getElem h2]
    simp
  simpa using this
section
variable {P : Program} {w : World} {A : Around} {E : Value → Shared → Prop} {s : Shared}
theorem getItem_tuple_rev {t sl : Addr} {items : Array Value} {vl vu vs : Value} {Q : Value → Shared → Prop} (ht : IsTup s.heap t items) (hs : s.heap.IsSliceOf sl vl vu vs) (pl : IsPart vl none) (pu : IsPart vu none) (ps : IsPart vs (some (-1)))
    (h : Q (.ref s.heap.objs.size) { s with heap := s.heap.push { cls := .type "tuple", data := .seq items.toList.reverse.toArray } }) (hsz : items.size ≤ sizeLine) : wpAny (model P w) A (getItem (.ref t) (.ref sl)) Q E s := by
  have htake : sizeOk (.seq items.toList.reverse.toArray) := by
    show items.toList.reverse.toArray.size ≤ sizeLine
    simpa using hsz
  obtain ⟨os, hos, hcs, hds⟩ := id hs
  have hTs : s.TypeIs (.ref sl) "slice" := ⟨os, hos, hcs⟩
  unfold getItem
  try with_reducible refine wpAny_holding ?_
  first | refine wpAny_bind (wpAny_pure ?_) | skip
  refine wpAny_bind (wpAny_sequenceKey ht.typeIs (by decide) ?_)
  refine wpAny_bind (wpAny_callSpecial?_slot (name := Str.ofString "__getitem__") ht.typeIs PyProof.Rows.slot_tuple_getitem
    (wpAny_call_entry PyProof.Rows.slot_tuple_getitem ht.typeIs entry_tuple_getitem ?_ (args_tuple_getitem _ _)))
  show wpAny _ _ (Builtin.Tuple.tupleItemsOf (.ref t) >>= _) _ _ s
  refine wpAny_bind (tupleItemsOf_ ht ?_)
  refine wpAny_bind (wpAny_typeOf hTs ?_)
  rw [if_pos (by decide)]
  refine wpAny_bind (m := Builtin.Slice.sliceApplied _ _) ?_
  unfold Builtin.Slice.sliceApplied Builtin.Slice.sliceFields
  refine wpAny_bind (wpAny_bind (wpAny_field hos hds (x := vl) rfl (wpAny_bind (wpAny_field hos hds (x := vu) rfl (wpAny_bind (wpAny_field hos hds (x := vs) rfl (wpAny_pure ?_)))))))
  refine wpAny_bind (HT.slicePart_ ps ?_)
  show wpAny _ _ (if ((-1 : Int) == 0) = true then _ else _) _ _ s
  rw [if_neg (by decide)]
  refine wpAny_bind (HT.slicePart_ pl (wpAny_bind (HT.slicePart_ pu (wpAny_bind (wpAny_pure ?_)))))
  show wpAny _ _ (match Builtin.Slice.sliceAdjust none none (-1) (items.size : Int) with | (lo, hi) => pure (lo, (-1 : Int), Builtin.Slice.slicePlaces lo hi (-1))) _ _ s
  rw [adjust_rev]
  show wpAny _ _ (pure ((items.size : Int) - 1, (-1 : Int), Builtin.Slice.slicePlaces ((items.size : Int) - 1) (-1) (-1))) _ _ s
  rw [places_rev]
  refine wpAny_pure ?_
  show wpAny _ _ (if (((items.size : Int) - 1 == 0 && (-1 : Int) == 1 && items.size == items.size) = true) then _ else _) _ _ s
  rw [if_neg (by simp), pick_rev]
  first
    | exact wpAny_bind (m := Builtin.Tuple.tupleExact _) (wpAny_newObj_type (wpAny_pure ⟨_, rfl, wpAny_pure h⟩) htake)
    | exact wpAny_bind (m := Builtin.Tuple.tupleExact _) (wpAny_newObj_type (wpAny_bind (wpAny_pure (wpAny_pure ⟨_, rfl, wpAny_pure h⟩))) htake)
end
def rRevT (K : PySem.W.Frag) (te : TE) : TE := fun σ H Q => te σ H fun x H1 => ∃ a xs, x = .ref a ∧ SqT K H1 a xs ∧ ∀ p, H1 p = none → Q (.ref p) (upd H1 p (.tup xs.reverse))
theorem pe_revT {e : Expr} {te : TE} {k : Nat} {p1 p2 p3 pos : Pos} (he : PE X e te) : PE X (.Subscript e (.Slice none none (some (.UnaryOp .USub (.Constant (.int 1) k p1) p2)) p3) pos) (rRevT X.K te) := by
  refine ⟨fun pins s σ H Q I h => ?_⟩
  refine Subscript_ (thn (he.run pins s σ H _ I h) fun v s1 ⟨x, H1, I1, r1, q1⟩ => ?_)
  obtain ⟨a, xs, ex, hx, q⟩ := q1
  subst ex
  cases r1
  have hstep : PO X (some (.UnaryOp .USub (.Constant (.int 1) k p1) p2)) (tPart (tUn (rU fun i => .int (-i)) (tC (.int 1)))) := po_some (pe_un un_neg pe_int)
  refine wpAny_Slice (thn (po_none.run pins s1 σ H1 (fun o H2 => o = none ∧ H2 = H1) I1 ⟨rfl, rfl⟩) fun vl s2 ⟨l, H2, I2, pl, el, e2⟩ => ?_)
  subst el e2
  refine thn (po_none.run pins s2 σ H2 (fun o H3 => o = none ∧ H3 = H2) I2 ⟨rfl, rfl⟩) fun vu s3 ⟨u, H3, I3, pu, eu, e3⟩ => ?_
  subst eu e3
  refine thn (hstep.run pins s3 σ H3 (fun o H4 => o = some (-1) ∧ H4 = H3) I3 ⟨1, rfl, -1, rfl, rfl, rfl⟩) fun vs s4 ⟨o, H4, I4, ps, eo, e4⟩ => ?_
  subst eo e4
  have I5 : Inv X pins σ H4 { s4 with heap := s4.heap.push { cls := .type "slice", data := .fields #[vl, vu, vs] } } := I4.kept (t' := s4.toks) fun b ob q => Heap.get?_push_of_some _ q
  obtain ⟨its, r, ht, hz⟩ := I5.tuple hx
  have hlen := r.length
  show wpAny (model X.prog X.w) X.A (subscriptTail e (.Slice none none (some (.UnaryOp .USub (.Constant (.int 1) k p1) p2)) p3) (.ref a) (.ref s4.heap.objs.size)) (EP X pins σ Q) X.xe { s4 with heap := s4.heap.push { cls := .type "slice", data := .fields #[vl, vu, vs] } }
  refine tail_any (ops := [.ref a, .ref s4.heap.objs.size]) ht.typeIs (PyProof.Rows.slot_tuple_getitem.lookup) ?_ (by with_unfolding_all rfl)
  refine getItem_tuple_rev ht (Heap.IsSliceOf.new _ vl vu vs) pl pu ps ?_ (by rw [List.size_toArray]; omega)
  refine ⟨.ref _, _, I5.laid (t' := s4.toks) (o := .tup xs.reverse) (fun b ob q => Heap.get?_push_of_some _ q) (Nat.le_refl _) ?_, rfl, q _ (I5.hok.fresh (Nat.le_refl _))⟩
  exact ⟨by rw [List.length_reverse]; exact hz, _, r.reverse, IsTup.new _ _⟩
theorem de_rev (C : Ct G Γ tb c X W j) {a : E} {ea : Expr} {k : Nat} {p1 p2 p3 : Pos} (ha : PE X ea (rdE G Γ W a)) :
    PE X (.Subscript ea (.Slice none none (some (.UnaryOp .USub (.Constant (.int 1) k p1) p2)) p3) pos) (rdE G Γ W (.rev a)) :=
  pe_imp (pe_revT ha) fun σ H Q ⟨F, r, S, e, R, L, p⟩ => by
    unfold evE at p
    refine ⟨F, r, S, e, R, L, Post.imp (Post.bnD p) fun x H1 ⟨F1, r1, S1, d1, e1, R1, q1, p1⟩ => ?_⟩
    cases d1 <;> first | exact p1.elim | skip
    obtain ⟨b, xs, rfl, h1, h2⟩ := rp_tups R1 q1
    refine ⟨b, xs, rfl, by rw [C.K]; exact h1, fun q hq => ?_⟩
    obtain ⟨R2, s2, i2⟩ := new_tup R1 hq h2.reverse
    exact Post.done p1 (.cells s2) R2 (.d i2)
end
end DL

/-! Dicts of truth values. -/
namespace DL
open PySem PySem.Spec L2
open PyProof.Rows hiding St
set_option autoImplicit false
section
variable {G : Gx} {Γ : Ev} {tb : Tb} {c : Sc} {X : Cx} {W : WX} {j : Nat} {pos : Pos}
theorem bd_keep {a : Addr} {ks : List Bool} {us : List Value} {h1 h2 : Heap} (d : ∀ (P : Program) (w : World), h1.DictOf (PpSet.boolK P w) a (ks.zip us)) (k : ∀ o, h1.get? a = some o → h2.get? a = some o) : ∀ (P : Program) (w : World), h2.DictOf (PpSet.boolK P w) a (ks.zip us) := fun P w => by
  obtain ⟨o, es, ep, ho, r⟩ := d P w
  exact ⟨o, es, ep, k o ho, r⟩
theorem bd_ok {P : Program} {w : World} {H : Hp} {h : Heap} {a : Addr} {ks : List Bool} {vs : List V} {us : List Value} (hs : (a == sysModules) = false) (hl : vs.length = ks.length) (r : Vals vs us) (d : ∀ (P : Program) (w : World), h.DictOf (PpSet.boolK P w) a (ks.zip us)) : ObjOk P w H h a (BdH a ks vs) := by
  refine ⟨⟨hs, hl, us, r, d⟩, ?_, fun h1 h2 ⟨p1, p2, us1, r1, d1⟩ k => ⟨p1, p2, us1, r1, bd_keep d1 k⟩⟩
  obtain ⟨o, es, ep, ho, _⟩ := d P w
  exact ⟨o, ho⟩
/-- {} for keys that are truth values -/
theorem pe_bdn : PE X (.Dict [] [] pos) (fun _ H Q => ∀ p, H p = none → Q (.ref p) (upd H p (BdH p [] []))) := by
  refine ⟨fun pins s σ H Q I h => ?_⟩
  refine wpAny_mono (pe_dnewK.run pins s σ H (fun v H' => ∃ p, v = .ref p ∧ H p = none ∧ H' = upd H p (.dK [])) I fun p hp => ⟨p, rfl, hp, rfl⟩) (fun u s' ⟨v, H', I', r, p, ev, hp, eH⟩ => ?_) fun _ _ e => e
  subst ev eH
  have ok : ObjOk X.prog X.w (upd H p (.dK [])) s'.heap p (.dK []) := I'.hok p _ upd_same
  obtain ⟨_, hs, vs, kv, dd⟩ := ok
  cases kv
  obtain ⟨o, es, ep, ho, hex, hd, hk, pr, nd⟩ := dd
  have he : es.toList = [] := by
    cases q : es.toList with
    | nil => rfl
    | cons x t => rw [q] at pr; cases pr
  have hes : es = #[] := Array.toList_inj.mp he
  subst hes
  have db : ∀ (P : Program) (w : World), s'.heap.DictOf (PpSet.boolK P w) p (([] : List Bool).zip ([] : List Value)) := fun P w =>
    ⟨o, #[], ep, ho, hex, hd, fun e he => by simp at he, by exact .nil, by simp⟩
  have I2 : Inv X pins σ (upd (upd H p (.dK [])) p (BdH p [] [])) { s' with heap := s'.heap, toks := s'.toks } := I'.write (x := p) (e := p) (by rw [upd_same]; trivial) (.inl rfl) (fun b u _ q => q) ⟨o, ho⟩ (bd_ok hs rfl .nil db)
  rw [upd_upd] at I2
  exact ⟨.ref p, _, I2, r, h p hp⟩
theorem de_bdn : PE X (.Dict [] [] pos) (rdE G Γ W .bdn) := pe_imp pe_bdn fun σ H Q ⟨F, r, S, e, R, L, p⟩ q hq => by
  unfold evE at p
  obtain ⟨R1, e1⟩ := R.cell (H' := upd H q (BdH q [] [])) (l := [q]) (c := .bdc []) (fun b hb => by rw [show b = q by simpa using hb]; exact hq) (by simp) (fun b hb o z => by rw [upd_ne (by simpa using hb)]; exact z) ⟨q, [], rfl, upd_same, .nil⟩
  refine Post.done p e1 R1 (.loc (t := []) ?_)
  rw [← R.len, List.getElem?_append_right (Nat.le_refl _)]
  simp
theorem look_at {ks : List Bool} {us : List Value} {k : Bool} : valueAt (ks.zip us) k = (ks.zip us).lookup k := by
  unfold valueAt
  generalize ks.zip us = l
  induction l with
  | nil => rfl
  | cons x t ih =>
    obtain ⟨b, v⟩ := x
    rw [List.lookup_cons, List.find?_cons]
    by_cases q : b = k
    · subst q; simp
    · have q1 : (k == b) = false := by simpa using Ne.symm q
      rw [q1]
      simp only [q, decide_false]
      exact ih
/-! ### setdefault and get with truth values as keys -/
theorem two_b {l : List Bool} (h : l.Nodup) : l.length ≤ 2 := by
  match l, h with
  | [], _ => simp
  | [_], _ => simp
  | [_, _], _ => simp
  | a :: b :: c :: t, h => cases a <;> cases b <;> cases c <;> simp at h
theorem vals_look {vs : List V} {us : List Value} (r : Vals vs us) (k : Bool) : ∀ (ks : List Bool), (((ks.zip vs).lookup k = none ∧ (ks.zip us).lookup k = none) ∨ ∃ v u, (ks.zip vs).lookup k = some v ∧ (ks.zip us).lookup k = some u ∧ RelV v u) := by
  induction r with
  | nil => intro ks; exact .inl ⟨by simp, by simp⟩
  | @cons v u vs us h t ih =>
    intro ks
    cases ks with
    | nil => exact .inl ⟨rfl, rfl⟩
    | cons b ks =>
      rw [List.zip_cons_cons, List.zip_cons_cons, List.lookup_cons, List.lookup_cons]
      cases q : k == b with
      | true => exact .inr ⟨v, u, rfl, rfl, h⟩
      | false => exact ih ks
theorem isl_look {F : Hp} (k : Bool) : ∀ {vs : List V} {ds : List D} {ks : List Bool}, IsL G F vs ds → (((ks.zip vs).lookup k = none ∧ (ks.zip ds).lookup k = none) ∨ ∃ v d, (ks.zip vs).lookup k = some v ∧ (ks.zip ds).lookup k = some d ∧ Is G F v d)
  | [], ds, ks, h => by
    cases h
    exact .inl ⟨by simp, by simp⟩
  | v :: vs, ds, ks, h => by
    cases h
    rename_i d ds h t
    cases ks with
    | nil => exact .inl ⟨rfl, rfl⟩
    | cons b ks =>
      rw [List.zip_cons_cons, List.zip_cons_cons, List.lookup_cons, List.lookup_cons]
      cases q : k == b with
      | true => exact .inr ⟨v, d, rfl, rfl, h⟩
      | false => exact isl_look k t
theorem pairs_b {P P' : Program} {w w' : World} : ∀ {es : List DictEntry} {kvs : List (Bool × Value)}, Pairs (PpSet.boolK P w) es kvs → Pairs (PpSet.boolK P' w') es kvs
  | _, _, .nil => .nil
  | _, _, .cons h1 h2 t => .cons h1 h2 (pairs_b t)
theorem dictOf_b {P P' : Program} {w w' : World} {h : Heap} {a : Addr} {kvs : List (Bool × Value)} (d : h.DictOf (PpSet.boolK P w) a kvs) : h.DictOf (PpSet.boolK P' w') a kvs := by
  obtain ⟨o, es, ep, h1, h2, h3, h4, h5, h6⟩ := d
  exact ⟨o, es, ep, h1, h2, h3, h4, pairs_b h5, h6⟩
def tBd (to ty tz : TE) (r : Addr → List Bool → List V → Bool → V → Hp → VK → Prop) : TE := fun σ H Q => to σ H fun x H1 => ∃ a, x = .ref a ∧ (∃ ks vs, H1 a = some (BdH a ks vs)) ∧ ty σ H1 fun y H2 => tz σ H2 fun z H3 => ∃ ks vs b, H3 a = some (BdH a ks vs) ∧ y = .bl b ∧ r a ks vs b z H3 Q
def rBs (a : Addr) (ks : List Bool) (vs : List V) (b : Bool) (z : V) (H : Hp) (Q : VK) : Prop := (∀ v, (ks.zip vs).lookup b = some v → Q v H) ∧ ((ks.zip vs).lookup b = none → Q z (upd H a (BdH a (ks ++ [b]) (vs ++ [z]))))
def rBg (_a : Addr) (ks : List Bool) (vs : List V) (b : Bool) (z : V) (H : Hp) (Q : VK) : Prop := Q (((ks.zip vs).lookup b).getD z) H
theorem bd_type {pins : List (Addr × Obj)} {σ : St} {H : Hp} {s : Shared} {a : Addr} {ks : List Bool} {vs : List V} (I : Inv X pins σ H s) (e : H a = some (BdH a ks vs)) :
    s.TypeIs (.ref a) "dict" ∧ (∀ b, Value.ref a = .ref b → ∃ ob, s.heap.get? b = some ob ∧ ob.dict = none) := by
  obtain ⟨hd, hl, us, r, dd⟩ := (I.hok a _ e).1
  have dd := dd X.prog X.w
  refine ⟨dd.typeIs, fun b q => ?_⟩
  cases q
  obtain ⟨ob, _, _, h1, h2, _⟩ := dd
  exact ⟨ob, h1, h2.2.1⟩
theorem pe_bsd {o e f : Expr} {td ty tx : TE} {apos cpos : Pos} (ho : PE X o td) (he : PE X e ty) (hf : PE X f tx) (m : M2 X o (Str.ofString "setdefault") apos e f cpos) : PE X (.Call (.Attribute o (Str.ofString "setdefault") apos) [e, f] [] cpos) (tBd td ty tx rBs) := by
  refine ⟨fun pins s σ H Q I h => ?_⟩
  refine wpAny_Call_method m.base m.few m.line PySem.F.plainAttrs_dict PySem.F.slot_dict_setdefault PySem.F.type_dict_setdefault (thn (ho.run pins s σ H _ I h) fun u s1 ⟨x, H1, I1, rx, a, ex, ⟨ks0, vs0, d⟩, q1⟩ => ?_)
  subst ex
  obtain rfl : u = Value.ref a := rx
  obtain ⟨t1, t2⟩ := bd_type I1 d
  refine ⟨t1, t2, ?_⟩
  rw [m.trees]
  refine Calls.callWith_builtin rfl (Calls.evalArgs_plain (Calls.spliced_cons (thn (he.run pins s1 σ H1 _ I1 q1) fun iv s2 ⟨y, H2, I2, ry, q2⟩ =>
    Calls.spliced_cons (thn (hf.run pins s2 σ H2 _ I2 q2) fun fv s3 ⟨z, H3, I3, rz, ks, vs, b, ea, ey, q3, q4⟩ => Calls.spliced_nil ?_))))
  subst ey
  obtain rfl : iv = Value.bool b := ry
  obtain ⟨hd, hl, us, r, dd⟩ := (I3.hok a _ ea).1
  have hz : (ks.zip us).length ≤ sizeLine := by
    obtain ⟨_, _, _, _, _, _, _, _, nd⟩ := dd X.prog X.w
    have n2 := two_b nd
    rw [List.length_map] at n2
    exact Nat.le_trans n2 (by decide)
  refine call_meetsIn PySem.F.slot_dict_setdefault (dd X.prog X.w).typeIs PySem.F.entry_dict_setdefault (PySem.F.args_dict_setdefault_3 _ _ _) (kt_meets_setdefault (PpSet.boolK X.prog X.w) a (PpSet.boolK_is _ _ b) hd fv) ⟨ks.zip us, dd X.prog X.w, hz, fun v hv => ?_, fun hn h' dd' hs => ?_⟩
  · rw [look_at] at hv
    rcases vals_look r b ks with ⟨_, k2⟩ | ⟨v0, u0, k1, k2, rv⟩
    · rw [k2] at hv; cases hv
    · rw [k2] at hv; cases hv
      exact ⟨v0, H3, I3.tok _, rv, q3 v0 k1⟩
  · rw [stored_absent hn] at dd'
    rw [look_at] at hn
    rcases vals_look r b ks with ⟨k1, _⟩ | ⟨v0, u0, _, k2, _⟩
    · have hlu : us.length = ks.length := by rw [← r.length]; exact hl
      have ez : ks.zip us ++ [(b, fv)] = (ks ++ [b]).zip (us ++ [fv]) := by rw [List.zip_append hlu.symm]; rfl
      rw [ez] at dd'
      have dk : ∀ (P : Program) (w : World), h'.DictOf (PpSet.boolK P w) a ((ks ++ [b]).zip (us ++ [fv])) := fun P w => dictOf_b dd'
      have he : ∃ q, h'.get? a = some q := let ⟨q, _, _, hq, _⟩ := dd'; ⟨q, hq⟩
      exact ⟨z, _, d_write (t' := s3.toks + 1) I3 (by rw [ea]; exact True.intro) hs he (bd_ok hd (by simp [hl]) (r.append (.cons rz .nil)) dk), rz, q4 k1⟩
    · rw [k2] at hn; cases hn
theorem pe_bge {o e f : Expr} {td ty tx : TE} {apos cpos : Pos} (ho : PE X o td) (he : PE X e ty) (hf : PE X f tx) (m : M2 X o (Str.ofString "get") apos e f cpos) : PE X (.Call (.Attribute o (Str.ofString "get") apos) [e, f] [] cpos) (tBd td ty tx rBg) := by
  refine ⟨fun pins s σ H Q I h => ?_⟩
  refine wpAny_Call_method m.base m.few m.line PySem.F.plainAttrs_dict PySem.F.slot_dict_get PySem.F.type_dict_get (thn (ho.run pins s σ H _ I h) fun u s1 ⟨x, H1, I1, rx, a, ex, ⟨ks0, vs0, d⟩, q1⟩ => ?_)
  subst ex
  obtain rfl : u = Value.ref a := rx
  obtain ⟨t1, t2⟩ := bd_type I1 d
  refine ⟨t1, t2, ?_⟩
  rw [m.trees]
  refine Calls.callWith_builtin rfl (Calls.evalArgs_plain (Calls.spliced_cons (thn (he.run pins s1 σ H1 _ I1 q1) fun iv s2 ⟨y, H2, I2, ry, q2⟩ =>
    Calls.spliced_cons (thn (hf.run pins s2 σ H2 _ I2 q2) fun fv s3 ⟨z, H3, I3, rz, ks, vs, b, ea, ey, q3⟩ => Calls.spliced_nil ?_))))
  subst ey
  obtain rfl : iv = Value.bool b := ry
  obtain ⟨hd, hl, us, r, dd⟩ := (I3.hok a _ ea).1
  refine call_meetsIn PySem.F.slot_dict_get (dd X.prog X.w).typeIs PySem.F.entry_dict_get (PySem.F.args_dict_get_3 _ _ _) (meets_dict_get_default (PpSet.boolK X.prog X.w) a (PpSet.boolK_is X.prog X.w b) hd fv) ⟨_, (dd X.prog X.w).mapOf, ?_⟩
  rw [look_at]
  unfold rBg at q3
  rcases vals_look r b ks with ⟨k1, k2⟩ | ⟨v0, u0, k1, k2, rv⟩
  · rw [k2]; rw [k1] at q3
    exact ⟨z, H3, I3.tok _, rz, q3⟩
  · rw [k2]; rw [k1] at q3
    exact ⟨v0, H3, I3.tok _, rv, q3⟩
/-- found.setdefault(k, v) -/
theorem bd_at {F : Hp} {r : Pl} {S : Store} {H : Hp} {n : Nat} {a : Addr} {t : List Addr} {kvs : List (Bool × D)} (R : Rp G F r S H) (h : r[n]? = some (a :: t)) (hl : S[n]? = some (.bdc kvs)) : t = [] ∧ ∃ vs, H a = some (BdH a (kvs.map (·.1)) vs) ∧ IsL G F vs (kvs.map (·.2)) := by
  obtain ⟨⟨a', vs, e, h1, h2⟩, _, _⟩ := R.cel n _ _ h hl (fun z => by cases z)
  cases e
  exact ⟨rfl, vs, h1, h2⟩
theorem zip_kv : ∀ (kvs : List (Bool × D)), (kvs.map (·.1)).zip (kvs.map (·.2)) = kvs
  | [] => rfl
  | (_, _) :: t => by simp [zip_kv t]
theorem bdc_at {F : Hp} {r : Pl} {S : Store} {H : Hp} {u : U} {x : V} (R : Rp G F r S H) (q : IsU G F r x u) (h : isBdc u S = true) : ∃ a ks vs, x = .ref a ∧ H a = some (BdH a ks vs) := by
  cases q with
  | d _ => cases h
  | @loc n a t hr =>
    unfold isBdc at h
    cases hs : S[n]? with
    | none => simp [hs] at h
    | some c => cases c with
      | bdc kvs =>
        obtain ⟨_, vs, h1, _⟩ := bd_at R hr hs
        exact ⟨a, _, vs, rfl, h1⟩
      | _ => simp [hs] at h
theorem de_sdef {a k v : E} {ea ek ev : Expr} {apos : Pos} (ha : PE X ea (rdE G Γ W a)) (hk : PE X ek (rdE G Γ W k)) (hv : PE X ev (rdE G Γ W v)) (m : M2 X ea (Str.ofString "setdefault") apos ek ev pos) :
    PE X (.Call (.Attribute ea (Str.ofString "setdefault") apos) [ek, ev] [] pos) (rdE G Γ W (.sdef a k v)) := by
  refine pe_imp (pe_bsd ha hk hv m) fun σ H Q ⟨F, r, S, e, R, L, p⟩ => ?_
  unfold evE at p
  refine ⟨F, r, S, e, R, L, Post.imp (Post.bnd (Rel := IsU G) p) fun x H1 ⟨F1, r1, S1, u, e1, R1, q1, p1⟩ => ?_⟩
  cases hi : isBdc u S1 with
  | false => rw [hi] at p1; exact p1.elim
  | true =>
    rw [hi] at p1
    simp only [if_true] at p1
    obtain ⟨a0, ks0, vs0, rfl, g1⟩ := bdc_at R1 q1 hi
    refine ⟨a0, rfl, ⟨_, _, g1⟩, F1, r1, S1, e, R1, L.mono e1, Post.imp (Post.bnD p1) fun y H2 ⟨F2, r2, S2, dk, e2, R2, q2, p2⟩ => ⟨F2, r2, S2, e, R2, (L.mono e1).mono e2, Post.imp (Post.bnD p2) fun z H3 ⟨F3, r3, S3, dv, e3, R3, q3, p3⟩ => ?_⟩⟩
    cases (q1.mono e2).mono e3 with
    | d _ => exact p3.elim
    | loc h =>
      cases q2 with
      | @bl bb =>
        simp only at p3
        split at p3
        · rename_i kvs hl
          obtain ⟨rfl, vs, g2, g3⟩ := bd_at R3 h hl
          refine ⟨_, vs, bb, g2, rfl, fun w hw => ?_, fun hw => ?_⟩
          · rcases isl_look bb (ks := kvs.map (·.1)) g3 with ⟨k1, _⟩ | ⟨v0, d0, k1, k2, rv⟩
            · rw [hw] at k1; cases k1
            · rw [hw] at k1; cases k1
              rw [zip_kv] at k2
              rw [k2] at p3
              exact Post.done p3 .refl R3 (.d rv)
          · rcases isl_look bb (ks := kvs.map (·.1)) g3 with ⟨_, k2⟩ | ⟨v0, d0, k1, _, _⟩
            · rw [zip_kv] at k2
              rw [k2] at p3
              have q := R3.write (H' := upd H3 a0 (BdH a0 (kvs.map (·.1) ++ [bb]) (vs ++ [z]))) (c' := .bdc (kvs ++ [(bb, dv)])) h hl (fun z => by cases z) (fun z => by cases z) (fun b m o q => by rw [upd_ne (by simpa using m)]; exact q) ⟨a0, vs ++ [z], rfl, by rw [List.map_append]; exact upd_same, by rw [List.map_append]; exact g3.app (.cons q3 .nil)⟩
              exact Post.done p3 .refl q (.d q3)
            · rw [hw] at k1; cases k1
        · exact p3.elim
      | _ => exact p3.elim
/-- found.get(k, v): v is None -/
theorem de_bget {a k : E} {ea ek ev : Expr} {apos : Pos} (ha : PE X ea (rdE G Γ W a)) (hk : PE X ek (rdE G Γ W k)) (hv : PE X ev (rdE G Γ W .non)) (m : M2 X ea (Str.ofString "get") apos ek ev pos) :
    PE X (.Call (.Attribute ea (Str.ofString "get") apos) [ek, ev] [] pos) (rdE G Γ W (.bget a k)) := by
  refine pe_imp (pe_bge ha hk hv m) fun σ H Q ⟨F, r, S, e, R, L, p⟩ => ?_
  unfold evE at p
  refine ⟨F, r, S, e, R, L, Post.imp (Post.bnd (Rel := IsU G) p) fun x H1 ⟨F1, r1, S1, u, e1, R1, q1, p1⟩ => ?_⟩
  cases hi : isBdc u S1 with
  | false => rw [hi] at p1; exact p1.elim
  | true =>
    rw [hi] at p1
    simp only [if_true] at p1
    obtain ⟨a0, ks0, vs0, rfl, g1⟩ := bdc_at R1 q1 hi
    refine ⟨a0, rfl, ⟨_, _, g1⟩, F1, r1, S1, e, R1, L.mono e1, Post.imp (Post.bnD p1) fun y H2 ⟨F2, r2, S2, dk, e2, R2, q2, p2⟩ => ⟨F2, r2, S2, e, R2, (L.mono e1).mono e2, ?_⟩⟩
    unfold evE
    intro F3 r3 z H3 e3 R3 q3
    cases q3 with
    | d q3 =>
    cases (q1.mono e2).mono e3 with
    | d _ => exact p2.elim
    | loc h =>
      cases q2 with
      | @bl bb =>
        simp only at p2
        split at p2
        · rename_i kvs hl
          obtain ⟨rfl, vs, g2, g3⟩ := bd_at R3 h hl
          refine ⟨_, vs, bb, g2, rfl, ?_⟩
          unfold rBg
          rcases isl_look bb (ks := kvs.map (·.1)) g3 with ⟨k1, k2⟩ | ⟨v0, d0, k1, k2, rv⟩
          · rw [zip_kv] at k2
            rw [k2] at p2
            rw [k1]
            exact Post.done p2 e3 R3 (.d q3)
          · rw [zip_kv] at k2
            rw [k2] at p2
            rw [k1]
            exact Post.done p2 e3 R3 (.d rv)
        · exact p2.elim
      | _ => exact p2.elim
end
end DL

/-! Instances with lists of their own. -/
namespace DL
open PySem PySem.Spec L2
set_option autoImplicit false
section
variable {G : Gx} {Γ : Ev} {tb : Tb} {c : Sc} {X : Cx} {W : WX} {j : Nat} {pos : Pos}

/-! ### where the own lists stand -/
/-- the place of a name -/
def idxN (x : Str) : List Str → Nat
  | [] => 0
  | y :: t => if y = x then 0 else idxN x t + 1
theorem idxN_ne {x y : Str} {t : List Str} (h : ¬ y = x) : idxN x (y :: t) = idxN x t + 1 := by
  rw [idxN, if_neg h]
theorem idxN_eq {x : Str} {t : List Str} : idxN x (x :: t) = 0 := by
  unfold idxN
  rw [if_pos rfl]
theorem IsF.owns {F H : Hp} {vs : List (Str × V)} {fs : List (Str × Fd)} {bs : List Addr} (h : IsF G F H vs fs bs) : bs.length = (ownN fs).length := by
  induction h with
  | nil => rfl
  | dat _ _ ih => exact ih
  | own _ _ _ ih => exact congrArg (· + 1) ih
theorem IsF.ownAt {F H : Hp} {vs : List (Str × V)} {fs : List (Str × Fd)} {bs : List Addr} (h : IsF G F H vs fs bs) {x : Str} {ds : List D} (e : fs.lookup x = some (.own ds)) : ∃ b xs, vs.lookup x = some (.ref b) ∧ bs[idxN x (ownN fs)]? = some b ∧ H b = some (.lst xs) ∧ IsL G F xs ds := by
  induction h with
  | nil => cases e
  | @dat y v vs d' fs bs h t ih =>
    rw [List.lookup_cons] at e ⊢
    by_cases q : (x == y) = true
    · rw [q] at e; cases e
    · have q' : (x == y) = false := by simpa using q
      rw [q'] at e ⊢; exact ih e
  | @own y b xs vs ds' fs bs h h2 t ih =>
    rw [List.lookup_cons] at e ⊢
    by_cases q : (x == y) = true
    · rw [q] at e ⊢; cases e
      have hxy : x = y := by simpa using q
      subst hxy
      exact ⟨b, xs, rfl, by show (b :: bs)[idxN x (x :: ownN fs)]? = _; rw [idxN_eq]; rfl, h, h2⟩
    · have q' : (x == y) = false := by simpa using q
      rw [q'] at e ⊢
      obtain ⟨b', xs', h1, h2, h3, h4⟩ := ih e
      have hne : ¬ y = x := fun z => by subst z; simp at q'
      exact ⟨b', xs', h1, by
        show (b :: bs)[idxN x (y :: ownN fs)]? = _
        rw [idxN_ne hne]
        exact h2, h3, h4⟩
/-- an own list is written -/
theorem isF_putO {F H : Hp} {x : Str} {b : Addr} {zs : List V} {l : List D} (iz : IsL G F zs l) {vs : List (Str × V)} {fs : List (Str × Fd)} {bs : List Addr} (h : IsF G F H vs fs bs) (nd : bs.Nodup) {l0 : List D} (hl : fs.lookup x = some (.own l0)) (hb : bs[idxN x (ownN fs)]? = some b) : IsF G F (upd H b (.lst zs)) vs (putD x (.own l) fs) bs := by
  induction h with
  | nil => cases hl
  | @dat y v vs d' fs bs h t ih =>
    rw [List.lookup_cons] at hl
    by_cases q : (x == y) = true
    · rw [q] at hl; cases hl
    · have q' : (x == y) = false := by simpa using q
      rw [q'] at hl
      have hne : ¬ y = x := fun z => by subst z; simp at q'
      unfold putD
      rw [if_neg hne]
      exact .dat h (ih nd hl hb)
  | @own y b' xs vs ds' fs bs h h2 t ih =>
    rw [List.lookup_cons] at hl
    obtain ⟨n1, n2⟩ := List.nodup_cons.mp nd
    by_cases q : (x == y) = true
    · have hxy : x = y := by simpa using q
      subst hxy
      have e : b' = b := by
        have hb : (b' :: bs)[idxN x (x :: ownN fs)]? = some b := hb
        rw [idxN_eq] at hb
        simpa using hb
      subst e
      unfold putD
      rw [if_pos rfl]
      exact .own upd_same iz (t.mono (Same.refl F) fun c o m z => by rw [upd_ne (by intro w; subst w; exact n1 m)]; exact z)
    · have q' : (x == y) = false := by simpa using q
      rw [q'] at hl
      have hne : ¬ y = x := fun z => by subst z; simp at q'
      have hb : (b' :: bs)[idxN x (y :: ownN fs)]? = some b := hb
      rw [idxN_ne hne] at hb
      have hb : bs[idxN x (ownN fs)]? = some b := hb
      unfold putD
      rw [if_neg hne]
      have hbm : b ∈ bs := List.mem_of_getElem? hb
      exact .own (by rw [upd_ne (by intro w; subst w; exact n1 hbm)]; exact h) h2 (ih n2 hl hb)
/-- a new own list -/
theorem isF_newO {F H : Hp} {x : Str} {b : Addr} {zs : List V} {l : List D} (iz : IsL G F zs l) (hb : H b = some (.lst zs)) {vs : List (Str × V)} {fs : List (Str × Fd)} {bs : List Addr} (h : IsF G F H vs fs bs) (hl : fs.lookup x = none) : IsF G F H (putF x (.ref b) vs) (putD x (.own l) fs) (bs ++ [b]) := by
  induction h with
  | nil => exact .own hb iz .nil
  | @dat y v vs d' fs bs h t ih =>
    rw [List.lookup_cons] at hl
    by_cases q : (x == y) = true
    · rw [q] at hl; cases hl
    · have q' : (x == y) = false := by simpa using q
      rw [q'] at hl
      have hne : ¬ y = x := fun z => by subst z; simp at q'
      unfold putD putF
      rw [if_neg hne, if_neg hne]
      exact .dat h (ih hl)
  | @own y b' xs vs ds' fs bs h h2 t ih =>
    rw [List.lookup_cons] at hl
    by_cases q : (x == y) = true
    · rw [q] at hl; cases hl
    · have q' : (x == y) = false := by simpa using q
      rw [q'] at hl
      have hne : ¬ y = x := fun z => by subst z; simp at q'
      unfold putD putF
      rw [if_neg hne, if_neg hne]
      exact .own h h2 (ih hl)
theorem own_at {nc : Nat} {F : Hp} {r : Pl} {S : Store} {H : Hp} {x : Str} {u : U} {y : V} (R : Rp G F r S H) (q : IsU G F r y u) (h : ownB nc x u S = true) :
    ∃ n k fs a t dx vs b xs l, u = .loc n ∧ y = .ref a ∧ S[n]? = some (.ins k fs) ∧ k < nc ∧ r[n]? = some (a :: t) ∧ H a = some (.ins (G.cd k) dx vs) ∧ fs.lookup x = some (.own l) ∧ vs.lookup x = some (.ref b) ∧ t[idxN x (ownN fs)]? = some b ∧ H b = some (.lst xs) ∧ IsL G F xs l ∧ IsF G F H vs fs t := by
  cases q with
  | d _ => cases h
  | @loc n a t hr =>
    unfold ownB at h
    simp only at h
    split at h
    · rename_i k fs hs
      rw [Bool.and_eq_true, decide_eq_true_eq] at h
      obtain ⟨hk, h⟩ := h
      split at h
      · rename_i l hl
        obtain ⟨dx, vs, g1, g2⟩ := ins_cell R hr hs
        obtain ⟨b, xs, o1, o2, o3, o4⟩ := g2.ownAt hl
        exact ⟨n, k, fs, a, t, dx, vs, b, xs, l, rfl, rfl, hs, hk, hr, g1, hl, o1, o2, o3, o4, g2⟩
      · cases h
    · cases h
theorem own_later {F F' : Hp} {r r' : Pl} {S S' : Store} {H H' : Hp} {x : Str} {n k : Nat} {fs : List (Str × Fd)} {a b : Addr} {t : List Addr} {vs : List (Str × V)} {l' : List D} (R' : Rp G F' r' S' H') (e : Ext F F' r r') (hs : S[n]? = some (.ins k fs)) (hr : r[n]? = some (a :: t)) (g2 : IsF G F H vs fs t) (hb : t[idxN x (ownN fs)]? = some b)
    (hO : sameO (.loc n) S S' = true) (hl : ownL x (.loc n) S' = some l') :
    ∃ k' fs' dx' vs' xs', S'[n]? = some (.ins k' fs') ∧ r'[n]? = some (a :: t) ∧ H' a = some (.ins (G.cd k') dx' vs') ∧ fs'.lookup x = some (.own l') ∧ t[idxN x (ownN fs')]? = some b ∧ H' b = some (.lst xs') ∧ IsL G F' xs' l' ∧ IsF G F' H' vs' fs' t := by
  unfold ownL at hl
  unfold sameO at hO
  simp only at hl hO
  rw [hs] at hO
  cases hs' : S'[n]? with
  | none => rw [hs'] at hl; cases hl
  | some cc =>
    cases cc with
    | ins k' fs' =>
      rw [hs'] at hl hO
      simp only [decide_eq_true_eq] at hl hO
      cases hq : fs'.lookup x with
      | none => rw [hq] at hl; cases hl
      | some f =>
        cases f with
        | dat _ => rw [hq] at hl; cases hl
        | own l2 =>
          rw [hq] at hl
          cases hl
          obtain ⟨t', hr'⟩ := e.pre n a t hr
          obtain ⟨dx', vs', g3, g4⟩ := ins_cell R' hr' hs'
          have len := g4.owns
          have len2 := g2.owns
          rw [← hO, ← len2, List.length_append] at len
          have : t' = [] := List.eq_nil_of_length_eq_zero (by omega)
          subst this
          rw [List.append_nil] at hr' g4
          obtain ⟨b', xs', o1, o2, o3, o4⟩ := g4.ownAt hq
          rw [← hO, hb] at o2
          cases o2
          exact ⟨k', fs', dx', vs', xs', rfl, hr', g3, hq, by rw [← hO]; exact hb, o3, o4, g4⟩
    | _ => rw [hs'] at hl; cases hl
theorem own_put {F : Hp} {r : Pl} {S : Store} {H : Hp} {x : Str} {n k : Nat} {fs : List (Str × Fd)} {a b dx : Addr} {t : List Addr} {vs : List (Str × V)} {zs : List V} {l l0 : List D} (R : Rp G F r S H) (hs : S[n]? = some (.ins k fs)) (hr : r[n]? = some (a :: t)) (ha : H a = some (.ins (G.cd k) dx vs)) (g2 : IsF G F H vs fs t) (hl : fs.lookup x = some (.own l0)) (hb : t[idxN x (ownN fs)]? = some b) (iz : IsL G F zs l) :
    Rp G F r (ownW x (.loc n) S l) (upd H b (.lst zs)) := by
  obtain ⟨_, nd, _⟩ := R.cel n _ _ hr hs (fun z => by cases z)
  obtain ⟨n1, n2⟩ := List.nodup_cons.mp nd
  have hbm : b ∈ t := List.mem_of_getElem? hb
  have e : ownW x (.loc n) S l = S.set n (.ins k (putD x (.own l) fs)) := by unfold ownW; simp only [hs]
  rw [e]
  exact R.write (H' := upd H b (.lst zs)) (c' := .ins k (putD x (.own l) fs)) hr hs (fun z => by cases z) (fun z => by cases z) (fun b' hb' o q => by rw [upd_ne (by intro z; subst z; exact hb' (List.mem_cons_of_mem _ hbm))]; exact q)
    ⟨a, t, dx, vs, rfl, by rw [upd_ne (by intro z; subst z; exact n1 hbm)]; exact ha, isF_putO iz g2 n2 hl hb⟩
theorem ownL_at {x : Str} {n k : Nat} {S : Store} {fs : List (Str × Fd)} {l : List D} (hs : S[n]? = some (.ins k fs)) (hl : fs.lookup x = some (.own l)) : ownL x (.loc n) S = some l := by
  unfold ownL
  simp only [hs, hl]
/-! ### the rules -/
theorem de_fapp (C : Ct G Γ tb c X W j) {x : Str} {a v : E} {ea ev : Expr} {p0 apos : Pos} (hx : x ∈ tb.flds) (ha : PE X ea (rdE G Γ W a)) (hv : PE X ev (rdE G Γ W v)) (hp : plainE ev = true) (hb0 : attributeBase ea x X.env (eval ea X.env) = eval ea X.env) (hb : attributeBase (.Attribute ea x p0) (Str.ofString "append") X.env (eval (.Attribute ea x p0) X.env) = eval (.Attribute ea x p0) X.env) (hline : (apos.endLine == pos.line) = true) :
    PE X (.Call (.Attribute (.Attribute ea x p0) (Str.ofString "append") apos) [ev] [] pos) (rdE G Γ W (.fapp a x v)) := by
  refine pe_imp (pe_bm PySem.F.plainAttrs_list PySem.F.slot_list_append PySem.F.type_list_append mt_append (pe_fld ha hb0) (pa_cons hv pa_nil (star_cons hp _ _)) hb (by rw [star_cons hp]; rfl) hline (star_cons hp _ _) rfl) fun σ H Q ⟨F, r, S, e, R, L, p⟩ => ?_
  unfold evE at p
  refine ⟨F, r, S, e, R, L, Post.imp (Post.bnd (Rel := IsU G) p) fun y H1 ⟨F1, r1, S1, u, e1, R1, q1, p1⟩ => ?_⟩
  cases hi : ownB Γ.nc x u S1 with
  | false => rw [hi] at p1; exact p1.elim
  | true =>
    rw [hi] at p1
    simp only [if_true] at p1
    obtain ⟨n, k, fs, a', t, dx, vs, b, xs, l, rfl, rfl, hs, hk, hr, g1, hl, o1, o2, o3, o4, g2⟩ := own_at R1 q1 hi
    obtain ⟨f1, f2⟩ := fld_facts C hx hk
    refine ⟨a', _, dx, vs, .ref b, rfl, g1, f1, f2, o1, .inl ⟨rfl, _, SqL.of o3⟩, F1, r1, S1, e, R1, L.mono e1, Post.imp (Post.bnD p1) fun z H2 ⟨F2, r2, S2, d, e2, R2, q2, p2⟩ => ?_⟩
    split at p2
    case isFalse => exact p2.elim
    rename_i hO
    split at p2
    case h_2 => exact p2.elim
    rename_i l' hl'
    split at p2
    case isFalse => exact p2.elim
    rename_i hz
    obtain ⟨k', fs', dx', vs', xs', h1, h2, h3, h4, h5, h6, h7, h8⟩ := own_later R2 e2 hs hr g2 o2 hO hl'
    refine ⟨b, xs', z, rfl, rfl, h6, by rw [h7.length, sizeLine_eq]; exact hz, ?_⟩
    exact Post.done p2 .refl (own_put R2 h1 h2 h3 h8 h4 h5 (h7.app (.cons q2 .nil))) (.d .non)
theorem de_fpop (C : Ct G Γ tb c X W j) {x : Str} {a : E} {ea : Expr} {p0 apos : Pos} (hx : x ∈ tb.flds) (ha : PE X ea (rdE G Γ W a)) (hb0 : attributeBase ea x X.env (eval ea X.env) = eval ea X.env) (hb : attributeBase (.Attribute ea x p0) (Str.ofString "pop") X.env (eval (.Attribute ea x p0) X.env) = eval (.Attribute ea x p0) X.env) (hline : (apos.endLine == pos.line) = true) :
    PE X (.Call (.Attribute (.Attribute ea x p0) (Str.ofString "pop") apos) [] [] pos) (rdE G Γ W (.fpop a x)) := by
  refine pe_imp (pe_bm0 PySem.F.plainAttrs_list PySem.F.slot_list_pop PySem.F.type_list_pop mt_pop (pe_fld ha hb0) hb hline) fun σ H Q ⟨F, r, S, e, R, L, p⟩ => ?_
  unfold evE at p
  refine ⟨F, r, S, e, R, L, Post.imp (Post.bnd (Rel := IsU G) p) fun y H1 ⟨F1, r1, S1, u, e1, R1, q1, p1⟩ => ?_⟩
  cases hi : ownB Γ.nc x u S1 with
  | false => rw [hi] at p1; exact p1.elim
  | true =>
    rw [hi] at p1
    simp only [if_true] at p1
    obtain ⟨n, k, fs, a', t, dx, vs, b, xs, l, rfl, rfl, hs, hk, hr, g1, hl, o1, o2, o3, o4, g2⟩ := own_at R1 q1 hi
    obtain ⟨f1, f2⟩ := fld_facts C hx hk
    rw [ownL_at hs hl] at p1
    simp only at p1
    split at p1
    case h_2 => exact p1.elim
    rename_i d hd
    obtain ⟨v, hv, iv⟩ := o4.get hd
    refine ⟨a', _, dx, vs, .ref b, rfl, g1, f1, f2, o1, .inl ⟨rfl, _, SqL.of o3⟩, b, xs, v, rfl, rfl, o3, by rw [o4.length]; exact hv, ?_⟩
    exact Post.done p1 .refl (own_put R1 hs hr g1 g2 hl o2 o4.dropLast) (.d iv)
theorem de_fix (C : Ct G Γ tb c X W j) {x : Str} {a i : E} {ea ei : Expr} {p0 : Pos} (hx : x ∈ tb.flds) (ha : PE X ea (rdE G Γ W a)) (hi : PE X ei (rdE G Γ W i)) (hp : plainE ei = true) (hb0 : attributeBase ea x X.env (eval ea X.env) = eval ea X.env) :
    PE X (.Subscript (.Attribute ea x p0) ei pos) (rdE G Γ W (.fix a x i)) := by
  refine pe_imp (pe_ix ix_list (pe_fld ha hb0) hi (plainix hp)) fun σ H Q ⟨F, r, S, e, R, L, p⟩ => ?_
  unfold evE at p
  refine ⟨F, r, S, e, R, L, Post.imp (Post.bnd (Rel := IsU G) p) fun y H1 ⟨F1, r1, S1, u, e1, R1, q1, p1⟩ => ?_⟩
  cases hi : ownB Γ.nc x u S1 with
  | false => rw [hi] at p1; exact p1.elim
  | true =>
    rw [hi] at p1
    simp only [if_true] at p1
    obtain ⟨n, k, fs, a', t, dx, vs, b, xs, l, rfl, rfl, hs, hk, hr, g1, hl, o1, o2, o3, o4, g2⟩ := own_at R1 q1 hi
    obtain ⟨f1, f2⟩ := fld_facts C hx hk
    refine ⟨a', _, dx, vs, .ref b, rfl, g1, f1, f2, o1, F1, r1, S1, e, R1, L.mono e1, Post.imp (Post.bnD p1) fun z H2 ⟨F2, r2, S2, d, e2, R2, q2, p2⟩ => ?_⟩
    split at p2
    case isFalse => exact p2.elim
    rename_i hO
    split at p2
    case h_2 => exact p2.elim
    rename_i l' jj hl'
    obtain ⟨k', fs', dx', vs', xs', h1, h2, h3, h4, h5, h6, h7, h8⟩ := own_later R2 e2 hs hr g2 o2 hO hl'
    cases q2
    obtain ⟨dd, hd1, hd2⟩ := Post.giv p2
    obtain ⟨v, w1, w2⟩ := at_is h7 hd1
    exact ⟨b, xs', _, v, rfl, rfl, SqL.of h6, w1, hd2 F2 v H2 (Same.refl _) R2 w2⟩
theorem de_flen (C : Ct G Γ tb c X W j) {x : Str} {a : E} {ea : Expr} {p0 px : Pos} (hx : x ∈ tb.flds) (hf : Str.ofString "len" ∈ tb.free) (hg : isGlB c (Str.ofString "len") = true) (ha : PE X ea (rdE G Γ W a)) (hb0 : attributeBase ea x X.env (eval ea X.env) = eval ea X.env) :
    PE X (.Call (.Name (Str.ofString "len") px) [.Attribute ea x p0] [] pos) (rdE G Γ W (.flen a x)) := by
  obtain ⟨g1, g2⟩ := gl_of C hg
  refine pe_imp (pe_biC (b := .len) call_len g1 (C.wd.fr _ hf) (boot_bi .len) (pa_cons (pe_fld ha hb0) pa_nil (star_cons rfl _ _)) (bi_ne .len) g2 (star_cons rfl _ _) rfl) fun σ H Q ⟨F, r, S, e, R, L, p⟩ => ?_
  unfold evE at p
  refine ⟨F, r, S, e, R, L, Post.imp (Post.bnd (Rel := IsU G) p) fun y H1 ⟨F1, r1, S1, u, e1, R1, q1, p1⟩ => ?_⟩
  cases hi : ownB Γ.nc x u S1 with
  | false => rw [hi] at p1; exact p1.elim
  | true =>
    rw [hi] at p1
    simp only [if_true] at p1
    obtain ⟨n, k, fs, a', t, dx, vs, b, xs, l, rfl, rfl, hs, hk, hr, z1, hl, o1, o2, o3, o4, z2⟩ := own_at R1 q1 hi
    obtain ⟨f1, f2⟩ := fld_facts C hx hk
    rw [ownL_at hs hl] at p1
    refine ⟨a', _, dx, vs, .ref b, rfl, z1, f1, f2, o1, _, _, rfl, .inl ⟨xs, SqL.of o3, rfl⟩, ?_⟩
    rw [o4.length]
    exact Post.done p1 .refl R1 (.d (.int _))
theorem de_ftup (C : Ct G Γ tb c X W j) {x : Str} {a : E} {ea : Expr} {p0 px : Pos} (hx : x ∈ tb.flds) (hf : Str.ofString "tuple" ∈ tb.free) (hg : isGlB c (Str.ofString "tuple") = true) (ha : PE X ea (rdE G Γ W a)) (hb0 : attributeBase ea x X.env (eval ea X.env) = eval ea X.env) :
    PE X (.Call (.Name (Str.ofString "tuple") px) [.Attribute ea x p0] [] pos) (rdE G Γ W (.ftup a x)) := by
  obtain ⟨g1, g2⟩ := gl_of C hg
  refine pe_imp (pe_biC (b := .tuple) call_tuple_of g1 (C.wd.fr _ hf) (boot_bi .tuple) (pa_cons (pe_fld ha hb0) pa_nil (star_cons rfl _ _)) (bi_ne .tuple) g2 (star_cons rfl _ _) rfl) fun σ H Q ⟨F, r, S, e, R, L, p⟩ => ?_
  unfold evE at p
  refine ⟨F, r, S, e, R, L, Post.imp (Post.bnd (Rel := IsU G) p) fun y H1 ⟨F1, r1, S1, u, e1, R1, q1, p1⟩ => ?_⟩
  cases hi : ownB Γ.nc x u S1 with
  | false => rw [hi] at p1; exact p1.elim
  | true =>
    rw [hi] at p1
    simp only [if_true] at p1
    obtain ⟨n, k, fs, a', t, dx, vs, b, xs, l, rfl, rfl, hs, hk, hr, z1, hl, o1, o2, o3, o4, z2⟩ := own_at R1 q1 hi
    obtain ⟨f1, f2⟩ := fld_facts C hx hk
    rw [ownL_at hs hl] at p1
    refine ⟨a', _, dx, vs, .ref b, rfl, z1, f1, f2, o1, b, xs, rfl, .inl ⟨SqL.of o3, fun q hq => ?_⟩⟩
    obtain ⟨R2, s2, i2⟩ := new_tup R1 hq o4
    exact Post.done p1 (.cells s2) R2 (.d i2)
/-- self.x == [] -/
theorem eq0_core (C : Ct G Γ tb c X W j) {x : Str} {a : E} {ea : Expr} {p0 pl : Pos} (hx : x ∈ tb.flds) (ha : PE X ea (rdE G Γ W a)) (hb0 : attributeBase ea x X.env (eval ea X.env) = eval ea X.env) :
    ∃ t : TE, PE X (.Compare (.Attribute ea x p0) [.Eq] [.List [] pl] pos) t ∧ PT X (.Compare (.Attribute ea x p0) [.Eq] [.List [] pl] pos) (tTest t) ∧ ∀ σ H Q, rdE G Γ W (.feq0 a x) σ H Q → t σ H Q := by
  refine ⟨_, pe_cmpR (X := X) (op_eqD (X := X) (by have := C.un; omega)) (pe_fld ha hb0) (pe_lst pa_nil) (nobeh rfl _), pt_cmpR (X := X) (op_eqD (X := X) (by have := C.un; omega)) (pe_fld ha hb0) (pe_lst pa_nil) (nobeh rfl _), fun σ H Q ⟨F, r, S, e, R, L, p⟩ => ?_⟩
  unfold evE at p
  refine ⟨F, r, S, e, R, L, Post.imp (Post.bnd (Rel := IsU G) p) fun y H1 ⟨F1, r1, S1, u, e1, R1, q1, p1⟩ => ?_⟩
  cases hi : ownB Γ.nc x u S1 with
  | false => rw [hi] at p1; exact p1.elim
  | true =>
    rw [hi] at p1
    simp only [if_true] at p1
    obtain ⟨n, k, fs, a', t, dx, vs, b, xs, l, rfl, rfl, hs, hk, hr, z1, hl, o1, o2, o3, o4, z2⟩ := own_at R1 q1 hi
    obtain ⟨f1, f2⟩ := fld_facts C hx hk
    rw [ownL_at hs hl] at p1
    simp only at p1
    split at p1
    case isFalse => exact p1.elim
    rename_i hok
    refine ⟨a', _, dx, vs, .ref b, rfl, z1, f1, f2, o1, by show 0 ≤ sizeLine; omega, fun q hq => ?_⟩
    have hbq : b ≠ q := fun z => by subst z; rw [o3] at hq; cases hq
    obtain ⟨R2, s2, i2⟩ := new_lst (l := []) (xs := []) R1 hq .nil
    have okl : okD 50 (.lst l) = true := by simp only [okD]; exact hok
    have ok0 : okD 50 (.lst []) = true := by simp [okD, okDs]
    refine ⟨toPy (.lst l), toPy (.lst []), ?_, ?_, shaped_of okl, shaped_of ok0, ?_⟩
    · rw [C.K]
      show Dp G.K _ (.ref b) (.list (toPys l))
      exact .lst (SqL.of (by rw [upd_ne hbq]; exact o3)) (dps_of (R1.sub.trans (same_upd hq)) 49 l xs hok o4)
    · rw [C.K]; exact dp_of R2.sub 50 (.lst []) _ ok0 i2
    · rw [eqv_of 50 50 _ _ okl ok0]
      have : eqD (.lst l) (.lst []) = l.isEmpty := by cases l <;> simp [eqD, eqDs]
      rw [this]
      exact Post.done p1 (.cells s2) R2 (.d (.bl _))
theorem feq0_t {a : E} {x : Str} (e : Env) (S : Store) : evT Γ (.feq0 a x) e S = bnD (evE Γ (.feq0 a x) e S) fun d S1 => match d with | .bl k => some (.ok k S1) | _ => none := by
  rw [evT, evE]
  cases evE Γ a e S with
  | none => rfl
  | some m =>
    cases m with
    | ex _ _ => rfl
    | ok u S1 =>
      simp only [bnd_ok]
      cases ownB Γ.nc x u S1 with
      | false => rfl
      | true =>
        simp only [if_true]
        cases ownL x u S1 with
        | none => rfl
        | some l =>
          simp only
          by_cases hq : okDs 49 l = true
          · rw [if_pos hq, if_pos hq]; rfl
          · rw [if_neg hq, if_neg hq]; rfl
theorem de_feq0 (C : Ct G Γ tb c X W j) {x : Str} {a : E} {ea : Expr} {p0 pl : Pos} (hx : x ∈ tb.flds) (ha : PE X ea (rdE G Γ W a)) (hb0 : attributeBase ea x X.env (eval ea X.env) = eval ea X.env) :
    PE X (.Compare (.Attribute ea x p0) [.Eq] [.List [] pl] pos) (rdE G Γ W (.feq0 a x)) := let ⟨_, h1, _, h3⟩ := eq0_core (p0 := p0) (pl := pl) (pos := pos) C hx ha hb0; pe_imp h1 h3
theorem dt_feq0 (C : Ct G Γ tb c X W j) {x : Str} {a : E} {ea : Expr} {p0 pl : Pos} (hx : x ∈ tb.flds) (ha : PE X ea (rdE G Γ W a)) (hb0 : attributeBase ea x X.env (eval ea X.env) = eval ea X.env) :
    PT X (.Compare (.Attribute ea x p0) [.Eq] [.List [] pl] pos) (rdT G Γ W (.feq0 a x)) := by
  obtain ⟨t, h1, h2, h3⟩ := eq0_core (p0 := p0) (pl := pl) (pos := pos) C hx ha hb0
  refine pt_imp h2 fun σ H Q ⟨F, r, S, e, R, L, p⟩ => h3 σ H _ ⟨F, r, S, e, R, L, ?_⟩
  rw [feq0_t] at p
  refine Post.imp (Post.bnD p) fun y H1 ⟨F1, r1, S1, d, e1, R1, q1, p1⟩ => ?_
  cases d <;> first | exact p1.elim | skip
  cases q1
  exact ⟨_, rfl, Post.done p1 .refl R1 rfl⟩
/-! ### own lists made -/
/-- an instance takes over a list's cell -/
theorem own_new {F : Hp} {r : Pl} {S : Store} {H : Hp} {x : Str} {n m k : Nat} {fs : List (Str × Fd)} {a b dx : Addr} {t t0 : List Addr} {vs : List (Str × V)} {l : List D} (R : Rp G F r S H) (hs : S[n]? = some (.ins k fs)) (hr : r[n]? = some (a :: t)) (hs2 : S[m]? = some (.lst l)) (hr2 : r[m]? = some (b :: t0)) (ha : H a = some (.ins (G.cd k) dx vs)) (g2 : IsF G F H vs fs t) (hl : fs.lookup x = none) :
    ∃ r', Rp G F r' ((S.set m .dead).set n (.ins k (putD x (.own l) fs))) (upd H a (.ins (G.cd k) dx (putF x (.ref b) vs))) ∧ Ext F F r r' := by
  have hnm : m ≠ n := fun z => by subst z; rw [hs] at hs2; cases hs2
  obtain ⟨_, nd, _⟩ := R.cel n _ _ hr hs (fun z => by cases z)
  obtain ⟨c2, nd2, fb⟩ := R.cel m _ _ hr2 hs2 (fun z => by cases z)
  obtain ⟨xs, h1, h2⟩ := R.list hr2 hs2
  obtain ⟨n1, n2⟩ := List.nodup_cons.mp nd
  have nb : b ∉ a :: t := fun z => hnm (R.sep m n _ _ _ _ b hr2 hr hs2 hs (fun z => by cases z) (fun z => by cases z) List.mem_cons_self z)
  have R1 := R.drop m
  have hs' : (S.set m .dead)[n]? = some (.ins k fs) := by rw [List.getElem?_set_ne hnm]; exact hs
  have hab : a ≠ b := fun z => by subst z; exact nb List.mem_cons_self
  have q := R1.write2 (H' := upd H a (.ins (G.cd k) dx (putF x (.ref b) vs))) (z := [b]) (c' := .ins k (putD x (.own l) fs)) hr hs' (fun z => by cases z) (fun z => by cases z) ?_ ?_ ?_ ?_
  · exact ⟨_, q.1, q.2⟩
  · rw [List.nodup_cons]
    refine ⟨fun z => ?_, ?_⟩
    · rcases List.mem_append.mp z with z | z
      · exact n1 z
      · exact hab (by simpa using z)
    · rw [List.nodup_append]
      refine ⟨n2, by simp, fun u hu w hw e => ?_⟩
      have : w = b := by simpa using hw
      subst this
      subst e
      exact nb (List.mem_cons_of_mem _ hu)
  · intro b' hb'
    have : b' = b := by simpa using hb'
    subst this
    refine ⟨fb _ List.mem_cons_self, fun i l' d hi hd hdd hm => ?_⟩
    rcases set_at hd with ⟨_, e⟩ | ⟨hne, hd⟩
    · exact hdd e
    · exact hne (R.sep i m _ _ _ _ _ hi hr2 hd hs2 hdd (fun z => by cases z) hm List.mem_cons_self)
  · intro b' hb' o ho
    rw [upd_ne (by intro z; subst z; exact hb' List.mem_cons_self)]
    exact ho
  · refine ⟨a, t ++ [b], dx, _, rfl, upd_same, isF_newO h2 (by rw [upd_ne (Ne.symm hab)]; exact h1) (g2.mono (Same.refl F) fun c o hc z => by rw [upd_ne (by intro w; subst w; exact n1 hc)]; exact z) hl⟩
theorem ds_seto (C : Ct G Γ tb c X W j) {o es : E} {eo : Expr} {l0 : List Expr} {x : Str} {p1 p2 : Pos} (hx : x ∈ tb.flds) (ho : PE X eo (rdE G Γ W o)) (ha : PA X l0 (rdL G Γ W es)) (hs : swapsWith (.List l0 p2) (some (.Attribute eo x p1)) pos.line X.env = pure false) :
    PS X (.Assign [.Attribute eo x p1] (.List l0 p2) pos) (rdS G Γ W (.seto o x es)) := ps_imp (ps_fld ho (pe_lst ha) hs) fun D σ H ⟨F, r, S, e, R, L, p⟩ => by
  unfold evS at p
  refine ⟨F, r, S, e, R, L, Post.imp (PostS.inS (Rel := fun F r => Paired (IsU G F r)) p L) fun vs H1 ⟨F1, r1, S1, us, e1, R1, q1, p1⟩ => ?_⟩
  split at p1
  case h_2 => exact p1.elim
  rename_i l hl
  have i1 := lst1_is q1 hl
  split at p1
  case isFalse => exact p1.elim
  rename_i hz
  refine ⟨by rw [i1.length, sizeLine_eq]; exact hz, fun b hb => ?_⟩
  obtain ⟨R2, e2, i2⟩ := new_cell R1 hb i1
  have hlen : r1.length = S1.length := R1.len
  cases i2 with
  | loc hb2 =>
  refine ⟨F1, _, _, e, R2, (L.mono e1).mono e2, Post.imp (PostS.inS (Rel := IsU G) (p1.mono e2) ((L.mono e1).mono e2)) fun y H2 ⟨F3, r3, S3, uy, e3, R3, q3, p3⟩ => ?_⟩
  cases uy with
  | d _ => exact p3.elim
  | loc n =>
  simp only at p3
  split at p3
  case h_2 => exact p3.elim
  rename_i k fs l2 hc hc2
  split at p3
  case isFalse => exact p3.elim
  rename_i hk
  split at p3
  case h_2 => exact p3.elim
  rename_i hnone
  cases q3 with
  | @loc _ a t h =>
    obtain ⟨dx, ws, g1, g2⟩ := ins_cell R3 h hc
    obtain ⟨f1, f2⟩ := fld_facts C hx hk.1
    obtain ⟨t0, hr2⟩ := e3.pre _ _ _ hb2
    obtain ⟨r', R4, e4⟩ := own_new (x := x) R3 hc h hc2 hr2 g1 g2 hnone
    exact ⟨a, _, dx, ws, rfl, g1, f1, f2, by rw [g2.length]; omega, PostS.nx p3 e4 R4 ((((L.mono e1).mono e2).mono e3).mono e4)⟩
/-- self.x += e -/
theorem ds_augf (C : Ct G Γ tb c X W j) {o a : E} {eo ea : Expr} {b : Bop} {x : Str} {p1 : Pos} (hx : x ∈ tb.flds) (ho : PE X eo (rdE G Γ W o)) (ha : PE X ea (rdE G Γ W a)) (hb : b = .add) :
    PS X (.AugAssign (.Attribute eo x p1) (opB b) ea pos) (rdS G Γ W (.augf o x b a)) := by
  subst hb
  refine ps_imp (ps_fldaug (op := .Add) ho ha in_add) fun D σ H ⟨F, r, S, e, R, L, p⟩ => ?_
  unfold evS at p
  refine ⟨F, r, S, e, R, L, Post.imp (PostS.inS (Rel := IsU G) p L) fun y H1 ⟨F1, r1, S1, u, e1, R1, q1, p1⟩ => ?_⟩
  cases q1 with
  | d _ => exact p1.elim
  | @loc n a0 t hr =>
  simp only at p1
  split at p1
  case h_2 => exact p1.elim
  rename_i k fs hs
  split at p1
  case isFalse => exact p1.elim
  rename_i hk
  split at p1
  case h_2 => exact p1.elim
  rename_i i hi
  obtain ⟨dx, vs, g1, g2⟩ := ins_cell R1 hr hs
  obtain ⟨f1, f2⟩ := fld_facts C hx hk
  obtain ⟨v, w1, w2⟩ := g2.look hi
  refine ⟨a0, _, dx, vs, v, rfl, g1, f1, f2, w1, F1, r1, S1, e, R1, L.mono e1, Post.imp (PostS.inS (Rel := IsU G) p1 (L.mono e1)) fun z H2 ⟨F2, r2, S2, u2, e2, R2, q2, p2⟩ => ?_⟩
  split at p2
  case h_2 => exact p2.elim
  rename_i zz c2 fs2 _ hs2
  split at p2
  case isFalse => exact p2.elim
  rename_i hh
  split at p2
  case h_2 => exact p2.elim
  rename_i dd hdd
  obtain ⟨rfl, hlen⟩ := hh
  obtain ⟨t', hr2⟩ := e2.pre _ _ _ hr
  obtain ⟨dx2, vs2, g3, g4⟩ := ins_cell R2 hr2 hs2
  cases w2
  cases q2 with
  | d q2 =>
  cases q2
  refine ⟨i, zz, rfl, rfl, dx2, vs2, g3, by rw [g4.length]; omega, ?_⟩
  exact PostS.nx p2 .refl (put_ins R2 hr2 hs2 g3 g4 (.int _) (fun l z => by rw [hdd] at z; cases z)) ((L.mono e1).mono e2)
end
end DL

/-! Texts: join, split. -/
namespace DL
open PySem PySem.Spec L2
set_option autoImplicit false
section
variable {G : Gx} {Γ : Ev} {tb : Tb} {c : Sc} {X : Cx} {W : WX} {j : Nat} {pos : Pos}
theorem joinS_eq (y : Str) : ∀ xs : List Str, joinS y xs = Txt.join y xs := fun xs => by
  rw [TL.join_eq]
  refine TL.ext_tl ?_
  rw [TL.tl_join]
  induction xs with
  | nil => rfl
  | cons x r ih =>
    cases r with
    | nil => rfl
    | cons z r =>
      show TL.tl (x ++ (y ++ joinS y (z :: r))) = TL.tl x ++ (TL.tl y ++ TL.joinL (TL.tl y) ((z :: r).map TL.tl))
      rw [TL.tl_append, TL.tl_append, ih]
theorem cutAt_eq (c : Nat) : ∀ (l acc : List Nat), cutAt c acc l = TL.spl [c] 0 acc l
  | [], acc => rfl
  | x :: r, acc => by
    unfold cutAt
    by_cases h : x = c
    · subst h
      rw [if_pos rfl, TL.spl_hit (by simp [TL.pre]), cutAt_eq x r []]
      rfl
    · rw [if_neg h, TL.spl_miss (by simp [TL.pre, h]), cutAt_eq c r]
theorem split_eq (x : Str) (y : Str) {c : Nat} (hy : y.cps.toList = [c]) (hc : c < 128) : Txt.split x y = (cutAt c [] x.cps.toList).map fun l => (⟨l.toArray⟩ : Str) := by
  refine TL.map_tl_inj ?_
  have hk : y.cps.all (· < 256) = true := by
    rw [← Array.all_toList, hy]
    simp
    omega
  have hy2 : TL.tl y = [c] := hy
  rw [TL.split_spl x y (by rw [hy2]; simp) (TL.kind_ok hk), hy2, cutAt_eq, List.map_map]
  show TL.spl [c] 0 [] (TL.tl x) = (TL.spl [c] 0 [] (TL.tl x)).map (TL.tl ∘ fun l => (⟨l.toArray⟩ : Str))
  rw [show (TL.tl ∘ fun l => (⟨l.toArray⟩ : Str)) = id from rfl, List.map_id]
theorem cut_len (c : Nat) : ∀ (l acc : List Nat), (cutAt c acc l).length ≤ l.length + 1
  | [], acc => by simp [cutAt]
  | x :: r, acc => by
    unfold cutAt
    by_cases h : x = c
    · rw [if_pos h, List.length_cons, List.length_cons]
      have := cut_len c r []
      omega
    · rw [if_neg h, List.length_cons]
      have := cut_len c r (acc ++ [x])
      omega
theorem de_join (C : Ct G Γ tb c X W j) {y a : E} {ey ea : Expr} {apos : Pos} (hy : PE X ey (rdE G Γ W y)) (ha : PE X ea (rdE G Γ W a)) (hp : plainE ea = true) (hb : attributeBase ey (Str.ofString "join") X.env (eval ey X.env) = eval ey X.env) (hline : (apos.endLine == pos.line) = true) :
    PE X (.Call (.Attribute ey (Str.ofString "join") apos) [ea] [] pos) (rdE G Γ W (.join y a)) := by
  refine pe_imp (pe_join hy ha (star_cons hp _ _) hb hline) fun σ H Q ⟨F, r, S, e, R, L, p⟩ => ?_
  unfold evE at p
  refine ⟨F, r, S, e, R, L, Post.imp (Post.bnD p) fun x H1 ⟨F1, r1, S1, d1, e1, R1, q1, p1⟩ => ?_⟩
  cases d1 <;> first | exact p1.elim | skip
  rename_i z
  simp only [isiD, if_true] at p1
  cases q1
  refine ⟨⟨z, rfl⟩, F1, r1, S1, e, R1, L.mono e1, Post.imp (Post.bnD p1) fun v H2 ⟨F2, r2, S2, d2, e2, R2, q2, p2⟩ => ?_⟩
  obtain ⟨d, h1, h2⟩ := Post.giv p2
  cases d2 <;> first | (simp [joinD] at h1; done) | skip
  rename_i l
  simp only [joinD, Option.bind_eq_some_iff] at h1
  obtain ⟨ys, i1, i2⟩ := h1
  split at i2
  case isFalse => cases i2
  rename_i hz
  cases i2
  obtain ⟨b, xs, rfl, hb2, t2⟩ := rp_lists R2 q2
  have := strsOf_is t2 i1
  subst this
  refine ⟨z, b, ys, rfl, rfl, .inl (SqL.of hb2), by have : (ys.map (·.length)).sum = (ys.map Str.length).sum := rfl; omega, ?_⟩
  rw [← joinS_eq]
  exact h2 F2 _ H2 (Same.refl _) R2 (.str _)
theorem de_split (C : Ct G Γ tb c X W j) {y a : E} {ey ea : Expr} {apos : Pos} (hy : PE X ey (rdE G Γ W y)) (ha : PE X ea (rdE G Γ W a)) (hp : plainE ea = true) (hb : attributeBase ey (Str.ofString "split") X.env (eval ey X.env) = eval ey X.env) (hline : (apos.endLine == pos.line) = true) :
    PE X (.Call (.Attribute ey (Str.ofString "split") apos) [ea] [] pos) (rdE G Γ W (.split y a)) := by
  refine pe_imp (pe_split hy ha (star_cons hp _ _) hb hline) fun σ H Q ⟨F, r, S, e, R, L, p⟩ => ?_
  unfold evE at p
  refine ⟨F, r, S, e, R, L, Post.imp (Post.bnD p) fun x H1 ⟨F1, r1, S1, d1, e1, R1, q1, p1⟩ => ?_⟩
  cases d1 <;> first | exact p1.elim | skip
  rename_i z
  simp only [isiD, if_true] at p1
  cases q1
  refine ⟨⟨z, rfl⟩, F1, r1, S1, e, R1, L.mono e1, Post.imp (Post.bnD p1) fun v H2 ⟨F2, r2, S2, d2, e2, R2, q2, p2⟩ => ?_⟩
  obtain ⟨d, h1, h2⟩ := Post.giv p2
  cases d2 <;> first | (simp [splitD] at h1; done) | skip
  rename_i w
  simp only [splitD] at h1
  split at h1
  case h_2 => cases h1
  rename_i ch hch
  split at h1
  case isFalse => cases h1
  rename_i hz
  cases h1
  cases q2
  have hwl : w.length = 1 := by
    have : w.cps.toList.length = 1 := by rw [hch]; rfl
    simpa [Str.length] using this
  refine ⟨z, w, rfl, rfl, by rw [hwl]; rfl, by rw [sizeLine_eq]; omega, fun q hq => ?_⟩
  rw [split_eq z w hch hz.1]
  obtain ⟨R3, s3, i3⟩ := new_lst (l := (cutAt ch [] z.cps.toList).map fun l => D.str ⟨l.toArray⟩) (xs := ((cutAt ch [] z.cps.toList).map fun l => (⟨l.toArray⟩ : Str)).map V.str) R2 hq (by
    have := IsL.of_strs (G := G) (F := F2) ((cutAt ch [] z.cps.toList).map fun l => (⟨l.toArray⟩ : Str))
    rw [List.map_map (g := D.str)] at this
    exact this)
  exact h2 _ _ _ s3 R3 i3
end
end DL

/-! sets of tuples of texts and whole numbers: what is asked of one tuple -/
namespace DS
open PySem PySem.Spec PyProof.Rows L2
/-- the tuple at a holds the keys k -/
abbrev Kt (P : Program) (w : World) (h : Heap) (k : List Key) (a : Addr) : Prop := IsTupleKey (mixKind P w) h k a
abbrev kh (P : Program) (w : World) (k : List Key) : Int := tupleKeyHash (mixKind P w) k
/-- a value that is an int or a text -/
def Bare (v : Value) : Prop := (∃ i t, v = .int i t) ∨ ∃ x t, v = .str x t
theorem bare_items {P : Program} {w : World} {k : List Key} {vs : List Value} (h : ItemsAre (mixKind P w) k vs) : ∀ v ∈ vs, Bare v := by
  induction h with
  | nil => exact fun v hv => (List.not_mem_nil hv).elim
  | @cons k0 v0 ks vs h1 _ ih =>
    intro v hv
    rcases List.mem_cons.mp hv with rfl | hv
    · rcases keyIs_shape (k := k0) h1 with ⟨i, t, _, e⟩ | ⟨x, t, _, e⟩
      · exact .inl ⟨i, t, e⟩
      · exact .inr ⟨x, t, e⟩
    · exact ih v hv
theorem bare_cls {v : Value} (h : Bare v) (n : Nat) : ofAClassStatement n v = pure false := by
  rcases h with ⟨i, t, rfl⟩ | ⟨x, t, rfl⟩ <;> cases n <;> rfl
theorem bare_val {v : Value} (h : Bare v) (n : Nat) : ∃ b, hashByValue n v = pure b := by
  rcases h with ⟨i, t, rfl⟩ | ⟨x, t, rfl⟩
  · exact ⟨true, by cases n <;> rfl⟩
  · exact ⟨false, by cases n <;> rfl⟩
section
variable {P : Program} {w : World} {A : Around} {E : Value → Shared → Prop} {s : Shared}
theorem cls_kt {k : List Key} {b : Addr} {Q : Bool → Shared → Prop} (hk : Kt P w s.heap k b) (h : Q false s) : wpAny (model P w) A (ofAClassStatement 8 (.ref b)) Q E s := by
  have ty := hk.typeIs
  obtain ⟨o, items, n, ho, _, hd, hi⟩ := hk
  have hb := bare_items hi
  unfold ofAClassStatement
  refine wpAny_bind (wpAny_typeOf ty ?_)
  dsimp only
  simp only [show (("tuple" : String) == "tuple") = true from by decide, if_true, Bool.not_true, Bool.false_eq_true, if_false]
  try refine wpAny_bind (wpAny_pure ?_)
  try simp only [Bool.not_true, Bool.false_eq_true, if_false]
  show wpAny _ _ (seqItems? (.ref b) >>= _) _ _ s
  refine wpAny_bind (wpAny_seqItems ho hd ?_)
  dsimp only
  refine wpAny_bind ?_
  show wpAny _ _ (forIn items _ _) _ _ s
  rw [← Array.forIn_toList]
  refine wpAny_forIn_list _ (fun rest r z => (r.1 = none ∧ z = s) ∧ ∀ v ∈ rest, Bare v) _ ?_ ?_ _ _ ⟨⟨rfl, rfl⟩, hb⟩
  · rintro v rest r z ⟨⟨hr, rfl⟩, ha⟩
    rw [bare_cls (ha v List.mem_cons_self)]
    refine wpAny_bind (wpAny_pure ?_)
    simp only [Bool.false_eq_true, if_false]
    exact wpAny_pure ⟨⟨rfl, rfl⟩, fun u hu => ha u (List.mem_cons_of_mem _ hu)⟩
  · rintro ⟨r1, r2⟩ z ⟨⟨hr, rfl⟩, _⟩
    simp only at hr
    subst hr
    exact wpAny_pure h
/-- whether the hash is by value alone: whatever the answer is -/
theorem val_kt {k : List Key} {b : Addr} {Q : Bool → Shared → Prop} (hk : Kt P w s.heap k b) (h : ∀ c, Q c s) : wpAny (model P w) A (hashByValue 8 (.ref b)) Q E s := by
  have ty := hk.typeIs
  obtain ⟨o, items, n, ho, _, hd, hi⟩ := hk
  have hb := bare_items hi
  unfold hashByValue
  refine wpAny_bind (wpAny_specialOf ty F.slot_tuple_hash.lookup ?_)
  show wpAny _ _ (seqItems? (.ref b) >>= _) _ _ s
  refine wpAny_bind (wpAny_seqItems ho hd ?_)
  refine wpAny_bind ?_
  show wpAny _ _ (forIn items _ _) _ _ s
  rw [← Array.forIn_toList]
  refine wpAny_forIn_list _ (fun rest r z => z = s ∧ ∀ v ∈ rest, Bare v) _ ?_ ?_ _ _ ⟨rfl, hb⟩
  · rintro v rest r z ⟨rfl, ha⟩
    obtain ⟨c, e⟩ := bare_val (ha v List.mem_cons_self) 7
    rw [e]
    refine wpAny_bind (wpAny_pure ?_)
    cases c with
    | true =>
      simp only [Bool.not_true, Bool.false_eq_true, if_false]
      exact wpAny_pure ⟨rfl, fun u hu => ha u (List.mem_cons_of_mem _ hu)⟩
    | false =>
      simp only [Bool.not_false, if_true]
      exact wpAny_pure (wpAny_pure (h _))
  · rintro ⟨r1, r2⟩ z ⟨rfl, _⟩
    cases r1 with
    | none => exact wpAny_pure (h _)
    | some c => exact wpAny_pure (h _)
theorem dull_kt {k : List Key} {b : Addr} {Q : Bool → Shared → Prop} (hk : Kt P w s.heap k b) {ys : List Value} (hy : ∀ y ∈ ys, ∃ k' c, y = Value.ref c ∧ Kt P w s.heap k' c) (h : Q false s) :
    wpAny (model P w) A (searchCouldBeSeen (.ref b) ys) Q E s := by
  unfold searchCouldBeSeen
  refine wpAny_bind ?_
  refine wpAny_forIn_list _ (fun rest r z => (r.1 = none ∧ z = s) ∧ ∀ y ∈ rest, ∃ k' c, y = Value.ref c ∧ Kt P w s.heap k' c) _ ?_ ?_ _ _ ⟨⟨rfl, rfl⟩, hy⟩
  · rintro v rest r z ⟨⟨hr, rfl⟩, ha⟩
    have tl : ∀ y ∈ rest, ∃ k' c, y = Value.ref c ∧ Kt P w z.heap k' c := fun u hu => ha u (List.mem_cons_of_mem _ hu)
    obtain ⟨k', c, rfl, hc⟩ := ha v List.mem_cons_self
    dsimp only
    by_cases hv : (b == c || (carriedByValue (.ref b) && carriedByValue (.ref c))) = true
    · exact wp_if_pos hv (wpAny_pure ⟨⟨rfl, rfl⟩, tl⟩)
    · refine wp_if_neg hv (wpAny_bind (wpAny_eqIsQuiet_tuple hk ?_))
      simp only [Bool.not_true, Bool.false_eq_true, if_false]
      refine wpAny_bind (wpAny_eqIsQuiet_tuple hc ?_)
      simp only [Bool.not_true, Bool.false_eq_true, if_false]
      refine wpAny_bind (cls_kt hk ?_)
      simp only [Bool.false_eq_true, if_false]
      refine wpAny_bind (cls_kt hc ?_)
      simp only [Bool.false_eq_true, if_false]
      exact wpAny_pure ⟨⟨rfl, rfl⟩, tl⟩
  · rintro ⟨r1, r2⟩ z ⟨⟨hr, rfl⟩, _⟩
    simp only at hr
    subst hr
    exact wpAny_pure h
end
end DS

/-! sets of tuples of texts and whole numbers: the search -/
namespace DS
open PySem PySem.Spec PyProof.Rows L2
def ent (P : Program) (w : World) (p : Addr × List Key) : Int × Value := (kh P w p.2, .ref p.1)
/-- at a stands a set of the tuples L -/
structure Ks (P : Program) (w : World) (h : Heap) (a : Addr) (L : List (Addr × List Key)) (es : Array (Int × Value)) (ep : Nat) (t : SetTable) : Prop where
  obj : ∃ o, h.get? a = some o ∧ o.ExactSet ∧ o.data = .set es ep t
  ents : es.toList = L.map (ent P w)
  tab : TabOk t (L.map fun p => kh P w p.2)
  one : (L.map (·.2)).Nodup
  each : ∀ p ∈ L, Kt P w h p.2 p.1
  led : w.params.followText "set-order" = true ∨ t.led = true
  room : L.length * 5 < t.mask * 3
  few : L.length < 64
section
variable {P : Program} {w : World} {A : Around} {E : Value → Shared → Prop} {s : Shared} {a : Addr} {L : List (Addr × List Key)} {es : Array (Int × Value)} {ep : Nat} {t : SetTable}
theorem ents_num {es : Array (Int × Value)} {L : List (Addr × List Key)} (h : es.toList = L.map (ent P w)) : es.size = L.length := by
  have := congrArg List.length h
  rwa [Array.length_toList, List.length_map] at this
theorem ents_at {es : Array (Int × Value)} {L : List (Addr × List Key)} (h : es.toList = L.map (ent P w)) {i : Nat} {p : Addr × List Key} (hp : L[i]? = some p) : es[i]? = some (kh P w p.2, .ref p.1) := by
  rw [← Array.getElem?_toList, h, List.getElem?_map, hp]
  rfl
theorem fits_of {n : Nat} (hs : t.place.size = n) (hd : t.dummies = #[]) (hm : n ≤ t.mask) : t.fits n = true := by
  unfold SetTable.fits SetTable.fill
  rw [hd, Bool.and_eq_true, beq_iff_eq, decide_eq_true_eq]
  show t.place.size = n ∧ t.place.size + 0 ≤ t.mask
  omega
theorem Ks.fit (R : Ks P w s.heap a L es ep t) : t.fits es.size = true := by
  have h1 := R.tab.sz
  have h3 := R.room
  rw [List.length_map] at h1
  rw [ents_num R.ents]
  exact fits_of h1 R.tab.dm (by omega)
theorem Ks.stays (R : Ks P w s.heap a L es ep t) : ¬ t.gaveWay = true := by
  have := mask_odd R.tab.mok
  unfold SetTable.gaveWay
  rw [this]
  decide
/-- the c-th step of the way of h -/
def stp (t : SetTable) (h : Int) (c : Nat) : SetTable.Probe := nth t.mask (runAt t.mask (SetTable.bits h % (t.mask + 1)) (SetTable.bits h)) c
theorem stp_j (t : SetTable) (h : Int) (c : Nat) : (stp t h c).j = way t.mask h c := rfl
theorem stp_on (t : SetTable) (h : Int) (c q : Nat) : nth t.mask (stp t h c) q = stp t h (c + q) := (nth_add t.mask c _ q).symm
theorem stp_new (t : SetTable) (h : Int) : ∀ c, (stp t h c).dummy = none
  | 0 => rfl
  | c + 1 => by
    rw [show stp t h (c + 1) = adv t.mask (stp t h c) from nth_succ _ _ _]
    have := stp_new t h c
    unfold adv
    split <;> exact this
theorem find_from (R : Ks P w s.heap a L es ep t) {x : Addr} {k : List Key} (hx : Kt P w s.heap k x) (hu : A.units < cLine) {K : Nat} (hKf : K < 10 * SetTable.turns t.mask)
    (hK : way t.mask (kh P w k) K ∉ t.place.toList) (hKb : ∀ c, c < K → way t.mask (kh P w k) c ∈ t.place.toList) {Q : SetFound → Shared → Prop}
    (hin : k ∈ L.map (·.2) → Q (.there none) s) (hout : k ∉ L.map (·.2) → Q (.free (way t.mask (kh P w k) K) false) s) :
    ∀ (f c : Nat) (stand : Option SetTable.Probe), stand.getD (t.probeStart (kh P w k)) = stp t (kh P w k) c → c ≤ K → K < f + c →
      (∀ (c' i : Nat) (p : Addr × List Key), c' < c → t.place.toList[i]? = some (way t.mask (kh P w k) c') → L[i]? = some p → p.2 ≠ k) →
      wpAny (model P w) A (setSearchFrom a (.ref x) (kh P w k) true f stand) Q E s
  | 0, c, stand, _, h1, h2, _ => by omega
  | f + 1, c, stand, hst, hc, hf, past => by
    obtain ⟨o, ho, hex, hd⟩ := R.obj
    have hsz : t.place.toList.length = L.length := by
      have := R.tab.sz
      rw [List.length_map] at this
      rw [Array.length_toList, this]
    obtain ⟨g, hg⟩ : ∃ g : Nat → Int, g = fun i => (es[i]?.map (·.1)).getD 0 := ⟨_, rfl⟩
    have gat : ∀ (i : Nat) p, L[i]? = some p → g i = kh P w p.2 := fun i p hp => by
      rw [hg]
      show (es[i]?.map (·.1)).getD 0 = _
      rw [ents_at R.ents hp]
      rfl
    rw [setSearchFrom_succ]
    refine wpAny_bind (wpAny_setState_of ho hd R.fit ?_)
    dsimp only
    refine wp_if_neg R.stays ?_
    try refine wpAny_bind (wpAny_pure ?_)
    rw [hst, ← hg]
    have look := go_spec t R.tab.ris R.tab.dm g (kh P w k) (10 * SetTable.turns t.mask) (K - c) (stp t (kh P w k) c) (stp_new _ _ _) (by omega)
      (fun q hq => by rw [stp_on, stp_j]; exact hKb (c + q) (by omega)) (by rw [stp_on, stp_j, show c + (K - c) = K from by omega]; exact hK)
    rcases look with ⟨q, i, hq, hi, hgi, hno, hpr⟩ | ⟨hno, hpr⟩
    · rw [stp_on, stp_on] at hpr
      rw [stp_on, stp_j] at hi
      rw [show t.probe g (kh P w k) (stp t (kh P w k) c) = some (.candidate (way t.mask (kh P w k) (c + q)) i (stp t (kh P w k) (c + (q + 1)))) from hpr]
      dsimp only
      have hil : i < L.length := by
        rw [← hsz]
        exact (List.getElem?_eq_some_iff.mp hi).1
      obtain ⟨p, hp⟩ : ∃ p, L[i]? = some p := ⟨L[i], List.getElem?_eq_getElem hil⟩
      have hm : p ∈ L := List.mem_of_getElem? hp
      have hs := slot_live R.tab.ris hi
      have go : wpAny (model P w) A (searchRest a (.ref x) (kh P w k) true f es t (way t.mask (kh P w k) (c + q)) i (stp t (kh P w k) (c + (q + 1)))) Q E s := by
        unfold searchRest
        rw [ents_at R.ents hp]
        dsimp only
        refine wpAny_bind (wpAny_holding (wpAny_eqBool_tuple hu (R.each p hm) hx ?_))
        refine wpAny_bind (wpAny_setState_of ho hd R.fit ?_)
        dsimp only
        by_cases he : p.2 = k
        · exact wp_if_pos (by simp [he]) (wpAny_pure (hin (List.mem_map.mpr ⟨p, hm, he⟩)))
        · refine wp_if_neg (by simp [he]) ?_
          try refine wpAny_bind (wpAny_pure ?_)
          rw [sameMem]
          dsimp only
          simp only [if_true, hs, ents_at R.ents hp]
          refine wpAny_bind (wpAny_isSame_ref_self (wpAny_bind (wpAny_pure ?_)))
          simp only [if_true]
          refine wp_if_neg (by simp [he]) ?_
          refine find_from R hx hu hKf hK hKb hin hout f (c + (q + 1)) _ rfl (by omega) (by omega) ?_
          intro c' i' p' hc' hi' hp' e
          by_cases z : c' < c
          · exact past c' i' p' z hi' hp' e
          · by_cases y : c' < c + q
            · refine hno (c' - c) i' (by omega) (by rw [stp_on, stp_j, show c + (c' - c) = c' from by omega]; exact hi') ?_
              rw [gat i' p' hp', e]
            · have ec : c' = c + q := by omega
              rw [ec] at hi'
              have := (slot_live R.tab.ris hi').symm.trans hs
              injection this with this
              rw [this, hp] at hp'
              injection hp' with hp'
              rw [hp'] at he
              exact he e
      by_cases hl : t.led = true
      · refine wp_if_neg (by simp [hl]) ?_
        try refine wpAny_bind (wpAny_pure ?_)
        exact go
      · refine wp_if_pos (by simp [hl]) ?_
        refine wpAny_bind (dull_kt hx ?_ ?_)
        · intro y hy
          obtain ⟨e, he, rfl⟩ := List.mem_map.mp hy
          have h1 : e ∈ es := by
            have : e ∈ es ∧ e.1 = kh P w k := by simpa using he
            exact this.1
          have h2 : e ∈ es.toList := by simpa using h1
          rw [R.ents] at h2
          obtain ⟨p2, hp2, rfl⟩ := List.mem_map.mp h2
          exact ⟨p2.2, p2.1, rfl, R.each p2 hp2⟩
        · refine wp_if_neg (by decide) ?_
          try refine wpAny_bind (wpAny_pure ?_)
          exact go
    · rw [stp_on, show c + (K - c) = K from by omega] at hpr
      rw [show t.probe g (kh P w k) (stp t (kh P w k) c) = some (.empty (way t.mask (kh P w k) K) none) from hpr]
      dsimp only
      refine wpAny_pure (hout ?_)
      intro hm
      obtain ⟨p, hp, e⟩ := List.mem_map.mp hm
      obtain ⟨i, hil, hpi⟩ := List.getElem_of_mem hp
      have hp' : L[i]? = some p := by rw [List.getElem?_eq_getElem hil, hpi]
      have hj : t.place.toList[i]? = some (t.place.toList[i]'(by rw [hsz]; exact hil)) := List.getElem?_eq_getElem _
      obtain ⟨c', hc', e'⟩ := R.tab.before (i := i) hK (by rw [List.getElem?_map, hp']; show some (kh P w p.2) = _; rw [e]) hj
      rw [← e'] at hj
      by_cases z : c' < c
      · exact past c' i p z hj hp' e
      · refine hno (c' - c) i (by omega) (by rw [stp_on, stp_j, show c + (c' - c) = c' from by omega]; exact hj) ?_
        rw [gat i p hp', e]
theorem find_kt (R : Ks P w s.heap a L es ep t) {x : Addr} {k : List Key} (hx : Kt P w s.heap k x) (hu : A.units < cLine) {Q : SetFound → Shared → Prop} (hin : k ∈ L.map (·.2) → Q (.there none) s)
    (hout : ∀ K, k ∉ L.map (·.2) → way t.mask (kh P w k) K ∉ t.place.toList → (∀ c, c < K → way t.mask (kh P w k) c ∈ t.place.toList) → Q (.free (way t.mask (kh P w k) K) false) s) :
    wpAny (model P w) A (setSearch a (.ref x) (kh P w k) true) Q E s := by
  have hr := R.room
  obtain ⟨K, hKf, hK, hKb⟩ := R.tab.first (by rw [List.length_map]; omega) (kh P w k)
  have big : 10 * SetTable.turns t.mask ≤ 1420 := by
    unfold SetTable.turns
    rcases R.tab.mok with e | e | e <;> omega
  unfold setSearch
  exact find_from R hx hu hKf hK hKb hin (fun h => hout K h hK hKb) 100000 0 none rfl (Nat.zero_le _) (by omega) fun c' _ _ h => absurd h (Nat.not_lt_zero _)
end
end DS

/-! sets of tuples of texts and whole numbers: one is put in -/
namespace DS
open PySem PySem.Spec PyProof.Rows L2
theorem all_met {α : Type} : ∀ L : List α, (List.range L.length).filterMap (fun i => L[i]?) = L
  | [] => rfl
  | x :: r => by
    rw [List.length_cons, List.range_succ_eq_map, List.filterMap_cons, List.filterMap_map]
    show x :: (List.range r.length).filterMap (fun i => r[i]?) = _
    rw [all_met r]
section
variable {P : Program} {w : World} {A : Around} {E : Value → Shared → Prop} {s : Shared} {a : Addr} {L : List (Addr × List Key)} {es : Array (Int × Value)} {ep : Nat} {t : SetTable}
theorem Kt.other {h h' : Heap} {k : List Key} {b : Addr} {o : Obj} (hb : Kt P w h k b) (ho : h.get? a = some o) (hd : o.data = .set es ep t) (hs : Heap.SameBut a h h') : Kt P w h' k b := by
  obtain ⟨o', items, n, ho', hc, hd', hi⟩ := hb
  refine ⟨o', items, n, (hs.2 b ?_).trans ho', hc, hd', hi⟩
  intro e
  rw [e, ho] at ho'
  rw [← Option.some.inj ho', hd] at hd'
  cases hd'
/-- the entries in a new order -/
theorem reorder {order : Array Nat} (he : es.toList = L.map (ent P w)) (hp : order.toList.Perm (List.range L.length)) :
    ∃ L' : List (Addr × List Key), (order.filterMap (es[·]?)).toList = L'.map (ent P w) ∧ L'.Perm L ∧ (L'.map fun p => kh P w p.2) = order.toList.map fun i => (es.map (·.1)).getD i 0 := by
  refine ⟨order.toList.filterMap (fun i => L[i]?), ?_, ?_, ?_⟩
  · have e : (fun (i : Nat) => es[i]?) = fun (i : Nat) => (L[i]?).map (ent P w) := by
      funext i
      rw [← Array.getElem?_toList, he, List.getElem?_map]
    rw [Array.toList_filterMap, e, List.map_filterMap]
  · have := hp.filterMap (fun i => L[i]?)
    rwa [all_met] at this
  · have key : ∀ l : List Nat, (∀ i ∈ l, i < L.length) → ((l.filterMap fun i => L[i]?).map fun p => kh P w p.2) = l.map fun i => (es.map (·.1)).getD i 0 := by
      intro l
      induction l with
      | nil => intro _; rfl
      | cons i l ih =>
        intro hl
        have hi := List.getElem?_eq_getElem (hl i List.mem_cons_self)
        rw [List.filterMap_cons_some hi, List.map_cons, List.map_cons, ih fun j hj => hl j (List.mem_cons_of_mem _ hj)]
        congr 1
        have e : (es.map (·.1))[i]? = some (kh P w (L[i]'(hl i List.mem_cons_self)).2) := by
          rw [Array.getElem?_map, ents_at he hi]
          rfl
        rw [Array.getD_eq_getD_getElem?, e]
        rfl
    exact key _ fun i hi => List.mem_range.mp (hp.mem_iff.mp hi)
/-- laid anew in a larger table -/
theorem relay_kt {o : Obj} (ho : s.heap.get? a = some o) (hex : o.ExactSet) (hd : o.data = .set es ep t) (he : es.toList = L.map (ent P w)) (hsz : t.place.size = L.length) (hdm : t.dummies = #[]) (hfl : L.length ≤ t.mask)
    (one : (L.map (·.2)).Nodup) (each : ∀ p ∈ L, Kt P w s.heap p.2 p.1) (ld : w.params.followText "set-order" = true ∨ t.led = true) (few : L.length < 64) {wanted M : Nat}
    (hw : SetTable.sizeAbove wanted - 1 = M) (hM : MaskOk M) (hw2 : SetTable.sizeAbove wanted ≤ 128) (hn : L.length * 5 < M * 3) {Q : Unit → Shared → Prop}
    (hQ : ∀ h' L' es' ep' t', Heap.SameBut a s.heap h' → Ks P w h' a L' es' ep' t' → L'.Perm L → Q () { s with heap := h' }) : wpAny (model P w) A (setRelay a wanted) Q E s := by
  have hnum := ents_num he
  obtain ⟨t', order, er, hp, T, em, el, _, _⟩ := relaid_ok t (hs := es.map (·.1)) (wanted := wanted) hw hM (by rw [Array.size_map, hnum]; omega)
  rw [Array.size_map, hnum] at hp
  obtain ⟨L', r1, r2, r3⟩ := reorder he hp
  rw [← r3] at T
  have hnum' : (order.filterMap (es[·]?)).size = es.size := by rw [ents_num r1, r2.length_eq, hnum]
  rw [setRelay_eq]
  refine wpAny_bind (wpAny_setState_of ho hd (fits_of (hsz.trans hnum.symm) hdm (by omega)) ?_)
  dsimp only
  refine wp_if_neg (by rw [sizeLine_eq]; omega) ?_
  try refine wpAny_bind (wpAny_pure ?_)
  rw [er]
  dsimp only
  refine wpAny_bind ?_
  refine wp_if_neg (by rw [hnum']; simp) ?_
  try refine wpAny_bind (wpAny_pure ?_)
  refine wpAny_pure ?_
  dsimp only
  refine wpAny_storeSet_of ho hd ?_ (by rw [hnum', hnum, sizeLine_eq]; omega)
  have sb : Heap.SameBut a s.heap (s.heap.update a (Obj.putSet (order.filterMap (es[·]?)) t')) := Heap.SameBut.update ..
  refine hQ _ L' (order.filterMap (es[·]?)) (ep + 1) t' sb ⟨⟨_, store_at ho hd, ⟨hex.1, hex.2.1, hex.2.2⟩, rfl⟩, r1, T, (r2.map (·.2)).nodup_iff.mpr one, fun p hpm => (each p (r2.mem_iff.mp hpm)).other ho hd sb, by rw [el]; exact ld, ?_, by rw [r2.length_eq]; exact few⟩ r2
  rw [r2.length_eq, em]
  exact hn
/-- a table at which no more is changed than whether all hashes are by value -/
theorem tab_plain {hs : List Int} (T : TabOk t hs) (b : Bool) : TabOk (if b then t else { t with plain := false }) hs := by
  cases b
  · exact ⟨T.ris, T.dm, T.sz, T.mok, T.bd, T.reach⟩
  · exact T
theorem add_kt (R : Ks P w s.heap a L es ep t) {x : Addr} {k : List Key} (hx : Kt P w s.heap k x) (hu : A.units < cLine) (hf : k ∉ L.map (·.2) → L.length + 1 < 64) {Q : Bool → Shared → Prop}
    (hQ : ∀ b h' L' es' ep' t', Heap.SameBut a s.heap h' → Ks P w h' a L' es' ep' t' → (k ∈ L.map (·.2) ∧ L' = L) ∨ (k ∉ L.map (·.2) ∧ L'.Perm ((x, k) :: L)) → Q b { s with heap := h' }) :
    wpAny (model P w) A (setAddHashed a (.ref x) (kh P w k)) Q E s := by
  obtain ⟨o, ho, hex, hd⟩ := R.obj
  have hnum := ents_num R.ents
  have hroom := R.room
  unfold setAddHashed
  refine wpAny_holding ?_
  rw [show (100000 : Nat) = 99999 + 1 from rfl, setAddHashedIn_succ]
  refine wpAny_bind (wpAny_setState_of ho hd R.fit ?_)
  dsimp only
  refine wp_if_neg (by simp [byScan, Value.scannable]) ?_
  try refine wpAny_bind (wpAny_pure ?_)
  refine wpAny_bind (find_kt R hx hu (fun hm => ?_) fun K hm hK hb => ?_)
  · dsimp only
    exact wpAny_pure (hQ false s.heap L es ep t (Heap.SameBut.refl a s.heap) R (.inl ⟨hm, rfl⟩))
  · dsimp only
    refine wpAny_bind (wpAny_setState_of ho hd R.fit ?_)
    dsimp only
    obtain ⟨q1, q2, q3, q4, q5, q6, q7, q8, q9⟩ := R.tab.put hK hb
    obtain ⟨T1, hT1⟩ : ∃ T1, T1 = (t.put (way t.mask (kh P w k) K)).1 := ⟨_, rfl⟩
    obtain ⟨at1, hat⟩ : ∃ n, n = SetTable.below t.place (way t.mask (kh P w k) K) := ⟨_, rfl⟩
    rw [show t.put (way t.mask (kh P w k) K) = (T1, at1) from by rw [hT1, hat, ← q1]]
    rw [← hT1] at q3 q4 q5 q9
    rw [← hat] at q2 q3
    clear q6 q7 q8 q1
    dsimp only
    obtain ⟨L1, hL1⟩ : ∃ L1, L1 = L.take at1 ++ (x, k) :: L.drop at1 := ⟨_, rfl⟩
    have pm : L1.Perm ((x, k) :: L) := by
      rw [hL1]
      have := List.perm_middle (a := (x, k)) (l₁ := L.take at1) (l₂ := L.drop at1)
      rwa [List.take_append_drop] at this
    have hlen : L1.length = L.length + 1 := pm.length_eq
    have hfew := hf hm
    obtain ⟨es1, hes1⟩ : ∃ es1, es1 = SetTable.insertAt es at1 (kh P w k, Value.ref x) := ⟨_, rfl⟩
    have he1 : es1.toList = L1.map (ent P w) := by
      rw [hes1, SetTable.toList_insertAt, R.ents, hL1, List.map_append, List.map_cons, List.map_take, List.map_drop]
      rfl
    have hn1 : es1.size = L.length + 1 := (ents_num he1).trans hlen
    have q3' : TabOk T1 (L1.map fun p => kh P w p.2) := by
      rw [hL1, List.map_append, List.map_cons, List.map_take, List.map_drop]
      exact q3
    have one1 : (L1.map (·.2)).Nodup := by
      refine (pm.map (·.2)).nodup_iff.mpr ?_
      rw [List.map_cons]
      exact List.nodup_cons.mpr ⟨hm, R.one⟩
    rw [← hes1]
    -- what is left, for either answer of hashByValue
    have rest : ∀ b : Bool, wpAny (model P w) A (do
        storeSet a es1 (if b then T1 else { T1 with plain := false })
        if !false && (if b then T1 else { T1 with plain := false }).tooFull then setRelay a (SetTable.grown (es.size + 1))
        return true) Q E s := by
      intro b
      obtain ⟨T2, hT2⟩ : ∃ T2, T2 = (if b then T1 else { T1 with plain := false }) := ⟨_, rfl⟩
      have tb : TabOk T2 (L1.map fun p => kh P w p.2) := by rw [hT2]; exact tab_plain q3' b
      have m2 : T2.mask = t.mask := by rw [hT2]; cases b <;> exact q4
      have l2 : T2.led = t.led := by rw [hT2]; cases b <;> exact q5
      have f2 : T2.fill = L.length + 1 := by
        rw [List.length_map] at q9
        rw [hT2]; cases b <;> exact q9
      rw [← hT2]
      clear hT2
      refine wpAny_bind (wpAny_storeSet_of ho hd ?_ (by rw [hn1, sizeLine_eq]; omega))
      have sb : Heap.SameBut a s.heap (s.heap.update a (Obj.putSet es1 T2)) := Heap.SameBut.update ..
      have ho1 := store_at (es' := es1) (t' := T2) ho hd
      obtain ⟨h1, hh1⟩ : ∃ h1, h1 = s.heap.update a (Obj.putSet es1 T2) := ⟨_, rfl⟩
      rw [← hh1] at sb ho1 ⊢
      have each1 : ∀ p ∈ L1, Kt P w h1 p.2 p.1 := fun p hp => by
        rcases List.mem_cons.mp (pm.mem_iff.mp hp) with e | hp
        · rw [e]; exact hx.other ho hd sb
        · exact (R.each p hp).other ho hd sb
      have ld1 : w.params.followText "set-order" = true ∨ T2.led = true := by rw [l2]; exact R.led
      have s1 : T2.place.size = L1.length := by
        have := tb.sz
        rwa [List.length_map] at this
      by_cases full : T2.tooFull = true
      · have big : (L.length + 1) * 5 ≥ T2.mask * 3 := by
          have h := full
          unfold SetTable.tooFull at h
          rw [decide_eq_true_eq, f2] at h
          exact h
        rw [m2] at big
        have two : (t.mask = 7 ∧ L.length = 4) ∨ (t.mask = 31 ∧ L.length = 18) := by
          rcases R.tab.mok with e | e | e <;> rw [e] at big hroom
          · exact .inl ⟨e, by omega⟩
          · exact .inr ⟨e, by omega⟩
          · omega
        have go : ∀ M, SetTable.sizeAbove (SetTable.grown (es.size + 1)) - 1 = M → MaskOk M → SetTable.sizeAbove (SetTable.grown (es.size + 1)) ≤ 128 → L1.length * 5 < M * 3 →
            wpAny (model P w) A (setRelay a (SetTable.grown (es.size + 1))) (fun _ s' => wpAny (model P w) A (pure true) Q E s') E { s with heap := h1 } := fun M h1' h2' h3' h4' => by
          refine relay_kt (s := { s with heap := h1 }) ho1 ⟨hex.1, hex.2.1, hex.2.2⟩ rfl he1 s1 tb.dm (by rw [hlen, m2]; omega) one1 each1 ld1 (by omega) h1' h2' h3' h4' ?_
          intro h2 L2 es2 ep2 t2 sb2 R2 pm2
          exact wpAny_pure (hQ true h2 L2 es2 ep2 t2 (sb.trans sb2) R2 (.inr ⟨hm, pm2.trans pm⟩))
        first
          | (refine wpAny_bind ?_; refine wp_if_pos (by simp [full]) ?_)
          | (refine wp_if_pos (by simp [full]) ?_; refine wpAny_bind ?_)
        rw [hnum] at go ⊢
        rcases two with ⟨_, e2⟩ | ⟨_, e2⟩
        · rw [e2] at go ⊢
          exact go 31 (by rw [size_20]) (.inr (.inl rfl)) (by rw [size_20]; decide) (by omega)
        · rw [e2] at go ⊢
          exact go 127 (by rw [size_76]) (.inr (.inr rfl)) (by rw [size_76]; decide) (by omega)
      · first
          | refine wp_if_neg (by simp [full]) ?_
          | (refine wpAny_bind ?_; refine wp_if_neg (by simp [full]) ?_; refine wpAny_pure ?_)
        refine wpAny_pure (hQ true h1 L1 es1 (ep + 1) T2 sb ⟨⟨_, ho1, ⟨hex.1, hex.2.1, hex.2.2⟩, rfl⟩, he1, tb, one1, each1, ld1, ?_, by omega⟩ (.inr ⟨hm, pm⟩))
        have h := full
        unfold SetTable.tooFull at h
        rw [decide_eq_true_eq, f2] at h
        omega
    by_cases pl : T1.plain = true
    · first
        | (refine wpAny_bind ?_; refine wp_if_pos pl ?_; refine val_kt hx fun b => ?_)
        | refine wp_if_pos pl (wpAny_bind (val_kt hx fun b => ?_))
      exact rest b
    · first
        | (refine wpAny_bind ?_; refine wp_if_neg pl ?_; refine wpAny_pure ?_)
        | (refine wp_if_neg pl ?_; refine wpAny_bind (wpAny_pure ?_))
        | refine wp_if_neg pl ?_
      exact rest true
end
end DS

/-! sets of tuples of texts and whole numbers: set(xs) -/
namespace DS
open PySem PySem.Spec PyProof.Rows L2
theorem nodup_fit {α : Type} [DecidableEq α] : ∀ (l U : List α), l.Nodup → (∀ x ∈ l, x ∈ U) → l.length ≤ U.length
  | [], U, _, _ => Nat.zero_le _
  | x :: r, U, hn, hs => by
    have hx := hs x List.mem_cons_self
    have h1 := List.nodup_cons.mp hn
    have := nodup_fit r (U.erase x) h1.2 fun y hy => (List.mem_erase_of_ne (fun e => h1.1 (by rw [← e]; exact hy))).mpr (hs y (List.mem_cons_of_mem _ hy))
    rw [List.length_erase_of_mem hx] at this
    have : 0 < U.length := List.length_pos_of_mem hx
    rw [List.length_cons]
    omega
/-- the set L has what the items of l have -/
def Has (l L : List (Addr × List Key)) : Prop := (∀ p ∈ L, p ∈ l) ∧ ∀ p ∈ l, p.2 ∈ L.map (·.2)
theorem Has.more {l L L' : List (Addr × List Key)} {x : Addr × List Key} (h : Has l L) (c : (x.2 ∈ L.map (·.2) ∧ L' = L) ∨ (x.2 ∉ L.map (·.2) ∧ L'.Perm ((x.1, x.2) :: L))) : Has (l ++ [x]) L' := by
  rcases c with ⟨hm, rfl⟩ | ⟨_, pm⟩
  · refine ⟨fun p hp => List.mem_append_left _ (h.1 p hp), fun p hp => ?_⟩
    rcases List.mem_append.mp hp with z | z
    · exact h.2 p z
    · rw [List.mem_singleton.mp z]; exact hm
  · refine ⟨fun p hp => ?_, fun p hp => ?_⟩
    · rcases List.mem_cons.mp (pm.mem_iff.mp hp) with e | z
      · rw [e]; exact List.mem_append_right _ (List.mem_singleton.mpr rfl)
      · exact List.mem_append_left _ (h.1 p z)
    · rw [(pm.map (·.2)).mem_iff, List.map_cons]
      rcases List.mem_append.mp hp with z | z
      · exact List.mem_cons_of_mem _ (h.2 p z)
      · rw [List.mem_singleton.mp z]; exact List.mem_cons_self
theorem take_more {α : Type} {l : List α} {i : Nat} {x : α} (h : l[i]? = some x) : l.take (i + 1) = l.take i ++ [x] := by
  rw [List.take_succ, h]
  rfl
section
variable {P : Program} {w : World} {A : Around} {E : Value → Shared → Prop} {s : Shared}
theorem Kt.kept {h h' : Heap} {k : List Key} {b : Addr} (x : Kt P w h k b) (hk : ∀ c o, h.get? c = some o → h'.get? c = some o) : Kt P w h' k b := by
  obtain ⟨o, items, n, ho, r⟩ := x
  exact ⟨o, items, n, hk b o ho, r⟩
theorem Ks.kept {h h' : Heap} {a : Addr} {L : List (Addr × List Key)} {es : Array (Int × Value)} {ep : Nat} {t : SetTable} (R : Ks P w h a L es ep t) (ha : ∀ o, h.get? a = some o → h'.get? a = some o) (he : ∀ p ∈ L, Kt P w h' p.2 p.1) : Ks P w h' a L es ep t := by
  obtain ⟨⟨o, ho, r⟩, r1, r2, r3, r4, r5, r6, r7⟩ := R
  exact ⟨⟨o, ha o ho, r⟩, r1, r2, r3, he, r5, r6, r7⟩
def newSet (w : World) : Obj := { cls := .type "set", dict := none, data := .set #[] 0 (.fresh 0 0 (!w.params.followText "set-order")) }
theorem ks_new {h : Heap} {a : Addr} (ho : h.get? a = some (newSet w)) : Ks P w h a [] #[] 0 (.fresh 0 0 (!w.params.followText "set-order")) where
  obj := ⟨_, ho, ⟨rfl, rfl, rfl⟩, rfl⟩
  ents := rfl
  tab := ⟨List.Pairwise.nil, rfl, rfl, .inl rfl, fun x hx => (List.not_mem_nil hx).elim, fun i h j hi => by simp at hi⟩
  one := List.nodup_nil
  each := fun p hp => (List.not_mem_nil hp).elim
  led := by
    show w.params.followText "set-order" = true ∨ (!w.params.followText "set-order") = true
    cases w.params.followText "set-order" <;> simp
  room := by show 0 * 5 < 7 * 3; decide
  few := by show 0 < 64; decide
/-- the loop that takes the items over -/
theorem update_kt {I : Addr} {fp wr : List Addr} {G : Array GenState → Array GenState → Prop} {n : Nat} {Pv : Nat → Value → Prop} {St : Nat → Shared → Prop} {R : Result → Shared → Prop}
    (W : WalksS P w A.in1 I fp wr G n Pv St) (S : Addr) (hSf : S ∉ fp) (ks : List (Addr × List Key)) (hn : n = ks.length) (U : List (List Key)) (hU : ∀ p ∈ ks, p.2 ∈ U) (hfew : U.length < 64) (hval : ∀ i v, Pv i v → ∃ p, ks[i]? = some p ∧ v = .ref p.1)
    (h0 : Heap) (hk : ∀ p ∈ ks, Kt P w h0 p.2 p.1) (hS0 : h0.get? S = none) (hw0 : ∀ b ∈ wr, h0.get? b = none) (hu : A.in1.units < cLine) :
    ∀ (m i : Nat) (s : Shared), i + m = n → St i s → (∀ b o, h0.get? b = some o → s.heap.get? b = some o) → (∃ L es ep t, Ks P w s.heap S L es ep t ∧ Has (ks.take i) L) →
      (∀ s' L es ep t, Moved (S :: wr) G s s' → Ks P w s'.heap S L es ep t → Has ks L → (∀ b o, h0.get? b = some o → s'.heap.get? b = some o) → R (.ok (.ret .none)) s') →
      codeAny (model P w) A (.builtin "set.update.loop" ⟨[.ref S, .ref I], []⟩) R s := by
  have hSw : S ∉ wr := fun h => hSf (W.sub _ h)
  have up : ∀ b ∈ wr, b ∈ S :: wr := fun b hb => List.mem_cons_of_mem _ hb
  have old : ∀ {s s' : Shared}, Moved wr G s s' → (∀ b o, h0.get? b = some o → s.heap.get? b = some o) → ∀ b o, h0.get? b = some o → s'.heap.get? b = some o := fun hm hp b o e =>
    hm.heap b o (fun hb => by rw [hw0 b hb] at e; cases e) (hp b o e)
  intro m
  induction m with
  | zero =>
    intro i s hi hst hp ⟨L, es, ep, t, hS, hH⟩ hR
    have : i = n := by omega
    subst this
    refine codeAny_builtin F.entry_set_update_loop ?_
    rw [Around.under_plainId F.plain_set_update_loop _]
    show wpAny _ A.in1 (pyNext (.ref I) >>= _) _ _ s
    refine wpAny_bind (W.done s _ _ hst fun s' hm => ?_)
    show wpAny _ A.in1 (ret Value.none) _ _ s'
    have hp' := old hm hp
    refine wpAny_pure (hR s' L es ep t (hm.mono up) (hS.kept (fun o e => hm.heap S o hSw e) fun p hpL => (hk p (List.mem_of_mem_take (hH.1 p hpL))).kept hp') ?_ hp')
    rwa [hn, List.take_length] at hH
  | succ m ih =>
    intro i s hi hst hp ⟨L, es, ep, t, hS, hH⟩ hR
    refine codeAny_builtin F.entry_set_update_loop ?_
    rw [Around.under_plainId F.plain_set_update_loop _]
    show wpAny _ A.in1 (pyNext (.ref I) >>= _) _ _ s
    refine wpAny_bind (W.item i s _ _ (by omega) hst fun v s' hP hst' hm => ?_)
    obtain ⟨p, hpi, rfl⟩ := hval i v hP
    have hp' := old hm hp
    have hS' : Ks P w s'.heap S L es ep t := hS.kept (fun o e => hm.heap S o hSw e) fun q hq => (hk q (List.mem_of_mem_take (hH.1 q hq))).kept hp'
    have hx : Kt P w s'.heap p.2 p.1 := (hk p (List.mem_of_getElem? hpi)).kept hp'
    show wpAny _ A.in1 (holding [Value.ref p.1] (setAdd S (.ref p.1)) >>= _) _ _ s'
    refine wpAny_bind (wpAny_holding ?_)
    unfold setAdd
    refine wpAny_holding ?_
    refine wpAny_bind (wpAny_pyHash_tuple hu hx ?_)
    refine add_kt (s := { s' with toks := s'.toks + (p.2.length + 1) }) hS' hx hu (fun hnew => ?_) fun b h' L' es' ep' t' hsb hS2 cs => ?_
    · have := nodup_fit (p.2 :: L.map (·.2)) U (List.nodup_cons.mpr ⟨hnew, hS'.one⟩) (fun y hy => by
        rcases List.mem_cons.mp hy with rfl | hy
        · exact hU p (List.mem_of_getElem? hpi)
        · obtain ⟨z, hz, rfl⟩ := List.mem_map.mp hy
          exact hU z (List.mem_of_mem_take (hH.1 z hz)))
      rw [List.length_cons, List.length_map] at this
      omega
    · have hH' : Has (ks.take (i + 1)) L' := by
        rw [take_more hpi]
        exact hH.more cs
      have hp2 : ∀ b o, h0.get? b = some o → h'.get? b = some o := fun b o e => (hsb.2 b (fun z => by rw [z, hS0] at e; cases e)).trans (hp' b o e)
      refine wpAny_pure ⟨plainId_quiet F.plain_set_update_loop _, ih (i + 1) _ (by omega) (W.frame _ s' _ _ hst' (Nat.le_add_right _ _) fun b hb o e => ?_) hp2 ⟨L', es', ep', t', hS2, hH'⟩ fun s'' L2 es2 ep2 t2 hm2 hS3 hH2 hp3 => ?_⟩
      · rw [hsb.2 b (fun h : b = S => hSf (by rw [← h]; exact hb))]; exact e
      · refine hR s'' L2 es2 ep2 t2 (Moved.trans W.gtrans ((hm.mono up).then_heap (Nat.le_add_right _ _) fun b o hb e => ?_) hm2) hS3 hH2 hp3
        rw [hsb.2 b (fun h : b = S => hb (by rw [h]; exact List.mem_cons_self))]; exact e
end
end DS

/-! sets of tuples of texts and whole numbers: the call -/
namespace DS
open PySem PySem.Spec PyProof.Rows L2
section
variable {P : Program} {w : World} {A : Around} {E : Value → Shared → Prop} {s : Shared}
theorem far_none {h : Heap} {b : Addr} (hb : h.objs.size ≤ b) : h.get? b = none := by
  cases q : h.get? b with
  | none => rfl
  | some o => exact absurd (Heap.lt_size q) (Nat.not_lt.mpr hb)
/-- set(xs) of a list of tuples whose keys are all among U -/
theorem set_kt {l : Addr} {items : Array Value} (ks : List (Addr × List Key)) {Q : Value → Shared → Prop} (hh : A.handled = none) (hl : s.heap.IsList l items) (hit : items.toList = ks.map fun p => Value.ref p.1)
    (hk : ∀ p ∈ ks, Kt P w s.heap p.2 p.1) (U : List (List Key)) (hU : ∀ p ∈ ks, p.2 ∈ U) (hfew : U.length < 64) (hu : A.units + 3 < cLine)
    (h : ∀ (h' : Heap) (tk : Nat) L es ep t, Ks P w h' s.heap.objs.size L es ep t → Has ks L → (∀ b o, s.heap.get? b = some o → h'.get? b = some o) → Q (.ref s.heap.objs.size) { s with heap := h', toks := tk }) :
    wpAny (model P w) A (call (.type "set") [.ref l]) Q E s := by
  have num : items.size = ks.length := by
    have := congrArg List.length hit
    rwa [Array.length_toList, List.length_map] at this
  obtain ⟨c, tl, hmro⟩ := F.called_set.mro
  have hmade := F.called_set.made
  have hsub := F.called_set.sub
  refine wpAny_call (codeAny_of_tree ?_)
  show wpAny _ _ (callAny (.type "set") _) _ _ _
  refine wpAny_pure ⟨Code.quiet_builtin _ (by decide +kernel), codeAny_builtin F.entry_type_call ?_⟩
  rw [Around.under_plain (weight_type_call_type "set" [.ref l] []) rfl]
  have h1 := F.called_set.notType
  have h2 := F.called_set.canCreate
  have hct := F.typeCall_set_1 (.ref l)
  repeat (any_goals (first | assumption | wp_step))
  refine codeAny_mono (code_set_led1 (.ref l) (E := E) (Q₁ := fun obj s₁ => obj = .ref s.heap.objs.size ∧ s₁ = { s with heap := s.heap.push (newSet w) }) ⟨rfl, rfl⟩) fun r s₁ hr => ?_
  cases r with
  | error e => exact hr
  | ok fl =>
    cases fl with
    | ret obj =>
      obtain ⟨rfl, rfl⟩ := hr
      have hS : (s.heap.push (newSet w)).get? s.heap.objs.size = some (newSet w) := Heap.get?_push_size _ rfl
      have hT : Shared.TypeIs { s with heap := s.heap.push (newSet w) } (.ref s.heap.objs.size) "set" := ⟨_, hS, rfl⟩
      have hli := F.called_set.init.lookup
      have hbi := F.called_set.init.bind (.ref s.heap.objs.size)
      repeat (any_goals (first | assumption | wp_step))
      refine codeAny_mono (codeAny_call_builtin (R := wants (fun r s₂ => r = .none ∧ ∃ h' tk L es ep t, s₂ = { s with heap := h', toks := tk } ∧ Ks P w h' s.heap.objs.size L es ep t ∧ Has ks L ∧
          (∀ b o, s.heap.get? b = some o → h'.get? b = some o)) E) F.called_set.init.plain F.entry_set_init (check_set_init_1 hT ?_)) fun r₂ s₂ hr₂ => ?_
      · obtain ⟨⟨oc, od, oda, osl⟩, hol, hcl, nl, hdl⟩ := hl
        simp only at hcl hdl
        subst hcl; subst hdl
        have hol' : (s.heap.push (newSet w)).get? l = some { cls := .type "list", dict := od, data := .seq items nl, slots := osl } := Heap.get?_push_of_some _ hol
        have hl1 : (s.heap.push (newSet w)).IsList l items := ⟨_, hol', rfl, nl, rfl⟩
        have hsls := F.sub_list_set
        have hslf := F.sub_list_frozenset
        have hne : (Value.type "list" == Value.type "dict") = false := by decide
        unfold Builtin.«set.__init__» noKeywords Builtin.Frozenset.updateFrom
        generalize hPI : pyIter = PI
        wp_walk
        subst hPI
        refine wpAny_pyIter_list hl1 ?_
        refine wpAny_bind (wpAny_runValue ?_)
        have hlS : l < s.heap.objs.size := Heap.lt_size hol
        have sz : (s.heap.push (newSet w)).objs.size = s.heap.objs.size + 1 := Heap.size_push ..
        have hh3 : A.in1.in1.in1.handled = none := by simp [hh]
        have hneI : l ≠ (s.heap.push (newSet w)).objs.size := by rw [sz]; exact Nat.ne_of_lt (Nat.lt_succ_of_lt hlS)
        have hSf : s.heap.objs.size ∉ [(s.heap.push (newSet w)).objs.size, l] := by
          simp only [List.mem_cons, List.not_mem_nil, or_false, not_or]
          exact ⟨by rw [sz]; exact Nat.ne_of_lt (Nat.lt_succ_self _), Nat.ne_of_gt hlS⟩
        have hval : ∀ (i : Nat) (v : Value), items[i]? = some v → ∃ p, ks[i]? = some p ∧ v = .ref p.1 := fun i v hv => by
          have q : items.toList[i]? = some v := by rw [Array.getElem?_toList]; exact hv
          rw [hit, List.getElem?_map] at q
          cases hq : ks[i]? with
          | none => rw [hq] at q; cases q
          | some p =>
            rw [hq] at q
            exact ⟨p, rfl, (Option.some.inj q).symm⟩
        refine update_kt ((Walks.list hh3 _ l hneI items).toS) s.heap.objs.size hSf ks num U hU hfew hval s.heap hk (far_none (Nat.le_refl _))
          (fun b hb => far_none (by rw [List.mem_singleton.mp hb, sz]; exact Nat.le_succ _)) hu items.size 0 _ (Nat.zero_add _)
          ⟨⟨_, Heap.get?_push_size _ rfl, rfl, rfl⟩, (hl1.push _)⟩ (fun b o e => Heap.get?_push_of_some _ (Heap.get?_push_of_some _ e)) ?hS0 ?hR
        case hS0 =>
          have hget : ((s.heap.push (newSet w)).push { cls := .type "list_iterator", data := .fields #[.ref l, .int 0 0] }).get? s.heap.objs.size = some (newSet w) := Heap.get?_push_of_some _ hS
          exact ⟨[], #[], 0, _, ks_new hget, fun p hp => (List.not_mem_nil hp).elim, fun p hp => by rw [List.take_zero] at hp; exact (List.not_mem_nil hp).elim⟩
        case hR =>
          intro s' L es ep t hm hS' hH hkp
          obtain ⟨h', g2, d', tk', os'⟩ := s'
          have eg : g2 = s.gens := hm.gens
          have ed : d' = s.drawn := hm.drawn
          have eo : os' = s.os := hm.os
          subst eg; subst ed; subst eo
          show wpAny _ _ _ _ _ _
          refine wpAny_pure ?_
          show wpAny _ _ (ret Value.none) _ _ _
          exact wpAny_pure ⟨rfl, h', tk', L, es, ep, t, rfl, hS', hH, hkp⟩
      · cases r₂ with
        | error e => exact hr₂
        | ok fl₂ =>
          cases fl₂ with
          | ret r =>
            obtain ⟨rfl, h', tk, L, es, ep, t, rfl, hS', hH, hk'⟩ := hr₂
            repeat (any_goals (first | assumption | wp_step))
            exact h _ _ _ _ _ _ hS' hH hk'
          | _ => exact hr₂.elim
    | _ => exact hr.elim
end
end DS

/-! len(set(places)). -/
namespace DL
open PySem PySem.Spec L2 PyProof.Rows
set_option autoImplicit false
/-! ### unlike places -/
def uK : List (List Key) → List (List Key)
  | [] => []
  | x :: r => x :: (uK r).filter fun z => !decide (z = x)
theorem uK_mem : ∀ (l : List (List Key)) (y : List Key), y ∈ uK l ↔ y ∈ l
  | [], y => Iff.rfl
  | x :: r, y => by
    unfold uK
    rw [List.mem_cons, List.mem_filter, uK_mem r y, List.mem_cons]
    constructor
    · rintro (h | ⟨h, _⟩)
      · exact .inl h
      · exact .inr h
    · rintro (h | h)
      · exact .inl h
      · by_cases e : y = x
        · exact .inl e
        · exact .inr ⟨h, by simp [e]⟩
theorem uK_nodup : ∀ l : List (List Key), (uK l).Nodup
  | [] => List.nodup_nil
  | x :: r => by
    unfold uK
    refine List.nodup_cons.mpr ⟨?_, (uK_nodup r).filter _⟩
    intro h
    have := (List.mem_filter.mp h).2
    simp at this
/-- a place's keys -/
def keysOf : D → List Key
  | .tup [.str u, .int i] => [.inr u, .inl i]
  | _ => []
theorem placed {d : D} (h : placeLike d = true) : ∃ u i, d = .tup [.str u, .int i] := by
  unfold placeLike at h
  split at h
  · exact ⟨_, _, rfl⟩
  · cases h
theorem eq_placed {z x : D} (hz : placeLike z = true) (hx : placeLike x = true) : eqD z x = decide (keysOf z = keysOf x) := by
  obtain ⟨u, i, rfl⟩ := placed hz
  obtain ⟨v, k, rfl⟩ := placed hx
  rw [Bool.eq_iff_iff, decide_eq_true_eq]
  simp [eqD, eqDs, keysOf]
theorem uniq_sub : ∀ (l : List D), ∀ z ∈ uniq l, z ∈ l
  | [], z, h => h
  | x :: r, z, h => by
    unfold uniq at h
    rcases List.mem_cons.mp h with h | h
    · exact List.mem_cons.mpr (.inl h)
    · exact List.mem_cons_of_mem _ (uniq_sub r z (List.mem_filter.mp h).1)
theorem uniq_keys : ∀ l : List D, l.all placeLike = true → (uniq l).map keysOf = uK (l.map keysOf)
  | [], _ => rfl
  | x :: r, h => by
    rw [List.all_cons, Bool.and_eq_true] at h
    have ih := uniq_keys r h.2
    have hr := List.all_eq_true.mp h.2
    unfold uniq
    rw [List.map_cons, List.map_cons]
    unfold uK
    rw [← ih, List.filter_map]
    congr 1
    congr 1
    apply List.filter_congr
    intro z hz
    show (!eqD z x) = !decide (keysOf z = keysOf x)
    rw [eq_placed (hr z (uniq_sub r z hz)) h.1]
section
variable {G : Gx} {Γ : Ev} {tb : Tb} {c : Sc} {X : Cx} {W : WX} {j : Nat} {pos : Pos}
/-- places as they stand -/
theorem places_at {F : Hp} : ∀ {xs : List V} {l : List D}, IsL G F xs l → l.all placeLike = true → ∃ ks : List (Addr × List Key), xs = ks.map (fun p => V.ref p.1) ∧ l.map keysOf = ks.map (·.2) ∧ ∀ p ∈ ks, ∃ u i, p.2 = [.inr u, .inl i] ∧ SqT G.K F p.1 [.str u, .int i]
  | _, _, .nil, _ => ⟨[], rfl, rfl, fun p hp => (List.not_mem_nil hp).elim⟩
  | _, _, .cons (v := v) (d := d) h t, hl => by
    rw [List.all_cons, Bool.and_eq_true] at hl
    obtain ⟨ks, h1, h2, h3⟩ := places_at t hl.2
    obtain ⟨u, i, rfl⟩ := placed hl.1
    cases h with
    | tup ha ht =>
      rename_i a ys
      cases ht with
      | cons y1 ht =>
        cases y1
        cases ht with
        | cons y2 ht =>
          cases y2
          cases ht
          refine ⟨(a, [.inr u, .inl i]) :: ks, by rw [h1]; rfl, by rw [List.map_cons, h2]; rfl, ?_⟩
          intro p hp
          rcases List.mem_cons.mp hp with rfl | hp
          · exact ⟨u, i, rfl, ha⟩
          · exact h3 p hp
theorem refs_at : ∀ {ks : List (Addr × List Key)} {us : List Value}, Vals (ks.map fun p => V.ref p.1) us → us = ks.map fun p => Value.ref p.1
  | [], _, .nil => rfl
  | p :: ks, _, .cons r t => by
    cases r
    rw [refs_at t]
    rfl
theorem kt_of {pins : List (Addr × Obj)} {σ : L2.St} {H : Hp} {s : Shared} {b : Addr} {u : Str} {i : Int} (I : Inv X pins σ H s) (h : SqT X.K H b [.str u, .int i]) : DS.Kt X.prog X.w s.heap [.inr u, .inl i] b := by
  obtain ⟨its, r, ⟨o, ho, hc, n, hd⟩, _⟩ := I.tuple h
  refine ⟨o, its.toArray, n, ho, hc, hd, ?_⟩
  cases r with
  | cons r1 r =>
    cases r with
    | cons r2 r =>
      cases r
      obtain ⟨t1, rfl⟩ := r1
      obtain ⟨t2, rfl⟩ := r2
      exact .cons (by simp [mixKind, keyIs, Value.isStrOf]) (.cons (by simp [mixKind, keyIs, Value.isInt]) .nil)
theorem de_nset (C : Ct G Γ tb c X W j) {a : E} {ea : Expr} {px p2 q : Pos} (hf : Str.ofString "len" ∈ tb.free) (hg : isGlB c (Str.ofString "len") = true) (hf2 : Str.ofString "set" ∈ tb.free) (hg2 : isGlB c (Str.ofString "set") = true) (ha : PE X ea (rdE G Γ W a)) (hp : plainE ea = true) :
    PE X (.Call (.Name (Str.ofString "len") px) [.Call (.Name (Str.ofString "set") p2) [ea] [] q] [] pos) (rdE G Γ W (.nset a)) := by
  obtain ⟨g1, g2⟩ := gl_of C hg
  obtain ⟨g3, g4⟩ := gl_of C hg2
  refine ⟨fun pins s σ H Q I ⟨F, r, S, e, R, L, p⟩ => ?_⟩
  refine Call_ (ld_blt I g1 (C.wd.fr _ hf) PySem.boot_len ?_)
  refine PyProof.Rows.callWith_builtin1 (PyProof.Rows.args_cons ?_ rfl) rfl rfl
  refine Call_ (ld_blt I g3 (C.wd.fr _ hf2) PyProof.Rows.boot_set ?_)
  unfold evE at p
  refine PyProof.Rows.callWith_type1 (PyProof.Rows.args_cons (thn (ha.run pins s σ H _ I ⟨F, r, S, e, R, L, Post.imp (Post.bnD p) fun x H1 z => z⟩) fun v s1 ⟨x, H1, I1, r1, F1, rr1, S1, d1, e1, R1, q1, p1⟩ => PyProof.Rows.args_nil ?_) (star_cons hp _ _)) (star_cons hp _ _) rfl
  obtain ⟨d, h1, h2⟩ := Post.giv p1
  cases d1 <;> first | (simp [nsetD] at h1; done) | skip
  rename_i l
  simp only [nsetD] at h1
  split at h1
  case isFalse => cases h1
  rename_i hl
  cases h1
  obtain ⟨b, xs, rfl, hb2, t2⟩ := rp_lists R1 q1
  obtain ⟨ks, rfl, k2, k3⟩ := places_at t2 hl.1
  cases r1
  obtain ⟨its, rv, pl, hz⟩ := I1.list (SqL.of hb2)
  have hu := uniq_keys l hl.1
  have hk : ∀ p ∈ ks, DS.Kt X.prog X.w s1.heap p.2 p.1 := fun p hpk => by
    obtain ⟨u, i, e2, st⟩ := k3 p hpk
    rw [e2]
    refine kt_of I1 ?_
    rw [C.K]
    exact same_sqT R1.sub st
  have inU : ∀ p ∈ ks, p.2 ∈ uK (l.map keysOf) := fun p hpk => (uK_mem _ _).mpr (by rw [k2]; exact List.mem_map.mpr ⟨p, hpk, rfl⟩)
  have ulen : (uK (l.map keysOf)).length = (uniq l).length := by rw [← hu, List.length_map]
  refine DS.set_kt ks (I1.ok.hd C.calm) pl.isList (by simpa using refs_at rv) hk (uK (l.map keysOf)) inU (by rw [ulen]; exact hl.2) (by have := C.un; omega) fun h' tk L' es ep t K' hH keep => ?_
  have lenL : L'.length = (uniq l).length := by
    have a1 := DS.nodup_fit (L'.map (·.2)) (uK (l.map keysOf)) K'.one fun y hy => by
      obtain ⟨p, hpm, rfl⟩ := List.mem_map.mp hy
      exact inU p (hH.1 p hpm)
    have a2 := DS.nodup_fit (uK (l.map keysOf)) (L'.map (·.2)) (uK_nodup _) fun y hy => by
      have := (uK_mem _ _).mp hy
      rw [k2] at this
      obtain ⟨p, hpm, rfl⟩ := List.mem_map.mp this
      exact hH.2 p hpm
    rw [List.length_map] at a1 a2
    omega
  refine PyProof.Rows.args_nil ?_
  obtain ⟨o, ho, hex, hd⟩ := K'.obj
  have I2 : Inv X pins σ H1 { s1 with heap := h', toks := tk } := I1.kept fun b o e => keep b o e
  have num := DS.ents_num K'.ents
  have few := K'.few
  refine call_len_set ho hex hd (K'.fit (s := { s1 with heap := h', toks := tk })) (by omega) ⟨.int (uniq l).length, H1, I2.tok _, ⟨_, by rw [num, lenL]⟩, ?_⟩
  exact h2 F1 _ H1 (Same.refl _) R1 (.int _)
end
end DL

/-! To run data terms by simp: what comes later stands under-applied, and is left alone until it is its turn. -/
namespace DL
open PySem
theorem str_inj (a b : String) : (Str.ofString a = Str.ofString b) = (a = b) := by
  apply propext
  refine ⟨fun h => ?_, fun h => by rw [h]⟩
  rw [Str.ofString_eq_toList, Str.ofString_eq_toList] at h
  have h1 : a.toList.map Char.toNat = b.toList.map Char.toNat := by
    have h2 := congrArg (fun z : Str => z.cps.toList) h
    simpa using h2
  have inj : ∀ {l m : List Char}, l.map Char.toNat = m.map Char.toNat → l = m := by
    intro l
    induction l with
    | nil => intro m h; cases m with
      | nil => rfl
      | cons x m => cases h
    | cons c l ih => intro m h; cases m with
      | nil => cases h
      | cons x m =>
        rw [List.map_cons, List.map_cons] at h
        obtain ⟨e1, e2⟩ := List.cons.inj h
        have e3 : c = x := by
          apply Char.ext
          apply UInt32.toNat_inj.mp
          exact e1
        rw [e3, ih e2]
  have h3 := inj h1
  have h4 : String.ofList a.toList = String.ofList b.toList := by rw [h3]
  simpa using h4
theorem str_beq (a b : String) : (Str.ofString a == Str.ofString b) = decide (a = b) := by
  rw [Bool.eq_iff_iff]
  simp [str_inj]
/-- decided by a Bool -/
def pick {A : Type} (c : Bool) (a b : A) : A := if c then a else b
@[simp] theorem pick_t {A : Type} (a b : A) : pick true a b = a := rfl
@[simp] theorem pick_f {A : Type} (a b : A) : pick false a b = b := rfl
section
variable {A B : Type}
def kGiv (f : D → Option D) (x : D) (S : Store) : M U := giv (f x) S
def k2 (f : Store → M U) (g : D → D → Option D) (x : D) (S : Store) : M U := bnD (f S) (kGiv (g x))
def kNeg (x : D) (S : Store) : M U := match x with
  | .int i => some (.ok (.d (.int (-i))) S)
  | _ => none
def kNot (x : D) (S : Store) : M U := match x with
  | .bl b => some (.ok (.d (.bl (!b))) S)
  | _ => none
def kAnd (f : Store → M U) (x : D) (S : Store) : M U := match x with
  | .bl b => pick b (f S) (some (.ok (.d (.bl false)) S))
  | _ => none
def kOr (f : Store → M U) (x : D) (S : Store) : M U := match x with
  | .bl b => pick b (some (.ok (.d (.bl true)) S)) (f S)
  | _ => none
def kIf (f g : Store → A) (c : Bool) (S : Store) : A := pick c (f S) (g S)
def kCh2 (f : Store → M U) (p : Cop) (y : D) (S : Store) (c : Option Bool) : M U := match c with
  | some b => pick b (bnD (f S) (kGiv fun z => (cmpD p y z).map .bl)) (some (.ok (.d (.bl false)) S))
  | none => none
def kCh1 (f : Store → M U) (o p : Cop) (x y : D) (S : Store) : M U := kCh2 f p y S (cmpD o x y)
def kCh (f g : Store → M U) (o p : Cop) (x : D) (S : Store) : M U := bnD (f S) (kCh1 g o p x)
def kIx2 (u : U) (y : D) (S : Store) : M U := match u with
  | .d x => giv (ixD x y) S
  | .loc n => (match S[n]?, y with
    | some (.lst l), .int i => giv (at_ l i) S
    | _, _ => none)
def kIx (f : Store → M U) (u : U) (S : Store) : M U := bnD (f S) (kIx2 u)
def kSl3 (x : D) (l h : Option Int) (S : Store) : M U := giv (slD x l h) S
def kSl2 (f : Store → M (Option Int)) (x : D) (l : Option Int) (S : Store) : M U := bnd (f S) (kSl3 x l)
def kSl (f g : Store → M (Option Int)) (x : D) (S : Store) : M U := bnd (f S) (kSl2 g x)
def kTup (us : List U) (S : Store) : M U := match lst1 us with
  | some l => if l.length ≤ line then some (.ok (.d (.tup l)) S) else none
  | none => none
def kLst (us : List U) (S : Store) : M U := match lst1 us with
  | some l => if l.length ≤ line then some (.ok (.d (.lst l)) S) else none
  | none => none
def kCel (us : List U) (S : Store) : M U := match lst1 us with
  | some l => if l.length ≤ line then some (.ok (.loc S.length) (S ++ [.lst l])) else none
  | none => none
def kCat2 (x y : D) (S : Store) : M U := match x, y with
  | .lst l, .lst m => if l.length + m.length ≤ line then some (.ok (.loc S.length) (S ++ [.lst (l ++ m)])) else none
  | _, _ => none
def kCat (f : Store → M U) (x : D) (S : Store) : M U := bnD (f S) (kCat2 x)
def kMap (ks : List Str) (us : List U) (S : Store) : M U := match lst1 us with
  | some l => if l.length = ks.length ∧ ks.length ≤ 15 then some (.ok (.d (.map (ks.zip l))) S) else none
  | none => none
def kFn (f : List U → Store → M U) (us : List U) (S : Store) : M U := f us S
def kMkd2 (k : Nat) (m : M U) : M U := match m with
  | some (.ok (.d .non) S2) => (match S2[k]? with
    | some (.ins 0 [(x, .dat t)]) => if x = ("told" : Str) then some (.ok (.d (.drv t)) (S2.take k)) else none
    | _ => none)
  | some (.ex x S2) => some (.ex x (S2.take k))
  | _ => none
def kMkd (f : List U → Store → M U) (us : List U) (S : Store) : M U := kMkd2 S.length (f (.loc S.length :: us) (S ++ [.ins 0 []]))
def kProp (f : List U → Store → M U) (x : D) (S : Store) : M U := match x with
  | .drv t => noX (f [.d (.drv t)] S)
  | _ => none
def kFld (nc : Nat) (x : Str) (u : U) (S : Store) : M U := match u with
  | .loc n => (match S[n]? with
    | some (.ins c fs) => (match fs.lookup x with
      | some (.dat d) => if c < nc then some (.ok (.d d) S) else none
      | _ => none)
    | _ => none)
  | .d (.drv t) => if x = ("told" : Str) ∧ 0 < nc then some (.ok (.d t) S) else none
  | _ => none
def kBi (b : Bi) (us : List U) (S : Store) : M U := giv (biU b us S) S
def kIsi (t : Ty) (x : D) (S : Store) : M U := some (.ok (.d (.bl (isiD t x))) S)
def kApp2 (u : U) (x : D) (S : Store) : M U := match u with
  | .loc n => (match S[n]? with
    | some (.lst l) => if l.length < line then some (.ok (.d .non) (S.set n (.lst (l ++ [x])))) else none
    | _ => none)
  | _ => none
def kApp (f : Store → M U) (u : U) (S : Store) : M U := pick (isLst u S) (bnD (f S) (kApp2 u)) none
def kPop2 (u : U) (y : D) (S : Store) : M U := match u, y with
  | .loc n, .int i => (match S[n]? with
    | some (.lst l) => (match plc l.length i with
      | some j => (match l[j]? with
        | some z => if small62 i then some (.ok (.d z) (S.set n (.lst (l.eraseIdx j)))) else none
        | none => none)
      | none => none)
    | _ => none)
  | _, _ => none
def kPop (f : Store → M U) (u : U) (S : Store) : M U := pick (isLst u S) (bnD (f S) (kPop2 u)) none
def kOkL (r : List D) (S : Store) : M U := some (.ok (.d (.lst r)) S)
def kLc (f : D → Store → M (Option D)) (l : List D) (S : Store) : M U := if l.length ≤ line then bnd (walk f [] l S) kOkL else none
def kIt1 (x : D) (S : Store) : M (Option D) := some (.ok (some x) S)
def kIt2 (f : Store → M U) (c : Bool) (S : Store) : M (Option D) := pick c (bnD (f S) kIt1) (some (.ok none S))
/-- an item of a comprehension -/
def item (t : Env → Store → M Bool) (el : Env → Store → M U) (vs g : List Nat) (e : Env) (d : D) (S : Store) : M (Option D) := noX (match bindTo g d (wipeE e vs) with
  | none => none
  | some e1 => bnd (t e1 S) (kIt2 (el e1)))
def kTnot (c : Bool) (S : Store) : M Bool := some (.ok (!c) S)
def kTand (f : Store → M Bool) (c : Bool) (S : Store) : M Bool := pick c (f S) (some (.ok false S))
def kTor (f : Store → M Bool) (c : Bool) (S : Store) : M Bool := pick c (some (.ok true S)) (f S)
def oB (o : Option Bool) (S : Store) : M Bool := match o with
  | some c => some (.ok c S)
  | none => none
def kTcmp2 (o : Cop) (x y : D) (S : Store) : M Bool := oB (cmpD o x y) S
def kTcmp (f : Store → M U) (o : Cop) (x : D) (S : Store) : M Bool := bnD (f S) (kTcmp2 o x)
def kTb (d : D) (S : Store) : M Bool := match d with
  | .bl c => some (.ok c S)
  | _ => none
def kTfn (f : List U → Store → M U) (us : List U) (S : Store) : M Bool := bnD (f us S) kTb
def kTisi (t : Ty) (x : D) (S : Store) : M Bool := some (.ok (isiD t x) S)
def kTbi (b : Bi) (us : List U) (S : Store) : M Bool := match biU b us S with
  | some (.bl c) => some (.ok c S)
  | _ => none
def kL2 (u : U) (us : List U) (S : Store) : M (List U) := some (.ok (u :: us) S)
def kL (f : Store → M (List U)) (u : U) (S : Store) : M (List U) := bnd (f S) (kL2 u)
def kP (x : D) (S : Store) : M (Option Int) := match x with
  | .int i => some (.ok (some i) S)
  | _ => none
def kR1 (x : D) (S : Store) : M (List D) := match x with
  | .int j => pick (small62 j) (some (.ok (rngL 0 j) S)) none
  | _ => none
def kSeq (x : D) (S : Store) : M (List D) := match seqOf x with
  | some l => some (.ok l S)
  | none => none
def kEnum (x : D) (S : Store) : M (List D) := match seqOf x with
  | some l => some (.ok (enumL 0 l) S)
  | none => none
def kZip2 (x y : D) (S : Store) : M (List D) := match seqOf x, seqOf y with
  | some l, some m => some (.ok (zipL l m) S)
  | _, _ => none
def kZip (f : Store → M U) (x : D) (S : Store) : M (List D) := bnD (f S) (kZip2 x)
def kSet (g : List Nat) (e : Env) (u : U) (S : Store) : MS := match bindU g u e with
  | some e1 => some (.nx e1 S)
  | none => none
def kPar (g : List Nat) (e : Env) (us : List U) (S : Store) : MS := match setAll g us e with
  | some e1 => some (.nx e1 S)
  | none => none
def kAug (i : Nat) (o : Bop) (e : Env) (x : Int) (u : U) (S : Store) : MS := match o, u with
  | .add, .d (.int y) => some (.nx (e.set i (some (.d (.int (x + y))))) S)
  | .sub, .d (.int y) => some (.nx (e.set i (some (.d (.int (x - y))))) S)
  | _, _ => none
def kSi3 (e : Env) (v u y : U) (S : Store) : MS := match u, y, v with
  | .loc n, .d (.int k), .d d => (match S[n]? with
    | some (.lst l) => (match plc l.length k with
      | some j => some (.nx e (S.set n (.lst (l.set j d))))
      | none => none)
    | _ => none)
  | _, _, _ => none
def kSi2 (f : Store → M U) (e : Env) (v u : U) (S : Store) : MS := inS (f S) e (kSi3 e v u)
def kSi (f g : Store → M U) (e : Env) (v : U) (S : Store) : MS := inS (f S) e (kSi2 g e v)
def kSf2 (nc : Nat) (x : Str) (e : Env) (v u : U) (S : Store) : MS := match u, v with
  | .loc n, .d d => (match S[n]? with
    | some (.ins c fs) => if c < nc ∧ fs.length < 100 then (match fs.lookup x with
      | some (.own _) => none
      | _ => some (.nx e (S.set n (.ins c (putD x (.dat d) fs))))) else none
    | _ => none)
  | _, _ => none
def kSf (f : Store → M U) (nc : Nat) (x : Str) (e : Env) (v : U) (S : Store) : MS := inS (f S) e (kSf2 nc x e v)
def kEx (e : Env) (u : U) (S : Store) : MS := some (.nx e S)
def kRet (u : U) (S : Store) : MS := some (.rt u S)
def kLoop (g : List Nat) (f : Env → Store → MS) (e : Env) (l : List D) (S : Store) : MS := loopS g f l e S
end
section
variable (Γ : Ev) (e : Env) (S : Store)
theorem ev_int (i : Int) : evE Γ (.int i) e S = some (.ok (.d (.int i)) S) := rfl
theorem ev_str (i : Str) : evE Γ (.str i) e S = some (.ok (.d (.str i)) S) := rfl
theorem ev_bl (i : Bool) : evE Γ (.bl i) e S = some (.ok (.d (.bl i)) S) := rfl
theorem ev_non : evE Γ .non e S = some (.ok (.d .non) S) := rfl
def kVar (o : Option (Option U)) (S : Store) : M U := match o with
  | some (some u) => some (.ok u S)
  | _ => none
theorem ev_var (i : Nat) : evE Γ (.var i) e S = kVar e[i]? S := rfl
theorem ev_con (k : Nat) : evE Γ (.con k) e S = some (.ok (.d (Γ.con k)) S) := rfl
theorem ev_bop (o : Bop) (a b : E) : evE Γ (.bop o a b) e S = bnD (evE Γ a e S) (k2 (evE Γ b e) (bopD o)) := rfl
theorem ev_neg (a : E) : evE Γ (.neg a) e S = bnD (evE Γ a e S) kNeg := rfl
def cmpO (o : Cop) (x y : D) : Option D := (cmpD o x y).map .bl
theorem ev_cmp (o : Cop) (a b : E) : evE Γ (.cmp o a b) e S = bnD (evE Γ a e S) (k2 (evE Γ b e) (cmpO o)) := rfl
theorem ev_chain (o p : Cop) (a b c : E) : evE Γ (.chain o p a b c) e S = bnD (evE Γ a e S) (kCh (evE Γ b e) (evE Γ c e) o p) := by
  rw [evE]
  congr 1
  funext x S1
  unfold kCh
  congr 1
  funext y S2
  unfold kCh1 kCh2
  cases cmpD o x y with
  | none => rfl
  | some b => cases b <;> rfl
theorem ev_not (a : E) : evE Γ (.not a) e S = bnD (evE Γ a e S) kNot := rfl
theorem ev_and (a b : E) : evE Γ (.and a b) e S = bnD (evE Γ a e S) (kAnd (evE Γ b e)) := by
  rw [evE]
  congr 1
  funext x S1
  cases x <;> first | rfl | skip
  rename_i c
  cases c <;> rfl
theorem ev_or (a b : E) : evE Γ (.or a b) e S = bnD (evE Γ a e S) (kOr (evE Γ b e)) := by
  rw [evE]
  congr 1
  funext x S1
  cases x <;> first | rfl | skip
  rename_i c
  cases c <;> rfl
theorem ev_ite (t a b : E) : evE Γ (.ite t a b) e S = bnd (evT Γ t e S) (kIf (evE Γ a e) (evE Γ b e)) := rfl
theorem ev_ix (a i : E) : evE Γ (.ix a i) e S = bnd (evE Γ a e S) (kIx (evE Γ i e)) := rfl
theorem ev_sl (a l h : E) : evE Γ (.sl a l h) e S = bnD (evE Γ a e S) (kSl (evP Γ l e) (evP Γ h e)) := rfl
theorem ev_tup (es : E) : evE Γ (.tup es) e S = bnd (evL Γ es e S) kTup := rfl
theorem ev_lst (es : E) : evE Γ (.lst es) e S = bnd (evL Γ es e S) kLst := rfl
theorem ev_cel (es : E) : evE Γ (.cel es) e S = bnd (evL Γ es e S) kCel := rfl
theorem ev_catc (a b : E) : evE Γ (.catc a b) e S = bnD (evE Γ a e S) (kCat (evE Γ b e)) := rfl
theorem ev_map (ks : List Str) (es : E) : evE Γ (.map ks es) e S = bnd (evL Γ es e S) (kMap ks) := rfl
theorem ev_call (f : Nat) (es : E) : evE Γ (.call f es) e S = bnd (evL Γ es e S) (kFn (Γ.fn f)) := rfl
theorem ev_mkd (f : Nat) (es : E) : evE Γ (.mkd f es) e S = bnd (evL Γ es e S) (kMkd (Γ.fn f)) := rfl
theorem ev_prop (f : Nat) (a : E) : evE Γ (.prop f a) e S = bnD (evE Γ a e S) (kProp (Γ.fn f)) := rfl
theorem ev_fld (a : E) (x : Str) : evE Γ (.fld a x) e S = bnd (evE Γ a e S) (kFld Γ.nc x) := rfl
theorem ev_bi (b : Bi) (es : E) : evE Γ (.bi b es) e S = bnd (evL Γ es e S) (kBi b) := rfl
theorem ev_isi (t : Ty) (a : E) : evE Γ (.isi t a) e S = bnD (evE Γ a e S) (kIsi t) := rfl
theorem ev_cix (k : Nat) (a : E) : evE Γ (.cix k a) e S = bnD (evE Γ a e S) (kGiv (cixD (Γ.con k))) := rfl
theorem ev_app (o a : E) : evE Γ (.app o a) e S = bnd (evE Γ o e S) (kApp (evE Γ a e)) := rfl
theorem ev_popa (o a : E) : evE Γ (.popa o a) e S = bnd (evE Γ o e S) (kPop (evE Γ a e)) := rfl
theorem ev_lc (vs : List Nat) (it : E) (g : List Nat) (t el : E) : evE Γ (.lc vs it g t el) e S = bnd (evI Γ it e S) (kLc (item (evT Γ t) (evE Γ el) vs g e)) := rfl
theorem et_yes : evT Γ .yes e S = some (.ok true S) := rfl
theorem et_not (a : E) : evT Γ (.not a) e S = bnd (evT Γ a e S) kTnot := rfl
theorem et_and (a b : E) : evT Γ (.and a b) e S = bnd (evT Γ a e S) (kTand (evT Γ b e)) := rfl
theorem et_or (a b : E) : evT Γ (.or a b) e S = bnd (evT Γ a e S) (kTor (evT Γ b e)) := rfl
theorem et_ite (t a b : E) : evT Γ (.ite t a b) e S = bnd (evT Γ t e S) (kIf (evT Γ a e) (evT Γ b e)) := rfl
theorem et_cmp (o : Cop) (a b : E) : evT Γ (.cmp o a b) e S = bnD (evE Γ a e S) (kTcmp (evE Γ b e) o) := rfl
theorem et_call (f : Nat) (es : E) : evT Γ (.call f es) e S = bnd (evL Γ es e S) (kTfn (Γ.fn f)) := rfl
theorem et_isi (t : Ty) (a : E) : evT Γ (.isi t a) e S = bnD (evE Γ a e S) (kTisi t) := rfl
theorem et_bi (b : Bi) (es : E) : evT Γ (.bi b es) e S = bnd (evL Γ es e S) (kTbi b) := rfl
def kTvar (o : Option (Option U)) (S : Store) : M Bool := match o with
  | some (some (.d (.bl c))) => some (.ok c S)
  | _ => none
theorem et_var (i : Nat) : evT Γ (.var i) e S = kTvar e[i]? S := rfl
theorem el_nil : evL Γ .nil e S = some (.ok [] S) := rfl
theorem el_cons (a r : E) : evL Γ (.cons a r) e S = bnd (evE Γ a e S) (kL (evL Γ r e)) := rfl
theorem ep_nil : evP Γ .nil e S = some (.ok none S) := rfl
theorem ep_cons (a r : E) : evP Γ (.cons a r) e S = bnD (evE Γ a e S) kP := rfl
theorem ei_rng1 (a : E) : evI Γ (.rng1 a) e S = bnD (evE Γ a e S) kR1 := rfl
theorem ei_seq (a : E) : evI Γ (.cons a .nil) e S = bnD (evE Γ a e S) kSeq := rfl
theorem ei_enum (a : E) : evI Γ (.enum a) e S = bnD (evE Γ a e S) kEnum := rfl
theorem ei_zip (a b : E) : evI Γ (.zip a b) e S = bnD (evE Γ a e S) (kZip (evE Γ b e)) := rfl
theorem es_nop : evS Γ .nop e S = some (.nx e S) := rfl
theorem es_seq (a b : Stm) : evS Γ (.seq a b) e S = bndS (evS Γ a e S) (evS Γ b) := rfl
theorem es_asg (g : List Nat) (a : E) : evS Γ (.asg g a) e S = inS (evE Γ a e S) e (kSet g e) := rfl
theorem es_par (g : List Nat) (a : E) : evS Γ (.par g a) e S = inS (evL Γ a e S) e (kPar g e) := rfl
def kAug0 (o : Option (Option U)) (m : M U) (k : Int → U → Store → MS) (e : Env) : MS := match o with
  | some (some (.d (.int x))) => inS m e (k x)
  | _ => none
theorem es_aug (i : Nat) (o : Bop) (a : E) : evS Γ (.aug i o a) e S = kAug0 e[i]? (evE Γ a e S) (kAug i o e) e := rfl
theorem es_seti (o i a : E) : evS Γ (.seti o i a) e S = inS (evE Γ a e S) e (kSi (evE Γ o e) (evE Γ i e) e) := rfl
def kAi4 (b : Bop) (e : Env) (n : Nat) (k x : Int) (v : U) (S : Store) : MS := match b, v, S[n]? with
  | .add, .d (.int z), some (.lst l3) => (match plc l3.length k with
    | some j => some (.nx e (S.set n (.lst (l3.set j (.int (x + z))))))
    | none => none)
  | .sub, .d (.int z), some (.lst l3) => (match plc l3.length k with
    | some j => some (.nx e (S.set n (.lst (l3.set j (.int (x - z))))))
    | none => none)
  | _, _, _ => none
def kAi3 (f : Store → M U) (b : Bop) (e : Env) (u y : U) (S : Store) : MS := match u, y with
  | .loc n, .d (.int k) => (match S[n]? with
    | some (.lst l) => (match at_ l k with
      | some (.int x) => inS (f S) e (kAi4 b e n k x)
      | _ => none)
    | _ => none)
  | _, _ => none
def kAi2 (f g : Store → M U) (b : Bop) (e : Env) (u : U) (S : Store) : MS := inS (f S) e (kAi3 g b e u)
theorem es_augi (o i : E) (b : Bop) (a : E) : evS Γ (.augi o i b a) e S = inS (evE Γ o e S) e (kAi2 (evE Γ i e) (evE Γ a e) b e) := rfl
theorem es_setf (o : E) (x : Str) (a : E) : evS Γ (.setf o x a) e S = inS (evE Γ a e S) e (kSf (evE Γ o e) Γ.nc x e) := rfl
theorem es_ex (a : E) : evS Γ (.ex a) e S = inS (evE Γ a e S) e (kEx e) := rfl
theorem es_ret (a : E) : evS Γ (.ret a) e S = inS (evE Γ a e S) e kRet := rfl
theorem es_retN : evS Γ .retN e S = some (.rt (.d .non) S) := rfl
theorem es_whil (n : Nat) (t : E) (b : Stm) : evS Γ (.whil n t b) e S = whilS (evT Γ t) (evS Γ b) n e S := rfl
theorem es_ite (t : E) (a b : Stm) : evS Γ (.ite t a b) e S = inS (evT Γ t e S) e (kIf (evS Γ a e) (evS Γ b e)) := rfl
theorem es_loop (it : E) (g : List Nat) (b : Stm) : evS Γ (.loop it g b) e S = inS (evI Γ it e S) e (kLoop g (evS Γ b) e) := rfl
def kFrz (i : Nat) (e : Env) (S : Store) (o : Option (Option U)) : MS := match o with
  | some (some (.loc n)) => (match S[n]? with
    | some (.lst l) => some (.nx (e.set i (some (.d (.lst l)))) (S.set n .dead))
    | _ => none)
  | _ => none
theorem es_frz (i : Nat) : evS Γ (.frz i) e S = kFrz i e S e[i]? := rfl
end
section
variable (Γ : Ev) (e : Env) (S : Store)
def kRais (c : Nat) (xs : List Str) (e : Env) (us : List U) (S : Store) : MS := match lst1 us with
  | some l => if l.length = xs.length then some (.ex ⟨c, xs.zip l⟩ e S) else none
  | none => none
theorem es_rais (c : Nat) (xs : List Str) (es : E) : evS Γ (.rais c xs es) e S = inS (evL Γ es e S) e (kRais c xs e) := rfl
def kTri (f : Xn → Env → Store → MS) (m : MS) : MS := match m with
  | some (.ex x e1 S1) => if x.c < 8 then f x e1 S1 else none
  | r => r
theorem kTri_ex (f : Xn → Env → Store → MS) (x : Xn) (e1 : Env) (S1 : Store) : kTri f (some (.ex x e1 S1)) = if x.c < 8 then f x e1 S1 else none := rfl
theorem kTri_nx (f : Xn → Env → Store → MS) (e1 : Env) (S1 : Store) : kTri f (some (.nx e1 S1)) = some (.nx e1 S1) := rfl
theorem kTri_rt (f : Xn → Env → Store → MS) (u : U) (S1 : Store) : kTri f (some (.rt u S1)) = some (.rt u S1) := rfl
theorem es_tri (b h : Stm) : evS Γ (.tri b h) e S = kTri (evH Γ h) (evS Γ b e S) := rfl
theorem eh_hand (c : Nat) (b r : Stm) (x : Xn) : evH Γ (.hand c b r) x e S = if x.c = c then noXS (evS Γ b e S) else evH Γ r x e S := rfl
theorem eh_handX (c j t : Nat) (z : EX) (r : Stm) (x : Xn) : evH Γ (.handX c j t z r) x e S = if x.c = c then (if j < e.length then (match evX x.fs z with
    | some d => some (.nx ((e.set t (some (.d d))).set j none) S)
    | none => none) else none) else evH Γ r x e S := rfl
theorem eh_nop (x : Xn) : evH Γ .nop x e S = some (.ex x e S) := rfl
end
def kRn2 (x : D) (y : D) (S : Store) : M (List D) := match x, y with
  | .int i, .int j => pick (small62 i && small62 j) (some (.ok (rngL i j) S)) none
  | _, _ => none
def kRn (f : Store → M U) (x : D) (S : Store) : M (List D) := bnD (f S) (kRn2 x)
def kRev (x : D) (S : Store) : M U := match x with
  | .tup l => some (.ok (.d (.tup l.reverse)) S)
  | _ => none
def kLeno (c : Nat) (fn : List U → Store → M U) (u : U) (S : Store) : M U := if insOk c "__len__" u S then (match noX (fn [u] S) with
    | some (.ok (.d (.int n)) S2) => if 0 ≤ n ∧ n < 2 ^ 63 then some (.ok (.d (.int n)) S2) else none
    | _ => none) else none
def kEqo2 (fn : Nat → List U → Store → M U) (f : Nat) (u v : D) (S : Store) : M U := match eqO fn f u v S with
  | some (.ok c S3) => some (.ok (.d (.bl c)) S3)
  | _ => none
def kEqo (g : Store → M U) (fn : Nat → List U → Store → M U) (f : Nat) (u : D) (S : Store) : M U := bnD (g S) (kEqo2 fn f u)
def kTeqo2 (fn : Nat → List U → Store → M U) (f : Nat) (u v : D) (S : Store) : M Bool := match eqO fn f u v S with
  | some (.ok c S3) => some (.ok c S3)
  | _ => none
def kTeqo (g : Store → M U) (fn : Nat → List U → Store → M U) (f : Nat) (u : D) (S : Store) : M Bool := bnD (g S) (kTeqo2 fn f u)
section
variable (Γ : Ev) (e : Env) (S : Store)
theorem ei_rng2 (a b : E) : evI Γ (.rng2 a b) e S = bnD (evE Γ a e S) (kRn (evE Γ b e)) := rfl
theorem ev_rev (a : E) : evE Γ (.rev a) e S = bnD (evE Γ a e S) kRev := rfl
theorem ev_srt (a : E) : evE Γ (.srt a) e S = bnD (evE Γ a e S) (kGiv srtD) := rfl
theorem ev_leno (c f : Nat) (a : E) : evE Γ (.leno c f a) e S = bnd (evE Γ a e S) (kLeno c (Γ.fn f)) := rfl
theorem ev_eqo (f : Nat) (a b : E) : evE Γ (.eqo f a b) e S = bnD (evE Γ a e S) (kEqo (evE Γ b e) Γ.fn f) := rfl
theorem et_eqo (f : Nat) (a b : E) : evT Γ (.eqo f a b) e S = bnD (evE Γ a e S) (kTeqo (evE Γ b e) Γ.fn f) := rfl
def kSdef3 (u : U) (y : D) (d : D) (S3 : Store) : M U := match u, y with
  | .loc n, .bl b => (match S3[n]? with
    | some (.bdc kvs) => (match kvs.lookup b with
      | some z => some (.ok (.d z) S3)
      | none => some (.ok (.d d) (S3.set n (.bdc (kvs ++ [(b, d)])))))
    | _ => none)
  | _, _ => none
def kSdef2 (f : Store → M U) (u : U) (y : D) (S : Store) : M U := bnD (f S) (kSdef3 u y)
def kSdef (f g : Store → M U) (u : U) (S : Store) : M U := pick (isBdc u S) (bnD (f S) (kSdef2 g u)) none
def kBget2 (u : U) (y : D) (S2 : Store) : M U := match u, y with
  | .loc n, .bl b => (match S2[n]? with
    | some (.bdc kvs) => some (.ok (.d ((kvs.lookup b).getD .non)) S2)
    | _ => none)
  | _, _ => none
def kBget (f : Store → M U) (u : U) (S : Store) : M U := pick (isBdc u S) (bnD (f S) (kBget2 u)) none
theorem ev_bdn : evE Γ .bdn e S = some (.ok (.loc S.length) (S ++ [.bdc []])) := rfl
theorem ev_sdef (a k v : E) : evE Γ (.sdef a k v) e S = bnd (evE Γ a e S) (kSdef (evE Γ k e) (evE Γ v e)) := rfl
theorem ev_bget (a k : E) : evE Γ (.bget a k) e S = bnd (evE Γ a e S) (kBget (evE Γ k e)) := rfl
def kTx (g : D → D → Option D) (f : Store → M U) (x : D) (S : Store) : M U := pick (isiD .str x) (bnD (f S) (kGiv (g x))) none
theorem ev_join (a b : E) : evE Γ (.join a b) e S = bnD (evE Γ a e S) (kTx joinD (evE Γ b e)) := rfl
theorem ev_split (a b : E) : evE Γ (.split a b) e S = bnD (evE Γ a e S) (kTx splitD (evE Γ b e)) := rfl
theorem ev_nset (a : E) : evE Γ (.nset a) e S = bnD (evE Γ a e S) (kGiv nsetD) := rfl
def kMkc2 (k : Nat) (m : M U) : M U := match m with
  | some (.ok (.d .non) S2) => some (.ok (.loc k) S2)
  | some (.ex x S2) => some (.ex x (S2.take k))
  | _ => none
def kMkc (c : Nat) (f : List U → Store → M U) (us : List U) (S : Store) : M U := kMkc2 S.length (f (.loc S.length :: us) (S ++ [.ins c []]))
theorem ev_mkc (c f : Nat) (es : E) : evE Γ (.mkc c f es) e S = bnd (evL Γ es e S) (kMkc c (Γ.fn f)) := rfl
def kMeth2 (f : List U → Store → M U) (u : U) (us : List U) (S : Store) : M U := f (u :: us) S
def kMeth (c : Nat) (m : Str) (g : Store → M (List U)) (f : List U → Store → M U) (u : U) (S : Store) : M U := pick (insOk c m u S) (bnd (g S) (kMeth2 f u)) none
theorem ev_meth (c f : Nat) (m : Str) (a es : E) : evE Γ (.meth c f m a es) e S = bnd (evE Γ a e S) (kMeth c m (evL Γ es e) (Γ.fn f)) := rfl
def kFapp2 (x : Str) (u : U) (S1 : Store) (d : D) (S2 : Store) : M U := pick (sameO u S1 S2) (match ownL x u S2 with
  | some l => if l.length < line then some (.ok (.d .non) (ownW x u S2 (l ++ [d]))) else none
  | none => none) none
def kFapp (nc : Nat) (x : Str) (g : Store → M U) (u : U) (S1 : Store) : M U := pick (ownB nc x u S1) (bnD (g S1) (kFapp2 x u S1)) none
theorem ev_fapp (a v : E) (x : Str) : evE Γ (.fapp a x v) e S = bnd (evE Γ a e S) (kFapp Γ.nc x (evE Γ v e)) := rfl
def kFpop (nc : Nat) (x : Str) (u : U) (S1 : Store) : M U := pick (ownB nc x u S1) (match ownL x u S1 with
  | some l => (match l[l.length - 1]? with
    | some y => some (.ok (.d y) (ownW x u S1 l.dropLast))
    | none => none)
  | none => none) none
theorem ev_fpop (a : E) (x : Str) : evE Γ (.fpop a x) e S = bnd (evE Γ a e S) (kFpop Γ.nc x) := rfl
def kFix2 (x : Str) (u : U) (S1 : Store) (y : D) (S2 : Store) : M U := pick (sameO u S1 S2) (match ownL x u S2, y with
  | some l, .int j => giv (at_ l j) S2
  | _, _ => none) none
def kFix (nc : Nat) (x : Str) (g : Store → M U) (u : U) (S1 : Store) : M U := pick (ownB nc x u S1) (bnD (g S1) (kFix2 x u S1)) none
theorem ev_fix (a i : E) (x : Str) : evE Γ (.fix a x i) e S = bnd (evE Γ a e S) (kFix Γ.nc x (evE Γ i e)) := rfl
def kFlen (nc : Nat) (x : Str) (u : U) (S1 : Store) : M U := pick (ownB nc x u S1) (match ownL x u S1 with
  | some l => some (.ok (.d (.int l.length)) S1)
  | none => none) none
theorem ev_flen (a : E) (x : Str) : evE Γ (.flen a x) e S = bnd (evE Γ a e S) (kFlen Γ.nc x) := rfl
def kFtup (nc : Nat) (x : Str) (u : U) (S1 : Store) : M U := pick (ownB nc x u S1) (match ownL x u S1 with
  | some l => some (.ok (.d (.tup l)) S1)
  | none => none) none
theorem ev_ftup (a : E) (x : Str) : evE Γ (.ftup a x) e S = bnd (evE Γ a e S) (kFtup Γ.nc x) := rfl
def kTfeq0 (nc : Nat) (x : Str) (u : U) (S1 : Store) : M Bool := pick (ownB nc x u S1) (match ownL x u S1 with
  | some l => if okDs 49 l then some (.ok l.isEmpty S1) else none
  | none => none) none
theorem et_feq0 (a : E) (x : Str) : evT Γ (.feq0 a x) e S = bnd (evE Γ a e S) (kTfeq0 Γ.nc x) := rfl
def kSo2 (nc : Nat) (x : Str) (k : Nat) (e : Env) (u : U) (S2 : Store) : MS := match u with
  | .loc n => (match S2[n]?, S2[k]? with
    | some (.ins c fs), some (.lst l2) => if c < nc ∧ fs.length < 100 then (match fs.lookup x with
      | none => some (.nx e ((S2.set k .dead).set n (.ins c (putD x (.own l2) fs))))
      | _ => none) else none
    | _, _ => none)
  | _ => none
def kSo (nc : Nat) (x : Str) (g : Store → M U) (e : Env) (us : List U) (S1 : Store) : MS := match lst1 us with
  | some l => if l.length ≤ line then inS (g (S1 ++ [.lst l])) e (kSo2 nc x S1.length e) else none
  | none => none
theorem es_seto (o es : E) (x : Str) : evS Γ (.seto o x es) e S = inS (evL Γ es e S) e (kSo Γ.nc x (evE Γ o e) e) := rfl
def kAf2 (x : Str) (n c : Nat) (y : Int) (e : Env) (v : U) (S2 : Store) : MS := match v, S2[n]? with
  | .d (.int z), some (.ins c2 fs2) => if c2 = c ∧ fs2.length < 100 then (match fs2.lookup x with
      | some (.dat _) => some (.nx e (S2.set n (.ins c (putD x (.dat (.int (y + z))) fs2))))
      | _ => none) else none
  | _, _ => none
def kAf (nc : Nat) (x : Str) (g : Store → M U) (e : Env) (u : U) (S1 : Store) : MS := match u with
  | .loc n => (match S1[n]? with
    | some (.ins c fs) => if c < nc then (match fs.lookup x with
      | some (.dat (.int y)) => inS (g S1) e (kAf2 x n c y e)
      | _ => none) else none
    | _ => none)
  | _ => none
theorem es_augf (o a : E) (x : Str) : evS Γ (.augf o x .add a) e S = inS (evE Γ o e S) e (kAf Γ.nc x (evE Γ a e) e) := by
  rw [evS]
  congr 1
  funext u S1
  unfold kAf
  cases u with
  | d _ => rfl
  | loc n =>
    simp only
    cases S1[n]? with
    | none => rfl
    | some cc =>
      cases cc with
      | ins c fs =>
        simp only
        by_cases h : c < Γ.nc
        · rw [if_pos h, if_pos h]
          cases fs.lookup x with
          | none => rfl
          | some f =>
            cases f with
            | own _ => rfl
            | dat d =>
              cases d <;> first | rfl | skip
              rename_i y
              simp only
              congr 1
              funext v S2
              unfold kAf2
              cases v with
              | loc _ => cases S2[n]? <;> rfl
              | d d2 =>
                cases d2 <;> first | (cases S2[n]? <;> rfl) | skip
                rename_i z
                cases S2[n]? with
                | none => rfl
                | some c2 => cases c2 <;> rfl
        · rw [if_neg h, if_neg h]
      | _ => rfl
/-- a turn of the inner walk, of the outer one -/
def inW (Γ : Ev) (n : Nat) (vs1 g1 : List Nat) (t1 el : E) (e1 : Env) : D → Store → M Unit := fun d1 S5 => noX (match bindTo g1 d1 (wipeE e1 vs1) with
  | none => none
  | some e2 => bnd (evT Γ t1 e2 S5) fun c1 S6 => if c1 then bnD (evE Γ el e2 S6) fun x S7 => (match S7[n]? with
      | some (.lst acc) => if acc.length < line then some (.ok () (S7.set n (.lst (acc ++ [x])))) else none
      | _ => none) else some (.ok () S6))
def outW (Γ : Ev) (n : Nat) (vs g : List Nat) (t : E) (vs1 : List Nat) (it1 : E) (g1 : List Nat) (t1 el : E) (e : Env) : D → Store → M Unit := fun d S2 => noX (match bindTo g d (wipeE e vs) with
  | none => none
  | some e1 => bnd (evT Γ t e1 S2) fun c S3 => if c then bnd (evI Γ it1 e1 S3) fun l1 S4 => walks (inW Γ n vs1 g1 t1 el e1) l1 S4 else some (.ok () S3))
def kLc2b (n : Nat) (_ : Unit) (S8 : Store) : M U := match S8[n]? with
  | some (.lst r) => some (.ok (.d (.lst r)) (S8.take n))
  | _ => none
def kLc2 (f : Nat → D → Store → M Unit) (l : List D) (S1 : Store) : M U := bnd (walks (f S1.length) l (S1 ++ [.lst []])) (kLc2b S1.length)
theorem ev_lc2 (vs : List Nat) (it : E) (g : List Nat) (t : E) (vs1 : List Nat) (it1 : E) (g1 : List Nat) (t1 el : E) : evE Γ (.lc2 vs it g t vs1 it1 g1 t1 el) e S = bnd (evI Γ it e S) (kLc2 fun n => outW Γ n vs g t vs1 it1 g1 t1 el e) := rfl
end
theorem ev_callD {Γ : Ev} {f : Nat} {es : E} {e : Env} {S S1 : Store} {us : List U} {r : M U} (h : evL Γ es e S = some (.ok us S1)) (h2 : Γ.fn f us S1 = r) : evE Γ (.call f es) e S = r := by
  rw [ev_call, h, bnd_ok]
  exact h2
theorem et_callD {Γ : Ev} {f : Nat} {es : E} {e : Env} {S S1 S2 : Store} {us : List U} {b : Bool} (h : evL Γ es e S = some (.ok us S1)) (h2 : Γ.fn f us S1 = some (.ok (.d (.bl b)) S2)) : evT Γ (.call f es) e S = some (.ok b S2) := by
  rw [et_call, h, bnd_ok]
  unfold kTfn
  rw [h2]
  rfl
theorem el_two {Γ : Ev} {a b : E} {e : Env} {S S1 S2 : Store} {u v : U} (h : evE Γ a e S = some (.ok u S1)) (h2 : evE Γ b e S1 = some (.ok v S2)) : evL Γ (.cons a (.cons b .nil)) e S = some (.ok [u, v] S2) := by
  rw [el_cons, h, bnd_ok]
  unfold kL
  rw [el_cons, h2, bnd_ok]
  rfl
theorem es_passes {Γ : Ev} {t : E} {a : Stm} {e : Env} {S S1 : Store} (h : evT Γ t e S = some (.ok true S1)) : evS Γ (.ite (.not t) a .nop) e S = some (.nx e S1) := by
  rw [es_ite, et_not, h]
  rfl
theorem ei_rngD {Γ : Ev} {a : E} {e : Env} {S S1 : Store} {j : Int} (h : evE Γ a e S = some (.ok (.d (.int j)) S1)) (hj : small62 j = true) : evI Γ (.rng1 a) e S = some (.ok (rngL 0 j) S1) := by
  rw [ei_rng1, h, bnD_ok]
  show pick (small62 j) _ _ = _
  rw [hj]
  rfl
/-- a call: its body is run -/
theorem run_at {df : Nat → Option Df} {con : Nat → D} {nc n f : Nat} {us : List U} {S : Store} {d : Df} {r : MS} (h1 : df f = some d) (h2 : us.length = d.np) (h : evS ⟨run df con nc n, con, nc⟩ d.body (start0 d us) S = r) :
    run df con nc (n + 1) f us S = fin S.length r := by
  unfold run
  rw [h1]
  simp only
  rw [if_pos h2, h]
theorem fin_d (d : D) (S T : Store) (h : T.take S.length = S) : fin S.length (some (.rt (.d d) T)) = some (.ok (.d d) S) := by
  show some (R.ok (U.d d) (T.take S.length)) = _
  rw [h]
end DL

namespace GI
open DL
/-- law k01: 0 _law_script, 1 _law_d, 2 _law_k, 3 _law_side, 4 _law_start_here, 5 _law_steps_here, 6 _law_drive, 7 _law_turn, 8 _law_land, 9 _law_rows, 10 _law_due, 11 _law_odd, 12 _law_spot, 13 _law_many -/
def ir0 : Stm := (.seq (.asg [1] (.call 1 (.cons (.var 0) (.cons (.int 951) .nil)))) (.seq (.loop (.rng1 (.int 2)) [2] (.seq (.asg [3] (.call 2 (.cons (.var 1) (.cons (.lst (.cons (.str "left") (.cons (.str "right") .nil))) .nil)))) (.seq (.asg [4] (.call 3 (.cons (.var 1) .nil))) (.seq (.asg [5] (.call 4 (.cons (.var 1) (.cons (.int 6) .nil)))) (.seq (.asg [6] (.mkd 5 (.cons (.var 3) (.cons (.var 4) (.cons (.var 5) .nil))))) (.loop (.rng1 (.int 4)) [7] (.seq (.asg [8] (.tup (.cons (.bop .add (.int 2) (.call 6 (.cons (.var 1) (.cons (.int 12) .nil)))) (.cons (.bop .add (.int 2) (.call 6 (.cons (.var 1) (.cons (.int 12) .nil)))) .nil)))) (.seq (.asg [9] (.call 7 (.cons (.var 3) (.cons (.var 4) (.cons (.var 5) (.cons (.var 8) .nil)))))) (.seq (.asg [10] (.lc [12, 13] (.cons (.var 9) .nil) [12, 13] .yes (.var 12))) (.seq (.ite (.not (.call 8 (.cons (.lst (.cons (.call 10 (.cons (.var 6) (.cons (.var 8) .nil))) (.cons (.call 9 (.cons (.var 6) (.cons (.var 8) .nil))) .nil))) (.cons (.lst (.cons (.var 10) (.cons (.ix (.var 10) (.neg (.int 1))) .nil))) .nil)))) (.ret (.bl false)) .nop) (.ite (.not (.call 8 (.cons (.call 11 (.cons (.var 6) (.cons (.var 8) .nil))) (.cons (.ix (.ix (.var 9) (.neg (.int 1))) (.int 1)) .nil)))) (.ret (.bl false)) .nop))))))))))) (.seq (.asg [11] (.lst (.cons .non (.cons (.tup (.cons (.int 1) (.cons (.int 2) .nil))) (.cons (.tup (.cons (.int 2) (.cons (.int 1) .nil))) (.cons (.tup (.cons (.int 0) (.cons (.int 5) .nil))) (.cons (.lst (.cons (.int 2) (.cons (.int 2) .nil))) (.cons (.tup (.cons (.int 2) (.cons (.int 2) (.cons (.int 2) .nil)))) (.cons (.tup (.cons (.bl true) (.cons (.int 2) .nil))) (.cons (.tup (.cons (.int 2) (.cons (.bop .add (.bop .pow (.int 10) (.int 30)) (.int 1)) .nil))) (.cons (.tup (.cons (.bop .add (.bop .pow (.int 10) (.int 30)) (.int 1)) (.cons (.int 2) .nil))) (.cons (.str "22") .nil)))))))))))) (.ret (.cmp .eq (.call 12 (.cons (.var 6) (.cons (.call 2 (.cons (.var 1) (.cons (.bop .add (.var 11) (.lst (.cons (.tup (.cons (.int 2) (.cons .non .nil))) (.cons (.tup .nil) (.cons (.tup (.cons (.int 2) .nil)) (.cons (.map [] .nil) .nil)))))) .nil))) .nil))) (.int 3))))))
/-- _law_random: 0 _law_script, 1 _law_salt, 2 _law_seed, 3 _law_cell -/
def ir1 : Stm := (.seq (.asg [2] (.var 1)) (.seq (.loop (.cons (.var 0) .nil) [3] (.asg [2] (.bop .mod (.bi .int (.cons (.bop .add (.bop .mul (.var 2) (.int 31)) (.bi .abs (.cons (.var 3) .nil))) .nil)) (.int 2147483647)))) (.ret (.catc (.lst (.cons (.var 2) (.cons (.int 0) .nil))) (.lc [3] (.cons (.var 0) .nil) [3] (.cmp .ge (.var 3) (.bop .pow (.int 10) (.int 18))) (.var 3))))))
/-- _law_pick: 0 _law_d, 1 _law_items -/
def ir2 : Stm := (.ret (.ix (.var 1) (.call 6 (.cons (.var 0) (.cons (.bi .len (.cons (.var 1) .nil)) .nil)))))
/-- _law_start: 0 _law_d -/
def ir3 : Stm := (.ret (.tup (.cons (.call 2 (.cons (.var 0) (.cons (.lst (.cons (.str "first") (.cons (.str "second") .nil))) .nil))) (.cons (.bop .sub (.call 6 (.cons (.var 0) (.cons (.int 5) .nil))) (.int 2)) .nil))))
/-- _law_steps: 0 _law_d, 1 _law_most, 2 _law_k -/
def ir4 : Stm := (.ret (.bi .tuple (.cons (.lc [2] (.rng1 (.call 6 (.cons (.var 0) (.cons (.bop .add (.var 1) (.int 1)) .nil)))) [2] .yes (.call 13 (.cons (.var 0) .nil))) .nil)))
/-- Drive.__init__: 0 self, 1 side, 2 start, 3 steps -/
def ir5 : Stm := (.seq (.ex (.call 14 (.cons (.var 1) (.cons (.var 2) .nil)))) (.seq (.ex (.call 15 (.cons (.var 3) .nil))) (.setf (.var 0) "told" (.tup (.cons (.var 1) (.cons (.var 2) (.cons (.var 3) .nil)))))))
/-- _law_below: 0 _law_d, 1 _law_size, 2 _law_result -/
def ir6 : Stm := (.seq (.ite (.and (.cmp .eq (.ix (.var 0) (.int 1)) (.int 0)) (.cmp .gt (.bi .len (.cons (.var 0) .nil)) (.int 2))) (.seti (.var 0) (.int 1) (.popa (.var 0) (.int 2))) .nop) (.seq (.ite (.cmp .gt (.ix (.var 0) (.int 1)) (.int 0)) (.seq (.asg [2] (.bop .mod (.bi .int (.cons (.ix (.var 0) (.int 1)) .nil)) (.var 1))) (.seq (.seti (.var 0) (.int 1) (.bop .fdiv (.ix (.var 0) (.int 1)) (.var 1))) (.ret (.var 2)))) .nop) (.seq (.seti (.var 0) (.int 0) (.bop .mod (.bi .int (.cons (.bop .add (.bop .mul (.ix (.var 0) (.int 0)) (.int 48271)) (.int 11)) .nil)) (.int 2147483647))) (.ret (.bop .mod (.bi .int (.cons (.bop .fdiv (.ix (.var 0) (.int 0)) (.int 64)) .nil)) (.var 1))))))
/-- _law_led: 0 _law_side, 1 _law_start_here, 2 _law_steps_here, 3 _law_land, 4 _law_numbers, 5 _law_rows, 6 _law_step_here, 7 _law_spot, 8 _law_total, 9 _law_arm, 10 _law_many, 11 _law_later -/
def ir7 : Stm := (.seq (.asg [4] (.map ["first", "second"] (.cons (.ix (.var 3) (.int 0)) (.cons (.ix (.var 3) (.int 1)) .nil)))) (.seq (.asg [5] (.cel (.cons (.tup (.cons (.tup (.cons (.ix (.var 1) (.int 0)) (.cons (.bop .mod (.ix (.var 1) (.int 1)) (.ix (.var 4) (.ix (.var 1) (.int 0)))) .nil))) (.cons (.int 0) .nil))) .nil))) (.seq (.loop (.cons (.var 2) .nil) [6] (.seq (.asg [7, 8] (.ix (.var 5) (.neg (.int 1)))) (.seq (.asg [9, 10] (.call 16 (.cons (.var 0) (.cons (.var 6) (.cons (.ix (.var 4) (.ix (.var 7) (.int 0))) (.cons (.ix (.var 7) (.int 1)) .nil)))))) (.seq (.asg [11] (.tup (.cons (.ix (.var 7) (.int 0)) (.cons (.var 9) .nil)))) (.seq (.ite (.cmp .eq (.var 9) (.int 0)) (.asg [11] (.tup (.cons (.ite (.cmp .eq (.ix (.var 7) (.int 0)) (.str "first")) (.str "second") (.str "first")) (.cons (.int 0) .nil)))) .nop) (.ex (.app (.var 5) (.tup (.cons (.var 11) (.cons (.bop .add (.var 8) (.var 10)) .nil)))))))))) (.seq (.frz 5) (.ret (.var 5))))))
/-- _law_equal: 0 _law_actual, 1 _law_expected, 2 _law_key, 3 _law_k -/
def ir8 : Stm := (.seq (.ite (.cmp .is (.var 1) .non) (.ret (.cmp .is (.var 0) .non)) .nop) (.seq (.ite (.isi .bool (.var 1)) (.ret (.and (.isi .bool (.var 0)) (.cmp .eq (.var 0) (.var 1)))) .nop) (.seq (.ite (.isi .int (.var 1)) (.ret (.and (.isi .int (.var 0)) (.and (.not (.isi .bool (.var 0))) (.cmp .eq (.var 0) (.var 1))))) .nop) (.seq (.ite (.isi .str (.var 1)) (.ret (.and (.isi .str (.var 0)) (.cmp .eq (.var 0) (.var 1)))) .nop) (.seq (.ite (.isi .dict (.var 1)) .stop .nop) (.seq (.ite (.cmp .ne (.isi .tup (.var 1)) (.isi .tup (.var 0))) (.ret (.bl false)) .nop) (.seq (.ite (.cmp .ne (.isi .lst (.var 1)) (.isi .lst (.var 0))) (.ret (.bl false)) .nop) (.seq (.ite (.cmp .ne (.bi .len (.cons (.var 0) .nil)) (.bi .len (.cons (.var 1) .nil))) (.ret (.bl false)) .nop) (.ret (.bi .all (.cons (.lc [3] (.rng1 (.bi .len (.cons (.var 1) .nil))) [3] .yes (.call 8 (.cons (.ix (.var 0) (.var 3)) (.cons (.ix (.var 1) (.var 3)) .nil)))) .nil)))))))))))
/-- place: 0 drive, 1 land -/
def ir9 : Stm := (.ret (.ix (.call 10 (.cons (.var 0) (.cons (.var 1) .nil))) (.neg (.int 1))))
/-- trace: 0 drive, 1 land -/
def ir10 : Stm := (.seq (.ex (.call 17 (.cons (.var 1) (.cons (.con 0) .nil)))) (.ret (.call 18 (.cons (.prop 21 (.var 0)) (.cons (.prop 20 (.var 0)) (.cons (.prop 19 (.var 0)) (.cons (.var 1) .nil)))))))
/-- passed: 0 drive, 1 land, 2 total, 3 here, 4 step -/
def ir11 : Stm := (.seq (.asg [2] (.int 0)) (.seq (.loop (.zip (.call 10 (.cons (.var 0) (.cons (.var 1) .nil))) (.prop 19 (.var 0))) [3, 4] (.aug 2 .add (.call 22 (.cons (.var 4) (.cons (.ix (.var 1) (.cix 1 (.ix (.var 3) (.int 0)))) .nil))))) (.ret (.var 2))))
/-- _law_bad: 0 _law_drive, 1 _law_land, 2 _law_found -/
def ir12 : Stm := (.seq (.asg [2] (.int 0)) (.seq (.tri (.ex (.call 9 (.cons (.var 0) (.cons (.var 1) .nil)))) (.hand 3 (.asg [2] (.bop .add (.var 2) (.int 1))) .nop)) (.seq (.tri (.ex (.call 10 (.cons (.var 0) (.cons (.var 1) .nil)))) (.hand 3 (.asg [2] (.bop .add (.var 2) (.int 1))) .nop)) (.seq (.tri (.ex (.call 11 (.cons (.var 0) (.cons (.var 1) .nil)))) (.hand 3 (.asg [2] (.bop .add (.var 2) (.int 1))) .nop)) (.ret (.var 2))))))
/-- _law_step: 0 _law_d, 1 _law_pick_here -/
def ir13 : Stm := (.seq (.asg [1] (.call 6 (.cons (.var 0) (.cons (.int 7) .nil)))) (.seq (.ite (.cmp .eq (.var 1) (.int 0)) (.ret (.tup (.cons (.str "same") .nil))) .nop) (.ret (.ite (.cmp .lt (.var 1) (.int 5)) (.tup (.cons (.str "on") (.cons (.bop .add (.int 1) (.call 6 (.cons (.var 0) (.cons (.int 4) .nil)))) .nil))) (.tup (.cons (.str "short") (.cons (.bop .add (.int 1) (.call 6 (.cons (.var 0) (.cons (.int 3) .nil)))) .nil)))))))
/-- need_begin: 0 side, 1 start -/
def ir14 : Stm := (.seq (.ite (.not (.call 23 (.cons (.var 0) (.cons (.con 2) .nil)))) (.rais 0 [] .nil) .nop) (.seq (.ite (.or (.not (.isi .tup (.var 1))) (.or (.cmp .ne (.bi .len (.cons (.var 1) .nil)) (.int 2)) (.not (.call 23 (.cons (.ix (.var 1) (.int 0)) (.cons (.con 1) .nil)))))) (.rais 1 [] .nil) .nop) (.ite (.not (.call 24 (.cons (.ix (.var 1) (.int 1)) (.cons (.neg (.con 3)) (.cons (.con 3) .nil))))) (.rais 1 [] .nil) .nop)))
/-- need_steps: 0 value, 1 index, 2 step -/
def ir15 : Stm := (.seq (.ite (.or (.not (.isi .tup (.var 0))) (.cmp .gt (.bi .len (.cons (.var 0) .nil)) (.con 4))) (.rais 2 ["index"] (.cons (.neg (.int 1)) .nil)) .nop) (.loop (.enum (.var 0)) [1, 2] (.ite (.not (.call 25 (.cons (.var 2) .nil))) (.rais 2 ["index"] (.cons (.var 1) .nil)) .nop)))
/-- _law_walked: 0 _law_side, 1 _law_step_here, 2 _law_arms, 3 _law_arm, 4 _law_way, 5 _law_wanted, 6 _law_many, 7 _law_here -/
def ir16 : Stm := (.seq (.asg [4] (.ite (.cmp .eq (.var 0) (.str "right")) (.int 1) (.neg (.int 1)))) (.seq (.asg [5] (.var 3)) (.seq (.ite (.cmp .eq (.ix (.var 1) (.int 0)) (.str "short")) (.asg [5] (.bop .mod (.bop .sub (.var 3) (.bop .mul (.var 4) (.ix (.var 1) (.int 1)))) (.var 2))) .nop) (.seq (.asg [6] (.int 1)) (.seq (.asg [7] (.bop .mod (.bop .add (.var 3) (.var 4)) (.var 2))) (.seq (.whil 1000 (.ite (.cmp .eq (.ix (.var 1) (.int 0)) (.str "on")) (.cmp .lt (.var 6) (.ix (.var 1) (.int 1))) (.cmp .ne (.var 7) (.var 5))) (.seq (.asg [7] (.bop .mod (.bop .add (.var 7) (.var 4)) (.var 2))) (.asg [6] (.bop .add (.var 6) (.int 1))))) (.ret (.tup (.cons (.var 7) (.cons (.bop .sub (.var 6) (.int 1)) .nil))))))))))
/-- need_land: 0 value, 1 most, 2 arms -/
def ir17 : Stm := (.ite (.or (.not (.isi .tup (.var 0))) (.or (.cmp .ne (.bi .len (.cons (.var 0) .nil)) (.int 2)) (.not (.bi .all (.cons (.lc [2] (.cons (.var 0) .nil) [2] .yes (.call 24 (.cons (.var 2) (.cons (.int 2) (.cons (.var 1) .nil))))) .nil))))) (.rais 3 [] .nil) .nop)
/-- places_of: 0 side, 1 start, 2 steps, 3 land, 4 found, 5 step -/
def ir18 : Stm := (.seq (.asg [4] (.cel (.cons (.call 26 (.cons (.var 1) (.cons (.var 3) .nil))) .nil))) (.seq (.loop (.cons (.var 2) .nil) [5] (.ex (.app (.var 4) (.call 27 (.cons (.var 0) (.cons (.var 5) (.cons (.var 3) (.cons (.ix (.var 4) (.neg (.int 1))) .nil)))))))) (.seq (.frz 4) (.ret (.var 4)))))
/-- Drive.steps: 0 self -/
def ir19 : Stm := (.ret (.ix (.fld (.var 0) "told") (.int 2)))
/-- Drive.start: 0 self -/
def ir20 : Stm := (.ret (.ix (.fld (.var 0) "told") (.int 1)))
/-- Drive.side: 0 self -/
def ir21 : Stm := (.ret (.ix (.fld (.var 0) "told") (.int 0)))
/-- passed_by: 0 step, 1 arms, 2 left -/
def ir22 : Stm := (.seq (.ite (.cmp .eq (.ix (.var 0) (.int 0)) (.str "on")) (.ret (.bop .sub (.ix (.var 0) (.int 1)) (.int 1))) .nop) (.seq (.asg [2] (.ite (.cmp .eq (.ix (.var 0) (.int 0)) (.str "short")) (.bop .mod (.neg (.ix (.var 0) (.int 1))) (.var 1)) (.int 0))) (.ret (.ite (.cmp .gt (.var 2) (.int 0)) (.bop .sub (.var 2) (.int 1)) (.bop .sub (.var 1) (.int 1))))))
/-- is_one_of: 0 value, 1 some -/
def ir23 : Stm := (.ret (.and (.isi .str (.var 0)) (.cmp .mem (.var 0) (.var 1))))
/-- is_from: 0 value, 1 least, 2 most -/
def ir24 : Stm := (.ret (.and (.isi .int (.var 0)) (.and (.not (.isi .bool (.var 0))) (.chain .le .le (.var 1) (.var 0) (.var 2)))))
/-- is_step: 0 value -/
def ir25 : Stm := (.seq (.ite (.or (.not (.isi .tup (.var 0))) (.or (.cmp .eq (.var 0) (.tup .nil)) (.not (.isi .str (.ix (.var 0) (.int 0)))))) (.ret (.bl false)) .nop) (.seq (.ite (.cmp .mem (.ix (.var 0) (.int 0)) (.con 5)) (.ret (.and (.cmp .eq (.bi .len (.cons (.var 0) .nil)) (.int 2)) (.call 24 (.cons (.ix (.var 0) (.int 1)) (.cons (.int 1) (.cons (.ix (.con 5) (.ix (.var 0) (.int 0))) .nil)))))) .nop) (.ret (.and (.cmp .eq (.ix (.var 0) (.int 0)) (.str "same")) (.cmp .eq (.bi .len (.cons (.var 0) .nil)) (.int 1))))))
/-- begun: 0 start, 1 land -/
def ir26 : Stm := (.ret (.tup (.cons (.ix (.var 0) (.int 0)) (.cons (.bop .mod (.ix (.var 0) (.int 1)) (.ix (.var 1) (.cix 1 (.ix (.var 0) (.int 0))))) .nil))))
/-- gone: 0 side, 1 step, 2 land, 3 here, 4 arm -/
def ir27 : Stm := (.seq (.asg [4] (.bop .mod (.bop .add (.ix (.var 3) (.int 1)) (.call 28 (.cons (.var 0) (.cons (.var 1) .nil)))) (.ix (.var 2) (.cix 1 (.ix (.var 3) (.int 0)))))) (.seq (.ite (.cmp .gt (.var 4) (.int 0)) (.ret (.tup (.cons (.ix (.var 3) (.int 0)) (.cons (.var 4) .nil)))) .nop) (.ret (.tup (.cons (.ix (.con 1) (.bop .sub (.int 1) (.cix 1 (.ix (.var 3) (.int 0))))) (.cons (.int 0) .nil))))))
/-- ahead: 0 side, 1 step, 2 by -/
def ir28 : Stm := (.seq (.ite (.cmp .eq (.ix (.var 1) (.int 0)) (.str "same")) (.ret (.int 0)) .nop) (.seq (.asg [2] (.ite (.cmp .eq (.ix (.var 1) (.int 0)) (.str "on")) (.ix (.var 1) (.int 1)) (.neg (.ix (.var 1) (.int 1))))) (.ret (.ite (.cmp .eq (.var 0) (.str "right")) (.var 2) (.neg (.var 2))))))
/-- law k02: 0 _law_script, 1 _law_d, 2 _law_side, 3 _law_start_here, 4 _law_steps_here, 5 _law_drive, 6 _law_k, 7 _law_n, 8 _law_m -/
def ir29 : Stm := (.seq (.asg [1] (.call 1 (.cons (.var 0) (.cons (.int 952) .nil)))) (.seq (.asg [2] (.call 2 (.cons (.var 1) (.cons (.lst (.cons (.str "left") (.cons (.str "right") .nil))) .nil)))) (.seq (.asg [3] (.call 3 (.cons (.var 1) .nil))) (.seq (.asg [4] (.call 4 (.cons (.var 1) (.cons (.int 6) .nil)))) (.seq (.asg [5] (.mkd 5 (.cons (.var 2) (.cons (.var 3) (.cons (.var 4) .nil))))) (.seq (.loop (.rng1 (.int 6)) [6] (.seq (.asg [7] (.call 2 (.cons (.var 1) (.cons (.lst (.cons (.int 2) (.cons (.int 3) (.cons (.bop .pow (.int 10) (.int 30)) (.cons (.bop .sub (.bop .pow (.int 10) (.int 30)) (.call 6 (.cons (.var 1) (.cons (.int 99) .nil)))) (.cons (.bop .add (.int 2) (.call 6 (.cons (.var 1) (.cons (.int 9) .nil)))) .nil)))))) .nil)))) (.seq (.asg [8] (.call 2 (.cons (.var 1) (.cons (.lst (.cons (.int 2) (.cons (.int 4) (.cons (.bop .pow (.int 10) (.int 30)) (.cons (.bop .add (.bop .pow (.int 10) (.int 17)) (.call 6 (.cons (.var 1) (.cons (.int 99) .nil)))) (.cons (.bop .add (.int 2) (.call 6 (.cons (.var 1) (.cons (.int 9) .nil)))) .nil)))))) .nil)))) (.seq (.ite (.not (.call 8 (.cons (.call 9 (.cons (.var 5) (.cons (.tup (.cons (.var 7) (.cons (.var 8) .nil))) .nil))) (.cons (.call 30 (.cons (.var 2) (.cons (.var 3) (.cons (.var 4) (.cons (.tup (.cons (.var 7) (.cons (.var 8) .nil))) .nil))))) .nil)))) (.ret (.bl false)) .nop) (.ite (.not (.call 8 (.cons (.call 11 (.cons (.var 5) (.cons (.tup (.cons (.var 7) (.cons (.var 8) .nil))) .nil))) (.cons (.call 31 (.cons (.var 2) (.cons (.var 3) (.cons (.var 4) (.cons (.tup (.cons (.var 7) (.cons (.var 8) .nil))) .nil))))) .nil)))) (.ret (.bl false)) .nop))))) (.ret (.bl true))))))))
/-- _law_end: 0 _law_side, 1 _law_start_here, 2 _law_steps_here, 3 _law_land, 4 _law_numbers, 5 _law_way, 6 _law_spot, 7 _law_arm, 8 _law_step_here -/
def ir30 : Stm := (.seq (.asg [4] (.map ["first", "second"] (.cons (.ix (.var 3) (.int 0)) (.cons (.ix (.var 3) (.int 1)) .nil)))) (.seq (.asg [5] (.ite (.cmp .eq (.var 0) (.str "right")) (.int 1) (.neg (.int 1)))) (.seq (.par [6, 7] (.cons (.ix (.var 1) (.int 0)) (.cons (.bop .mod (.ix (.var 1) (.int 1)) (.ix (.var 4) (.ix (.var 1) (.int 0)))) .nil))) (.seq (.loop (.cons (.var 2) .nil) [8] (.seq (.ite (.cmp .ne (.ix (.var 8) (.int 0)) (.str "same")) (.asg [7] (.bop .mod (.bop .add (.var 7) (.bop .mul (.bop .mul (.var 5) (.ix (.var 8) (.int 1))) (.ite (.cmp .eq (.ix (.var 8) (.int 0)) (.str "on")) (.int 1) (.neg (.int 1))))) (.ix (.var 4) (.var 6)))) .nop) (.ite (.cmp .eq (.var 7) (.int 0)) (.asg [6] (.ite (.cmp .eq (.var 6) (.str "first")) (.str "second") (.str "first"))) .nop))) (.ret (.tup (.cons (.var 6) (.cons (.var 7) .nil))))))))
/-- _law_many: 0 _law_side, 1 _law_start_here, 2 _law_steps_here, 3 _law_land, 4 _law_numbers, 5 _law_total, 6 _law_k, 7 _law_arms -/
def ir31 : Stm := (.seq (.asg [4] (.map ["first", "second"] (.cons (.ix (.var 3) (.int 0)) (.cons (.ix (.var 3) (.int 1)) .nil)))) (.seq (.asg [5] (.int 0)) (.seq (.loop (.rng1 (.bi .len (.cons (.var 2) .nil))) [6] (.seq (.asg [7] (.ix (.var 4) (.ix (.call 30 (.cons (.var 0) (.cons (.var 1) (.cons (.sl (.var 2) .nil (.cons (.var 6) .nil)) (.cons (.var 3) .nil))))) (.int 0)))) (.ite (.cmp .eq (.ix (.ix (.var 2) (.var 6)) (.int 0)) (.str "on")) (.asg [5] (.bop .sub (.bop .add (.var 5) (.ix (.ix (.var 2) (.var 6)) (.int 1))) (.int 1))) (.ite (.cmp .eq (.ix (.ix (.var 2) (.var 6)) (.int 0)) (.str "same")) (.asg [5] (.bop .sub (.bop .add (.var 5) (.var 7)) (.int 1))) (.asg [5] (.bop .add (.var 5) (.bop .mod (.bop .sub (.bop .sub (.var 7) (.ix (.ix (.var 2) (.var 6)) (.int 1))) (.int 1)) (.var 7)))))))) (.ret (.var 5)))))
/-- law k03: 0 _law_script, 1 _law_d, 2 _law_one, 3 _law_other, 4 _law_fact_here, 5 _law_due, 6 _law_here, 7 _law_there, 8 _law_bad_here -/
def ir32 : Stm := (.seq (.asg [1] (.call 1 (.cons (.var 0) (.cons (.int 953) .nil)))) (.seq (.asg [2] (.tup (.cons (.call 2 (.cons (.var 1) (.cons (.lst (.cons (.str "left") (.cons (.str "right") .nil))) .nil))) (.cons (.call 3 (.cons (.var 1) .nil)) (.cons (.call 4 (.cons (.var 1) (.cons (.int 5) .nil))) .nil))))) (.seq (.asg [3] (.tup (.cons (.ix (.var 2) (.int 0)) (.cons (.ix (.var 2) (.int 1)) (.cons (.call 33 (.cons (.var 1) (.cons (.ix (.var 2) (.int 2)) .nil))) .nil))))) (.seq (.ite (.cmp .eq (.call 6 (.cons (.var 1) (.cons (.int 4) .nil))) (.int 0)) (.asg [3] (.tup (.cons (.call 2 (.cons (.var 1) (.cons (.lst (.cons (.str "left") (.cons (.str "right") .nil))) .nil))) (.cons (.call 3 (.cons (.var 1) .nil)) (.cons (.call 4 (.cons (.var 1) (.cons (.int 4) .nil))) .nil))))) .nop) (.seq (.asg [4] (.call 34 (.cons (.var 1) .nil))) (.seq (.asg [5] (.call 35 (.cons (.var 2) (.cons (.var 3) (.cons (.var 4) .nil))))) (.seq (.par [6, 7] (.cons (.mkd 5 (.cons (.ix (.var 2) (.int 0)) (.cons (.ix (.var 2) (.int 1)) (.cons (.ix (.var 2) (.int 2)) .nil)))) (.cons (.mkd 5 (.cons (.ix (.var 3) (.int 0)) (.cons (.ix (.var 3) (.int 1)) (.cons (.ix (.var 3) (.int 2)) .nil)))) .nil))) (.seq (.ite (.not (.call 8 (.cons (.lst (.cons (.call 36 (.cons (.var 6) (.cons (.var 7) (.cons (.var 4) .nil)))) (.cons (.call 36 (.cons (.var 7) (.cons (.var 6) (.cons (.var 4) .nil)))) .nil))) (.cons (.lst (.cons (.var 5) (.cons (.var 5) .nil))) .nil)))) (.ret (.bl false)) .nop) (.seq (.ite (.or (.cmp .ne (.call 37 (.cons (.var 6) (.cons (.var 7) (.cons (.var 4) .nil)))) (.cmp .is (.var 5) .non)) (.not (.call 37 (.cons (.var 6) (.cons (.var 6) (.cons (.var 4) .nil)))))) (.ret (.bl false)) .nop) (.seq (.asg [8] (.call 2 (.cons (.var 1) (.cons (.lst (.cons .non (.cons (.tup (.cons (.int 1) (.cons (.int 2) .nil))) (.cons (.tup (.cons (.int 2) (.cons (.int 10) .nil))) (.cons (.lst (.cons (.int 2) (.cons (.int 2) .nil))) (.cons (.tup (.cons (.bl true) (.cons (.int 2) .nil))) (.cons (.tup (.cons (.int 2) .nil)) (.cons (.tup (.cons (.int 2) (.cons (.int 2) (.cons (.int 2) .nil)))) (.cons (.str "22") (.cons (.tup (.cons (.int 3) (.cons .non .nil))) (.cons (.tup .nil) .nil))))))))))) .nil)))) (.ret (.cmp .eq (.call 38 (.cons (.var 6) (.cons (.var 7) (.cons (.var 8) .nil)))) (.int 2)))))))))))))
/-- _law_near: 0 _law_d, 1 _law_steps_here, 2 _law_k, 3 _law_pick_here, 4 _law_later -/
def ir33 : Stm := (.seq (.ite (.cmp .eq (.var 1) (.tup .nil)) (.ret (.call 4 (.cons (.var 0) (.cons (.int 2) .nil)))) .nop) (.seq (.asg [2] (.call 6 (.cons (.var 0) (.cons (.bi .len (.cons (.var 1) .nil)) .nil)))) (.seq (.asg [3] (.call 6 (.cons (.var 0) (.cons (.int 5) .nil)))) (.seq (.ite (.cmp .eq (.var 3) (.int 0)) (.ret (.bop .add (.sl (.var 1) .nil (.cons (.var 2) .nil)) (.sl (.var 1) (.cons (.bop .add (.var 2) (.int 1)) .nil) .nil))) .nop) (.seq (.ite (.cmp .eq (.var 3) (.int 1)) (.seq (.asg [4] (.bop .add (.sl (.var 1) (.cons (.bop .add (.var 2) (.int 1)) .nil) (.cons (.bop .add (.var 2) (.int 2)) .nil)) (.sl (.var 1) (.cons (.var 2) .nil) (.cons (.bop .add (.var 2) (.int 1)) .nil)))) (.ret (.bop .add (.bop .add (.sl (.var 1) .nil (.cons (.var 2) .nil)) (.var 4)) (.sl (.var 1) (.cons (.bop .add (.var 2) (.int 2)) .nil) .nil)))) .nop) (.seq (.ite (.and (.cmp .eq (.var 3) (.int 2)) (.cmp .lt (.bi .len (.cons (.var 1) .nil)) (.int 6))) (.ret (.bop .add (.bop .add (.sl (.var 1) .nil (.cons (.var 2) .nil)) (.tup (.cons (.tup (.cons (.str "same") .nil)) .nil))) (.sl (.var 1) (.cons (.var 2) .nil) .nil))) .nop) (.ret (.bop .add (.bop .add (.sl (.var 1) .nil (.cons (.var 2) .nil)) (.tup (.cons (.call 13 (.cons (.var 0) .nil)) .nil))) (.sl (.var 1) (.cons (.bop .add (.var 2) (.int 1)) .nil) .nil)))))))))
/-- _law_fact: 0 _law_d -/
def ir34 : Stm := (.ret (.call 2 (.cons (.var 0) (.cons (.lst (.cons (.tup (.cons (.int 2) (.cons (.int 2) .nil))) (.cons (.tup (.cons (.int 2) (.cons (.int 2) .nil))) (.cons (.tup (.cons (.int 3) (.cons (.int 2) .nil))) (.cons (.tup (.cons (.int 2) (.cons (.int 4) .nil))) (.cons (.tup (.cons (.int 9) (.cons (.int 9) .nil))) (.cons (.tup (.cons (.bop .add (.int 2) (.call 6 (.cons (.var 0) (.cons (.int 8) .nil)))) (.cons (.bop .add (.int 2) (.call 6 (.cons (.var 0) (.cons (.int 8) .nil)))) .nil))) .nil))))))) .nil))))
/-- _law_least: 0 _law_one, 1 _law_other, 2 _law_fact_here, 3 _law_most, 4 _law_land -/
def ir35 : Stm := (.seq (.asg [3] (.bop .add (.bop .add (.bop .add (.bi .abs (.cons (.ix (.ix (.var 0) (.int 1)) (.int 1)) .nil)) (.bi .abs (.cons (.ix (.ix (.var 1) (.int 1)) (.int 1)) .nil))) (.call 39 (.cons (.ix (.var 0) (.int 2)) .nil))) (.call 39 (.cons (.ix (.var 1) (.int 2)) .nil)))) (.seq (.loop (.cons (.call 40 (.cons (.var 2) (.cons (.bop .add (.int 11) (.var 3)) .nil))) .nil) [4] (.ite (.cmp .ne (.call 30 (.cons (.ix (.var 0) (.int 0)) (.cons (.ix (.var 0) (.int 1)) (.cons (.ix (.var 0) (.int 2)) (.cons (.var 4) .nil))))) (.call 30 (.cons (.ix (.var 1) (.int 0)) (.cons (.ix (.var 1) (.int 1)) (.cons (.ix (.var 1) (.int 2)) (.cons (.var 4) .nil)))))) (.ret (.var 4)) .nop)) (.ret .non)))
/-- parting: 0 one, 1 other, 2 fact -/
def ir36 : Stm := (.seq (.ex (.call 41 (.cons (.var 2) .nil))) (.ret (.call 42 (.cons (.var 0) (.cons (.var 1) (.cons (.var 2) .nil))))))
/-- alike: 0 one, 1 other, 2 fact -/
def ir37 : Stm := (.seq (.ex (.call 41 (.cons (.var 2) .nil))) (.ret (.cmp .is (.call 42 (.cons (.var 0) (.cons (.var 1) (.cons (.var 2) .nil)))) .non)))
/-- _law_bad: 0 _law_one, 1 _law_other, 2 _law_fact_here, 3 _law_found -/
def ir38 : Stm := (.seq (.asg [3] (.int 0)) (.seq (.tri (.ex (.call 36 (.cons (.var 0) (.cons (.var 1) (.cons (.var 2) .nil))))) (.hand 4 (.asg [3] (.bop .add (.var 3) (.int 1))) .nop)) (.seq (.tri (.ex (.call 37 (.cons (.var 0) (.cons (.var 1) (.cons (.var 2) .nil))))) (.hand 4 (.asg [3] (.bop .add (.var 3) (.int 1))) .nop)) (.ret (.var 3)))))
/-- _law_far: 0 _law_steps_here, 1 _law_step_here -/
def ir39 : Stm := (.ret (.bi .sum (.cons (.lc [1] (.cons (.var 0) .nil) [1] (.cmp .eq (.bi .len (.cons (.var 1) .nil)) (.int 2)) (.ix (.var 1) (.neg (.int 1)))) .nil)))
/-- _law_lands: 0 _law_fact_here, 1 _law_most, 2 _law_found, 3 _law_total, 4 _law_n -/
def ir40 : Stm := (.seq (.asg [2] (.cel .nil)) (.seq (.loop (.rng2 (.bop .add (.ix (.var 0) (.int 0)) (.ix (.var 0) (.int 1))) (.bop .add (.bop .mul (.int 2) (.var 1)) (.int 1))) [3] (.loop (.rng2 (.bi .max (.cons (.lst (.cons (.ix (.var 0) (.int 0)) (.cons (.bop .sub (.var 3) (.var 1)) .nil))) .nil)) (.bop .add (.bi .min (.cons (.lst (.cons (.var 1) (.cons (.bop .sub (.var 3) (.ix (.var 0) (.int 1))) .nil))) .nil)) (.int 1))) [4] (.ex (.app (.var 2) (.tup (.cons (.var 4) (.cons (.bop .sub (.var 3) (.var 4)) .nil))))))) (.seq (.frz 2) (.ret (.var 2)))))
/-- need_fact: 0 value, 1 arms -/
def ir41 : Stm := (.ite (.or (.not (.isi .tup (.var 0))) (.or (.cmp .ne (.bi .len (.cons (.var 0) .nil)) (.int 2)) (.not (.bi .all (.cons (.lc [1] (.cons (.var 0) .nil) [1] .yes (.call 24 (.cons (.var 1) (.cons (.int 2) (.cons (.con 6) .nil))))) .nil))))) (.rais 4 [] .nil) .nop)
/-- first_unlike: 0 one, 1 other, 2 fact, 3 land -/
def ir42 : Stm := (.seq (.loop (.cons (.call 43 (.cons (.var 2) (.cons (.bop .add (.bop .add (.con 7) (.call 44 (.cons (.var 0) .nil))) (.call 44 (.cons (.var 1) .nil))) .nil))) .nil) [3] (.ite (.cmp .ne (.call 45 (.cons (.var 0) (.cons (.var 3) .nil))) (.call 45 (.cons (.var 1) (.cons (.var 3) .nil)))) (.ret (.var 3)) .nop)) (.ret .non))
/-- lands_from: 0 fact, 1 most, 2 rows, 3 n, 4 m -/
def ir43 : Stm := (.seq (.asg [2] (.lc2 [3, 4] (.rng2 (.ix (.var 0) (.int 0)) (.bop .add (.var 1) (.int 1))) [3] .yes [4] (.rng2 (.ix (.var 0) (.int 1)) (.bop .add (.var 1) (.int 1))) [4] .yes (.tup (.cons (.var 3) (.cons (.var 4) .nil))))) (.ret (.srt (.var 2))))
/-- reach: 0 drive -/
def ir44 : Stm := (.ret (.bop .add (.bi .abs (.cons (.ix (.prop 20 (.var 0)) (.int 1)) .nil)) (.call 46 (.cons (.prop 19 (.var 0)) .nil))))
/-- end_of: 0 drive, 1 land -/
def ir45 : Stm := (.ret (.ix (.call 18 (.cons (.prop 21 (.var 0)) (.cons (.prop 20 (.var 0)) (.cons (.prop 19 (.var 0)) (.cons (.var 1) .nil))))) (.neg (.int 1))))
/-- far: 0 steps, 1 step -/
def ir46 : Stm := (.ret (.bi .sum (.cons (.lc [1] (.cons (.var 0) .nil) [1] (.cmp .gt (.bi .len (.cons (.var 1) .nil)) (.int 1)) (.ix (.var 1) (.int 1))) .nil)))
/-- law k04: 0 _law_script, 1 _law_d, 2 _law_side, 3 _law_start_here, 4 _law_steps_here, 5 _law_more, 6 _law_fact_here, 7 _law_due, 8 _law_land, 9 _law_first, 10 _law_drive, 11 _law_odd, 12 _law_wrong, 13 _law_bad, 14 _law_told_here -/
def ir47 : Stm := (.seq (.asg [1] (.call 1 (.cons (.var 0) (.cons (.int 954) .nil)))) (.seq (.par [2, 3] (.cons (.call 2 (.cons (.var 1) (.cons (.lst (.cons (.str "left") (.cons (.str "right") .nil))) .nil))) (.cons (.call 3 (.cons (.var 1) .nil)) .nil))) (.seq (.asg [4] (.call 4 (.cons (.var 1) (.cons (.int 4) .nil)))) (.seq (.asg [5] (.call 48 (.cons (.var 4) .nil))) (.seq (.ite (.cmp .eq (.call 6 (.cons (.var 1) (.cons (.int 3) .nil))) (.int 0)) (.asg [5] (.call 33 (.cons (.var 1) (.cons (.var 5) .nil)))) .nop) (.seq (.asg [6] (.call 34 (.cons (.var 1) .nil))) (.seq (.asg [7] .non) (.seq (.loop (.cons (.call 40 (.cons (.var 6) (.cons (.bop .add (.bop .add (.bop .add (.int 11) (.bi .abs (.cons (.ix (.var 3) (.int 1)) .nil))) (.call 39 (.cons (.var 4) .nil))) (.call 39 (.cons (.var 5) .nil))) .nil))) .nil) [8] (.seq (.asg [9] (.call 30 (.cons (.var 2) (.cons (.var 3) (.cons (.tup .nil) (.cons (.var 8) .nil)))))) (.ite (.and (.cmp .is (.var 7) .non) (.cmp .ne (.call 30 (.cons (.var 2) (.cons (.var 3) (.cons (.bop .add (.var 4) (.var 5)) (.cons (.var 8) .nil))))) (.var 9))) (.asg [7] (.var 8)) .nop))) (.seq (.asg [10] (.mkd 5 (.cons (.var 2) (.cons (.var 3) (.cons (.var 4) .nil))))) (.seq (.ite (.not (.call 8 (.cons (.call 49 (.cons (.var 10) (.cons (.var 5) (.cons (.var 6) .nil)))) (.cons (.var 7) .nil)))) (.ret (.bl false)) .nop) (.seq (.asg [11] (.call 2 (.cons (.var 1) (.cons (.lst (.cons .non (.cons (.lst .nil) (.cons (.str "same") (.cons (.bop .mul (.tup (.cons (.tup (.cons (.str "same") .nil)) .nil)) (.int 7)) (.cons (.int 5) .nil)))))) .nil)))) (.seq (.asg [12] (.call 2 (.cons (.var 1) (.cons (.lst (.cons .non (.cons (.tup (.cons (.str "on") (.cons (.int 5) .nil))) (.cons (.tup (.cons (.str "on") (.cons (.int 0) .nil))) (.cons (.tup (.cons (.str "short") (.cons (.int 4) .nil))) (.cons (.tup (.cons (.str "same") (.cons (.int 1) .nil))) (.cons (.tup (.cons (.str "on") .nil)) (.cons (.tup (.cons (.str "on") (.cons (.bl true) .nil))) (.cons (.lst (.cons (.str "same") .nil)) (.cons (.tup .nil) .nil)))))))))) .nil)))) (.seq (.asg [13] (.call 2 (.cons (.var 1) (.cons (.lst (.cons .non (.cons (.tup (.cons (.int 1) (.cons (.int 2) .nil))) (.cons (.tup (.cons (.int 2) (.cons (.int 10) .nil))) (.cons (.lst (.cons (.int 2) (.cons (.int 2) .nil))) (.cons (.str "22") .nil)))))) .nil)))) (.seq (.asg [14] (.lst (.cons (.call 49 (.cons (.var 10) (.cons (.var 11) (.cons (.var 13) .nil)))) (.cons (.call 49 (.cons (.var 10) (.cons (.bop .add (.sl (.var 5) .nil (.cons (.int 3) .nil)) (.tup (.cons (.var 12) (.cons .non .nil)))) (.cons (.var 13) .nil)))) (.cons (.call 49 (.cons (.var 10) (.cons (.var 5) (.cons (.var 13) .nil)))) .nil))))) (.ret (.cmp .eq (.var 14) (.lst (.cons (.tup (.cons (.str "steps") (.cons (.neg (.int 1)) .nil))) (.cons (.tup (.cons (.str "steps") (.cons (.bi .len (.cons (.sl (.var 5) .nil (.cons (.int 3) .nil)) .nil)) .nil))) (.cons (.str "fact") .nil))))))))))))))))))))
/-- _law_turned: 0 _law_steps_here, 1 _law_found, 2 _law_step_here -/
def ir48 : Stm := (.seq (.asg [1] (.cel .nil)) (.seq (.loop (.cons (.rev (.var 0)) .nil) [2] (.ite (.and (.cmp .eq (.ix (.var 2) (.int 0)) (.str "on")) (.cmp .lt (.ix (.var 2) (.int 1)) (.int 4))) (.ex (.app (.var 1) (.tup (.cons (.str "short") (.cons (.ix (.var 2) (.int 1)) .nil))))) (.ite (.cmp .eq (.ix (.var 2) (.int 0)) (.str "short")) (.ex (.app (.var 1) (.tup (.cons (.str "on") (.cons (.ix (.var 2) (.int 1)) .nil))))) (.ex (.app (.var 1) (.tup (.cons (.str "same") .nil))))))) (.seq (.frz 1) (.ret (.bi .tuple (.cons (.var 1) .nil))))))
/-- _law_told: 0 _law_drive, 1 _law_steps_here, 2 _law_fact_here, 3 _law_told_here, 4 e -/
def ir49 : Stm := (.seq (.asg [3] .non) (.seq (.tri (.asg [3] (.call 50 (.cons (.var 0) (.cons (.var 1) (.cons (.var 2) .nil))))) (.handX 2 4 3 (.pair (.str "steps") (.fld "index")) (.hand 4 (.asg [3] (.str "fact")) .nop))) (.ret (.var 3))))
/-- undone: 0 drive, 1 steps, 2 fact, 3 land -/
def ir50 : Stm := (.seq (.ex (.call 15 (.cons (.var 1) .nil))) (.seq (.ex (.call 41 (.cons (.var 2) .nil))) (.seq (.loop (.cons (.call 43 (.cons (.var 2) (.cons (.bop .add (.bop .add (.con 7) (.call 44 (.cons (.var 0) .nil))) (.call 46 (.cons (.var 1) .nil))) .nil))) .nil) [3] (.ite (.cmp .ne (.ix (.call 18 (.cons (.prop 21 (.var 0)) (.cons (.prop 20 (.var 0)) (.cons (.bop .add (.prop 19 (.var 0)) (.var 1)) (.cons (.var 3) .nil))))) (.neg (.int 1))) (.call 26 (.cons (.prop 20 (.var 0)) (.cons (.var 3) .nil)))) (.ret (.var 3)) .nop)) (.ret .non))))
/-- law k05: 0 _law_script, 1 _law_d, 2 _law_one, 3 _law_other, 4 _law_fact_here, 5 _law_most, 6 _law_due, 7 _law_land, 8 _law_k, 9 _law_here, 10 _law_there -/
def ir51 : Stm := (.seq (.asg [1] (.call 1 (.cons (.var 0) (.cons (.int 955) .nil)))) (.seq (.asg [2] (.tup (.cons (.call 2 (.cons (.var 1) (.cons (.lst (.cons (.str "left") (.cons (.str "right") .nil))) .nil))) (.cons (.call 3 (.cons (.var 1) .nil)) (.cons (.call 4 (.cons (.var 1) (.cons (.int 4) .nil))) .nil))))) (.seq (.asg [3] (.tup (.cons (.call 2 (.cons (.var 1) (.cons (.lst (.cons (.str "left") (.cons (.str "right") .nil))) .nil))) (.cons (.call 3 (.cons (.var 1) .nil)) (.cons (.call 4 (.cons (.var 1) (.cons (.int 4) .nil))) .nil))))) (.seq (.asg [4] (.call 34 (.cons (.var 1) .nil))) (.seq (.asg [5] (.bop .add (.bop .add (.bop .add (.bi .abs (.cons (.ix (.ix (.var 2) (.int 1)) (.int 1)) .nil)) (.bi .abs (.cons (.ix (.ix (.var 3) (.int 1)) (.int 1)) .nil))) (.call 39 (.cons (.ix (.var 2) (.int 2)) .nil))) (.call 39 (.cons (.ix (.var 3) (.int 2)) .nil)))) (.seq (.asg [6] (.cel (.cons .non (.cons .non .nil)))) (.seq (.loop (.cons (.call 40 (.cons (.var 4) (.cons (.bop .add (.int 11) (.var 5)) .nil))) .nil) [7] (.ite (.or (.cmp .is (.ix (.var 6) (.int 0)) .non) (.cmp .is (.ix (.var 6) (.int 1)) .non)) (.seq (.asg [8] (.ite (.call 52 (.cons (.var 2) (.cons (.var 3) (.cons (.var 7) .nil)))) (.int 0) (.int 1))) (.ite (.cmp .is (.ix (.var 6) (.var 8)) .non) (.seti (.var 6) (.var 8) (.var 7)) .nop)) .nop)) (.seq (.par [9, 10] (.cons (.mkd 5 (.cons (.ix (.var 2) (.int 0)) (.cons (.ix (.var 2) (.int 1)) (.cons (.ix (.var 2) (.int 2)) .nil)))) (.cons (.mkd 5 (.cons (.ix (.var 3) (.int 0)) (.cons (.ix (.var 3) (.int 1)) (.cons (.ix (.var 3) (.int 2)) .nil)))) .nil))) (.seq (.frz 6) (.seq (.ite (.not (.call 8 (.cons (.lst (.cons (.call 53 (.cons (.var 9) (.cons (.var 10) (.cons (.var 4) .nil)))) (.cons (.call 53 (.cons (.var 10) (.cons (.var 9) (.cons (.var 4) .nil)))) .nil))) (.cons (.lst (.cons (.bi .tuple (.cons (.var 6) .nil)) (.cons (.bi .tuple (.cons (.var 6) .nil)) .nil))) .nil)))) (.ret (.bl false)) .nop) (.ret (.call 54 (.cons (.var 9) (.cons (.var 10) (.cons (.call 2 (.cons (.var 1) (.cons (.lst (.cons .non (.cons (.tup (.cons (.int 1) (.cons (.int 2) .nil))) (.cons (.tup (.cons (.int 2) (.cons (.int 10) .nil))) (.cons (.lst (.cons (.int 2) (.cons (.int 2) .nil))) (.cons (.tup (.cons (.int 2) (.cons (.bl true) .nil))) (.cons (.str "22") .nil))))))) .nil))) .nil)))))))))))))))
/-- _law_meets: 0 _law_one, 1 _law_other, 2 _law_land, 3 _law_k -/
def ir52 : Stm := (.seq (.loop (.rng1 (.bop .add (.bi .min (.cons (.lst (.cons (.bi .len (.cons (.ix (.var 0) (.int 2)) .nil)) (.cons (.bi .len (.cons (.ix (.var 1) (.int 2)) .nil)) .nil))) .nil)) (.int 1))) [3] (.ite (.cmp .eq (.call 30 (.cons (.ix (.var 0) (.int 0)) (.cons (.ix (.var 0) (.int 1)) (.cons (.sl (.ix (.var 0) (.int 2)) .nil (.cons (.var 3) .nil)) (.cons (.var 2) .nil))))) (.call 30 (.cons (.ix (.var 1) (.int 0)) (.cons (.ix (.var 1) (.int 1)) (.cons (.sl (.ix (.var 1) (.int 2)) .nil (.cons (.var 3) .nil)) (.cons (.var 2) .nil)))))) (.ret (.bl true)) .nop)) (.ret (.bl false)))
/-- meeting: 0 one, 1 other, 2 fact, 3 found, 4 land -/
def ir53 : Stm := (.seq (.ex (.call 41 (.cons (.var 2) .nil))) (.seq (.asg [3] .bdn) (.seq (.loop (.cons (.call 43 (.cons (.var 2) (.cons (.bop .add (.bop .add (.con 7) (.call 44 (.cons (.var 0) .nil))) (.call 44 (.cons (.var 1) .nil))) .nil))) .nil) [4] (.ex (.sdef (.var 3) (.call 93 (.cons (.var 0) (.cons (.var 1) (.cons (.var 4) .nil)))) (.var 4)))) (.ret (.tup (.cons (.bget (.var 3) (.bl true)) (.cons (.bget (.var 3) (.bl false)) .nil)))))))
/-- _law_bad: 0 _law_one, 1 _law_other, 2 _law_fact_here, 3 _law_told -/
def ir54 : Stm := (.seq (.asg [3] (.bl false)) (.seq (.tri (.ex (.call 53 (.cons (.var 0) (.cons (.var 1) (.cons (.var 2) .nil))))) (.hand 4 (.asg [3] (.bl true)) .nop)) (.ret (.var 3))))
/-- law k06: 0 _law_script, 1 _law_d, 2 _law_side, 3 _law_start_here, 4 _law_steps_here, 5 _law_at, 6 _law_fact_here, 7 _law_drive, 8 _law_first, 9 _law_second, 10 _law_k, 11 _law_pair -/
def ir55 : Stm := (.seq (.asg [1] (.call 1 (.cons (.var 0) (.cons (.int 956) .nil)))) (.seq (.asg [2, 3, 4] (.tup (.cons (.call 2 (.cons (.var 1) (.cons (.lst (.cons (.str "left") (.cons (.str "right") .nil))) .nil))) (.cons (.call 3 (.cons (.var 1) .nil)) (.cons (.call 4 (.cons (.var 1) (.cons (.int 3) .nil))) .nil))))) (.seq (.ite (.cmp .eq (.call 6 (.cons (.var 1) (.cons (.int 2) .nil))) (.int 0)) (.seq (.asg [5] (.call 6 (.cons (.var 1) (.cons (.bop .add (.bi .len (.cons (.var 4) .nil)) (.int 1)) .nil)))) (.asg [4] (.bop .add (.bop .add (.sl (.var 4) .nil (.cons (.var 5) .nil)) (.tup (.cons (.tup (.cons (.str "same") .nil)) .nil))) (.sl (.var 4) (.cons (.var 5) .nil) .nil)))) .nop) (.seq (.asg [6] (.call 34 (.cons (.var 1) .nil))) (.seq (.asg [7] (.mkd 5 (.cons (.var 2) (.cons (.var 3) (.cons (.var 4) .nil))))) (.seq (.asg [8] (.lc [10] (.rng1 (.bi .len (.cons (.var 4) .nil))) [10] (.call 56 (.cons (.var 2) (.cons (.var 3) (.cons (.var 4) (.cons (.bop .add (.sl (.var 4) .nil (.cons (.var 10) .nil)) (.sl (.var 4) (.cons (.bop .add (.var 10) (.int 1)) .nil) .nil)) (.cons (.var 6) .nil)))))) (.var 10))) (.seq (.asg [9] (.cel .nil)) (.seq (.loop (.rng1 (.bop .sub (.bi .len (.cons (.var 4) .nil)) (.int 1))) [10] (.seq (.asg [11] (.bop .add (.sl (.var 4) (.cons (.bop .add (.var 10) (.int 1)) .nil) (.cons (.bop .add (.var 10) (.int 2)) .nil)) (.sl (.var 4) (.cons (.var 10) .nil) (.cons (.bop .add (.var 10) (.int 1)) .nil)))) (.ite (.call 56 (.cons (.var 2) (.cons (.var 3) (.cons (.var 4) (.cons (.bop .add (.bop .add (.sl (.var 4) .nil (.cons (.var 10) .nil)) (.var 11)) (.sl (.var 4) (.cons (.bop .add (.var 10) (.int 2)) .nil) .nil)) (.cons (.var 6) .nil)))))) (.ex (.app (.var 9) (.var 10))) .nop))) (.seq (.frz 9) (.seq (.ite (.not (.call 8 (.cons (.lst (.cons (.call 58 (.cons (.var 7) (.cons (.var 6) .nil))) (.cons (.call 57 (.cons (.var 7) (.cons (.var 6) .nil))) .nil))) (.cons (.lst (.cons (.var 8) (.cons (.var 9) .nil))) .nil)))) (.ret (.bl false)) .nop) (.ret (.cmp .eq (.call 59 (.cons (.var 7) (.cons (.call 2 (.cons (.var 1) (.cons (.lst (.cons .non (.cons (.tup (.cons (.int 1) (.cons (.int 2) .nil))) (.cons (.tup (.cons (.int 2) (.cons (.int 10) .nil))) (.cons (.lst (.cons (.int 2) (.cons (.int 2) .nil))) (.cons (.tup (.cons (.int 2) (.cons (.bl true) .nil))) (.cons (.str "22") .nil))))))) .nil))) .nil))) (.int 2)))))))))))))
/-- _law_same: 0 _law_side, 1 _law_start_here, 2 _law_one, 3 _law_other, 4 _law_fact_here, 5 _law_most, 6 _law_land -/
def ir56 : Stm := (.seq (.asg [5] (.bop .add (.bop .add (.bop .mul (.int 2) (.bi .abs (.cons (.ix (.var 1) (.int 1)) .nil))) (.call 39 (.cons (.var 2) .nil))) (.call 39 (.cons (.var 3) .nil)))) (.seq (.loop (.cons (.call 40 (.cons (.var 4) (.cons (.bop .add (.int 11) (.var 5)) .nil))) .nil) [6] (.ite (.cmp .ne (.call 30 (.cons (.var 0) (.cons (.var 1) (.cons (.var 2) (.cons (.var 6) .nil))))) (.call 30 (.cons (.var 0) (.cons (.var 1) (.cons (.var 3) (.cons (.var 6) .nil)))))) (.ret (.bl false)) .nop)) (.ret (.bl true))))
/-- swaps: 0 drive, 1 fact, 2 rows, 3 found, 4 index, 5 steps -/
def ir57 : Stm := (.seq (.ex (.call 41 (.cons (.var 1) .nil))) (.seq (.asg [2] (.prop 19 (.var 0))) (.seq (.asg [3] (.cel .nil)) (.seq (.loop (.rng1 (.bop .sub (.bi .len (.cons (.var 2) .nil)) (.int 1))) [4] (.seq (.asg [5] (.tup (.star (.sl (.var 2) .nil (.cons (.var 4) .nil)) (.cons (.ix (.var 2) (.bop .add (.var 4) (.int 1))) (.cons (.ix (.var 2) (.var 4)) (.star (.sl (.var 2) (.cons (.bop .add (.var 4) (.int 2)) .nil) .nil) .nil)))))) (.ite (.cmp .is (.call 42 (.cons (.var 0) (.cons (.mkd 5 (.cons (.prop 21 (.var 0)) (.cons (.prop 20 (.var 0)) (.cons (.var 5) .nil)))) (.cons (.var 1) .nil)))) .non) (.ex (.app (.var 3) (.var 4))) .nop))) (.seq (.frz 3) (.ret (.var 3)))))))
/-- needless: 0 drive, 1 fact, 2 rows, 3 found, 4 index, 5 other -/
def ir58 : Stm := (.seq (.ex (.call 41 (.cons (.var 1) .nil))) (.seq (.asg [2] (.prop 19 (.var 0))) (.seq (.asg [3] (.cel .nil)) (.seq (.loop (.rng1 (.bi .len (.cons (.var 2) .nil))) [4] (.seq (.asg [5] (.mkd 5 (.cons (.prop 21 (.var 0)) (.cons (.prop 20 (.var 0)) (.cons (.bop .add (.sl (.var 2) .nil (.cons (.var 4) .nil)) (.sl (.var 2) (.cons (.bop .add (.var 4) (.int 1)) .nil) .nil)) .nil))))) (.ite (.cmp .is (.call 42 (.cons (.var 0) (.cons (.var 5) (.cons (.var 1) .nil)))) .non) (.ex (.app (.var 3) (.var 4))) .nop))) (.seq (.frz 3) (.ret (.var 3)))))))
/-- _law_bad: 0 _law_drive, 1 _law_fact_here, 2 _law_found -/
def ir59 : Stm := (.seq (.asg [2] (.int 0)) (.seq (.tri (.ex (.call 58 (.cons (.var 0) (.cons (.var 1) .nil)))) (.hand 4 (.asg [2] (.bop .add (.var 2) (.int 1))) .nop)) (.seq (.tri (.ex (.call 57 (.cons (.var 0) (.cons (.var 1) .nil)))) (.hand 4 (.asg [2] (.bop .add (.var 2) (.int 1))) .nop)) (.ret (.var 2)))))
/-- law k07: 0 _law_script, 1 _law_d, 2 _law_side, 3 _law_start_here, 4 _law_steps_here, 5 _law_drive, 6 _law_low, 7 _law_told, 8 _law_spot, 9 _law_arm, 10 _law_many, 11 _law_a, 12 _law_b, 13 _law_c, 14 _law_k, 15 _law_n, 16 _law_m, 17 _law_here, 18 _law_total, 19 _law_one -/
def ir60 : Stm := (.seq (.asg [1] (.call 1 (.cons (.var 0) (.cons (.int 957) .nil)))) (.seq (.par [2, 3, 4] (.cons (.call 2 (.cons (.var 1) (.cons (.lst (.cons (.str "left") (.cons (.str "right") .nil))) .nil))) (.cons (.call 3 (.cons (.var 1) .nil)) (.cons (.call 4 (.cons (.var 1) (.cons (.int 6) .nil))) .nil)))) (.seq (.asg [5] (.mkd 5 (.cons (.var 2) (.cons (.var 3) (.cons (.var 4) .nil))))) (.seq (.asg [6] (.bop .add (.bi .abs (.cons (.ix (.var 3) (.int 1)) .nil)) (.call 39 (.cons (.var 4) .nil)))) (.seq (.asg [7] (.call 61 (.cons (.var 5) .nil))) (.seq (.ite (.or (.not (.call 8 (.cons (.call 44 (.cons (.var 5) .nil)) (.cons (.var 6) .nil)))) (.or (.not (.isi .tup (.var 7))) (.cmp .ne (.bi .len (.cons (.var 7) .nil)) (.int 3)))) (.ret (.bl false)) .nop) (.seq (.asg [8, 9, 10] (.var 7)) (.seq (.ite (.not (.call 8 (.cons (.lst (.cons (.cmp .mem (.var 8) (.tup (.cons (.str "first") (.cons (.str "second") .nil)))) (.cons (.isi .tup (.var 10)) (.cons (.cmp .le (.bi .abs (.cons (.var 9) .nil)) (.var 6)) .nil)))) (.cons (.bop .mul (.lst (.cons (.bl true) .nil)) (.int 3)) .nil)))) (.ret (.bl false)) .nop) (.seq (.asg [11, 12, 13] (.var 10)) (.seq (.loop (.rng1 (.int 5)) [14] (.seq (.asg [15] (.bi .max (.cons (.lst (.cons (.int 2) (.cons (.bop .add (.bop .add (.var 6) (.int 1)) (.call 2 (.cons (.var 1) (.cons (.lst (.cons (.int 0) (.cons (.int 1) (.cons (.call 6 (.cons (.var 1) (.cons (.int 20) .nil))) .nil)))) .nil)))) .nil))) .nil))) (.seq (.asg [16] (.bi .max (.cons (.lst (.cons (.int 2) (.cons (.bop .add (.bop .add (.var 6) (.int 1)) (.call 2 (.cons (.var 1) (.cons (.lst (.cons (.int 0) (.cons (.int 1) (.cons (.call 6 (.cons (.var 1) (.cons (.int 20) .nil))) .nil)))) .nil)))) .nil))) .nil))) (.seq (.asg [17, 18] (.ix (.call 7 (.cons (.var 2) (.cons (.var 3) (.cons (.var 4) (.cons (.tup (.cons (.var 15) (.cons (.var 16) .nil))) .nil))))) (.neg (.int 1)))) (.ite (.or (.cmp .ne (.var 17) (.tup (.cons (.var 8) (.cons (.bop .mod (.var 9) (.ite (.cmp .eq (.var 8) (.str "first")) (.var 15) (.var 16))) .nil)))) (.cmp .ne (.var 18) (.bop .add (.bop .add (.var 11) (.bop .mul (.var 12) (.var 15))) (.bop .mul (.var 13) (.var 16))))) (.ret (.bl false)) .nop))))) (.ret (.bi .all (.cons (.lc [19] (.cons (.tup (.cons (.var 9) (.cons (.var 11) (.cons (.var 12) (.cons (.var 13) .nil))))) .nil) [19] .yes (.and (.isi .int (.var 19)) (.not (.isi .bool (.var 19))))) .nil)))))))))))))
/-- form: 0 drive, 1 here, 2 arm, 3 plain, 4 rounds, 5 step -/
def ir61 : Stm := (.seq (.par [1, 2] (.cons (.cix 1 (.ix (.prop 20 (.var 0)) (.int 0))) (.cons (.ix (.prop 20 (.var 0)) (.int 1)) .nil))) (.seq (.par [3, 4] (.cons (.int 0) (.cons (.cel (.cons (.int 0) (.cons (.int 0) .nil))) .nil))) (.seq (.loop (.cons (.prop 19 (.var 0)) .nil) [5] (.seq (.aug 2 .add (.call 28 (.cons (.prop 21 (.var 0)) (.cons (.var 5) .nil)))) (.seq (.ite (.cmp .eq (.ix (.var 5) (.int 0)) (.str "on")) (.aug 3 .add (.bop .sub (.ix (.var 5) (.int 1)) (.int 1))) (.seq (.aug 3 .sub (.bop .add (.int 1) (.ite (.cmp .eq (.ix (.var 5) (.int 0)) (.str "short")) (.ix (.var 5) (.int 1)) (.int 0)))) (.augi (.var 4) (.var 1) .add (.int 1)))) (.ite (.cmp .eq (.var 2) (.int 0)) (.asg [1] (.bop .sub (.int 1) (.var 1))) .nop)))) (.seq (.frz 4) (.ret (.tup (.cons (.ix (.con 1) (.var 1)) (.cons (.var 2) (.cons (.tup (.cons (.var 3) (.cons (.ix (.var 4) (.int 0)) (.cons (.ix (.var 4) (.int 1)) .nil)))) .nil)))))))))
/-- law k08: 0 _law_script, 1 _law_d, 2 _law_side, 3 _law_start_here, 4 _law_steps_here, 5 _law_drive, 6 _law_k, 7 _law_land, 8 _law_first, 9 _law_here, 10 _law_due, 11 _law_odd -/
def ir62 : Stm := (.seq (.asg [1] (.call 1 (.cons (.var 0) (.cons (.int 958) .nil)))) (.seq (.par [2, 3, 4] (.cons (.call 2 (.cons (.var 1) (.cons (.lst (.cons (.str "left") (.cons (.str "right") .nil))) .nil))) (.cons (.call 3 (.cons (.var 1) .nil)) (.cons (.call 4 (.cons (.var 1) (.cons (.int 4) .nil))) .nil)))) (.seq (.asg [5] (.mkd 5 (.cons (.var 2) (.cons (.var 3) (.cons (.var 4) .nil))))) (.seq (.loop (.rng1 (.int 4)) [6] (.seq (.asg [7] (.tup (.cons (.bop .add (.int 2) (.call 6 (.cons (.var 1) (.cons (.int 13) .nil)))) (.cons (.bop .add (.int 2) (.call 6 (.cons (.var 1) (.cons (.int 13) .nil)))) .nil)))) (.seq (.ite (.cmp .eq (.call 6 (.cons (.var 1) (.cons (.int 6) .nil))) (.int 0)) (.asg [7] (.call 2 (.cons (.var 1) (.cons (.lst (.cons (.tup (.cons (.int 200) (.cons (.ix (.var 7) (.int 1)) .nil))) (.cons (.tup (.cons (.ix (.var 7) (.int 0)) (.cons (.int 200) .nil))) .nil))) .nil)))) .nop) (.seq (.asg [8] (.call 30 (.cons (.var 2) (.cons (.var 3) (.cons (.tup .nil) (.cons (.var 7) .nil)))))) (.seq (.asg [9] (.call 30 (.cons (.var 2) (.cons (.var 3) (.cons (.var 4) (.cons (.var 7) .nil)))))) (.seq (.asg [10] (.int 1)) (.seq (.whil 1000 (.and (.cmp .ne (.var 9) (.var 8)) (.cmp .lt (.var 10) (.int 405))) (.seq (.asg [9] (.call 30 (.cons (.var 2) (.cons (.var 9) (.cons (.var 4) (.cons (.var 7) .nil)))))) (.asg [10] (.bop .add (.var 10) (.int 1))))) (.ite (.not (.call 8 (.cons (.call 63 (.cons (.var 5) (.cons (.var 7) .nil))) (.cons (.var 10) .nil)))) (.ret (.bl false)) .nop)))))))) (.seq (.asg [11] (.call 2 (.cons (.var 1) (.cons (.lst (.cons .non (.cons (.tup (.cons (.int 1) (.cons (.int 2) .nil))) (.cons (.tup (.cons (.int 201) (.cons (.int 2) .nil))) (.cons (.tup (.cons (.int 2) (.cons (.int 201) .nil))) (.cons (.lst (.cons (.int 2) (.cons (.int 2) .nil))) (.cons (.tup (.cons (.bl true) (.cons (.int 2) .nil))) (.cons (.tup (.cons (.int 2) .nil)) (.cons (.tup (.cons (.bop .pow (.int 10) (.int 30)) (.cons (.int 2) .nil))) (.cons (.str "22") (.cons (.tup .nil) .nil))))))))))) .nil)))) (.ret (.cmp .eq (.call 64 (.cons (.var 5) (.cons (.var 11) .nil))) (.str "land"))))))))
/-- home: 0 drive, 1 land, 2 first, 3 here, 4 found, 5 step -/
def ir63 : Stm := (.seq (.ex (.call 17 (.cons (.var 1) (.cons (.con 8) .nil)))) (.seq (.asg [2] (.call 26 (.cons (.prop 20 (.var 0)) (.cons (.var 1) .nil)))) (.seq (.par [3, 4] (.cons (.var 2) (.cons (.int 0) .nil))) (.seq (.whil 1000 (.or (.cmp .eq (.var 4) (.int 0)) (.cmp .ne (.var 3) (.var 2))) (.seq (.loop (.cons (.prop 19 (.var 0)) .nil) [5] (.asg [3] (.call 27 (.cons (.prop 21 (.var 0)) (.cons (.var 5) (.cons (.var 1) (.cons (.var 3) .nil))))))) (.aug 4 .add (.int 1)))) (.ret (.var 4))))))
/-- _law_told: 0 _law_drive, 1 _law_land, 2 _law_told_here -/
def ir64 : Stm := (.seq (.asg [2] .non) (.seq (.tri (.asg [2] (.call 63 (.cons (.var 0) (.cons (.var 1) .nil)))) (.hand 3 (.asg [2] (.str "land")) .nop)) (.ret (.var 2))))
/-- law k09: 0 _law_script, 1 _law_d, 2 _law_top, 3 _law_lands_here, 4 _law_true, 5 _law_seen, 6 _law_right, 7 _law_k, 8 _law_side, 9 _law_start_here, 10 _law_steps_here, 11 _law_spot, 12 _law_drives, 13 _law_due, 14 _law_ends, 15 _law_some, 16 _law_odd, 17 _law_land, 18 _law_end_here -/
def ir65 : Stm := (.seq (.asg [1] (.call 1 (.cons (.var 0) (.cons (.int 959) .nil)))) (.seq (.asg [2] (.bop .add (.int 2) (.call 2 (.cons (.var 1) (.cons (.lst (.cons (.call 6 (.cons (.var 1) (.cons (.int 6) .nil))) (.cons (.call 6 (.cons (.var 1) (.cons (.int 19) .nil))) .nil))) .nil))))) (.seq (.asg [3] (.call 66 (.cons (.tup (.cons (.int 2) (.cons (.int 2) .nil))) (.cons (.var 2) .nil)))) (.seq (.asg [4] (.call 2 (.cons (.var 1) (.cons (.var 3) .nil)))) (.seq (.asg [5] (.cel .nil)) (.seq (.asg [6] (.var 3)) (.seq (.loop (.rng1 (.call 6 (.cons (.var 1) (.cons (.int 4) .nil)))) [7] (.seq (.asg [8, 9, 10] (.tup (.cons (.call 2 (.cons (.var 1) (.cons (.lst (.cons (.str "left") (.cons (.str "right") .nil))) .nil))) (.cons (.call 3 (.cons (.var 1) .nil)) (.cons (.call 4 (.cons (.var 1) (.cons (.int 4) .nil))) .nil))))) (.seq (.asg [11] (.call 30 (.cons (.var 8) (.cons (.var 9) (.cons (.var 10) (.cons (.var 4) .nil)))))) (.seq (.ite (.cmp .eq (.call 6 (.cons (.var 1) (.cons (.int 6) .nil))) (.int 0)) (.asg [11] (.tup (.cons (.call 2 (.cons (.var 1) (.cons (.lst (.cons (.str "first") (.cons (.str "second") .nil))) .nil))) (.cons (.call 6 (.cons (.var 1) (.cons (.int 5) .nil))) .nil)))) .nop) (.seq (.ex (.app (.var 5) (.tup (.cons (.mkd 5 (.cons (.var 8) (.cons (.var 9) (.cons (.var 10) .nil)))) (.cons (.var 11) .nil))))) (.asg [6] (.lc [17] (.cons (.var 6) .nil) [17] (.cmp .eq (.call 30 (.cons (.var 8) (.cons (.var 9) (.cons (.var 10) (.cons (.var 17) .nil))))) (.var 11)) (.var 17)))))))) (.seq (.frz 5) (.seq (.ite (.not (.call 8 (.cons (.lst (.cons (.call 67 (.cons (.var 5) (.cons (.var 2) .nil))) (.cons (.call 67 (.cons (.bi .tuple (.cons (.var 5) .nil)) (.cons (.var 2) .nil))) .nil))) (.cons (.lst (.cons (.var 6) (.cons (.var 6) .nil))) .nil)))) (.ret (.bl false)) .nop) (.seq (.asg [12] (.cel .nil)) (.seq (.asg [13] .non) (.seq (.loop (.rng1 (.call 6 (.cons (.var 1) (.cons (.int 4) .nil)))) [7] (.seq (.asg [8, 9, 10] (.tup (.cons (.call 2 (.cons (.var 1) (.cons (.lst (.cons (.str "left") (.cons (.str "right") .nil))) .nil))) (.cons (.call 3 (.cons (.var 1) .nil)) (.cons (.call 4 (.cons (.var 1) (.cons (.int 3) .nil))) .nil))))) (.seq (.ex (.app (.var 12) (.mkd 5 (.cons (.var 8) (.cons (.var 9) (.cons (.var 10) .nil)))))) (.seq (.asg [14] (.lc [17] (.cons (.var 6) .nil) [17] .yes (.call 30 (.cons (.var 8) (.cons (.var 9) (.cons (.var 10) (.cons (.var 17) .nil))))))) (.ite (.and (.cmp .is (.var 13) .non) (.cmp .ne (.lc [18] (.cons (.var 14) .nil) [18] (.cmp .ne (.var 18) (.ix (.var 14) (.int 0))) (.var 18)) (.lst .nil))) (.asg [13] (.var 7)) .nop))))) (.seq (.frz 12) (.seq (.ite (.not (.call 8 (.cons (.lst (.cons (.call 68 (.cons (.var 5) (.cons (.var 12) (.cons (.var 2) .nil)))) (.cons (.call 68 (.cons (.bi .tuple (.cons (.var 5) .nil)) (.cons (.bi .tuple (.cons (.var 12) .nil)) (.cons (.var 2) .nil)))) .nil))) (.cons (.lst (.cons (.var 13) (.cons (.var 13) .nil))) .nil)))) (.ret (.bl false)) .nop) (.seq (.asg [15] (.mkd 5 (.cons (.str "left") (.cons (.tup (.cons (.str "first") (.cons (.int 0) .nil))) (.cons (.tup .nil) .nil))))) (.seq (.asg [16] (.lst (.cons .non (.cons (.var 15) (.cons (.tup (.cons (.var 15) .nil)) (.cons (.lst (.cons (.var 15) (.cons (.tup (.cons (.str "first") (.cons (.int 0) .nil))) .nil))) (.cons (.tup (.cons (.var 15) (.cons (.tup (.cons (.str "first") (.cons (.neg (.int 1)) .nil))) .nil))) (.cons (.tup (.cons (.var 15) (.cons (.tup (.cons (.str "third") (.cons (.int 0) .nil))) .nil))) (.cons (.tup (.cons (.var 15) (.cons (.tup (.cons (.str "first") .nil)) .nil))) .nil))))))))) (.seq (.asg [16] (.bop .add (.var 16) (.lst (.cons (.tup (.cons (.tup (.cons (.str "first") (.cons (.int 0) .nil))) (.cons (.var 15) .nil))) (.cons (.tup (.cons (.var 15) (.cons (.lst (.cons (.str "first") (.cons (.int 0) .nil))) .nil))) (.cons (.tup (.cons (.var 15) (.cons (.tup (.cons (.str "first") (.cons (.bl true) .nil))) .nil))) (.cons (.tup (.cons (.var 15) (.cons .non .nil))) (.cons (.tup (.cons (.tup .nil) (.cons (.tup (.cons (.str "first") (.cons (.int 0) .nil))) .nil))) .nil)))))))) (.ret (.cmp .eq (.call 69 (.cons (.bop .add (.var 5) (.lst (.cons (.call 2 (.cons (.var 1) (.cons (.var 16) .nil))) (.cons .non .nil)))) (.cons (.call 6 (.cons (.var 1) (.cons (.int 2) .nil))) .nil))) (.bi .len (.cons (.var 5) .nil)))))))))))))))))))))
/-- _law_lands: 0 _law_fact, 1 _law_most, 2 _law_found, 3 _law_total, 4 _law_n -/
def ir66 : Stm := (.seq (.asg [2] (.cel .nil)) (.seq (.loop (.rng2 (.bop .add (.ix (.var 0) (.int 0)) (.ix (.var 0) (.int 1))) (.bop .add (.bop .mul (.int 2) (.var 1)) (.int 1))) [3] (.loop (.rng2 (.bi .max (.cons (.lst (.cons (.ix (.var 0) (.int 0)) (.cons (.bop .sub (.var 3) (.var 1)) .nil))) .nil)) (.bop .add (.bi .min (.cons (.lst (.cons (.var 1) (.cons (.bop .sub (.var 3) (.ix (.var 0) (.int 1))) .nil))) .nil)) (.int 1))) [4] (.ex (.app (.var 2) (.tup (.cons (.var 4) (.cons (.bop .sub (.var 3) (.var 4)) .nil))))))) (.seq (.frz 2) (.ret (.var 2)))))
/-- fitting: 0 seen, 1 most, 2 index, 3 one, 4 found, 5 drive, 6 told, 7 land -/
def ir67 : Stm := (.seq (.loop (.enum (.var 0)) [2, 3] (.ite (.not (.call 70 (.cons (.var 3) .nil))) (.rais 5 ["index"] (.cons (.var 2) .nil)) .nop)) (.seq (.asg [4] (.call 43 (.cons (.tup (.cons (.int 2) (.cons (.int 2) .nil))) (.cons (.var 1) .nil)))) (.seq (.loop (.cons (.var 0) .nil) [5, 6] (.asg [4] (.lc [7] (.cons (.var 4) .nil) [7] (.cmp .eq (.call 45 (.cons (.var 5) (.cons (.var 7) .nil))) (.var 6)) (.var 7)))) (.ret (.var 4)))))
/-- asking: 0 seen, 1 drives, 2 most, 3 lands, 4 index, 5 drive, 6 land -/
def ir68 : Stm := (.seq (.asg [3] (.call 67 (.cons (.var 0) (.cons (.var 2) .nil)))) (.seq (.loop (.enum (.var 1)) [4, 5] (.ite (.cmp .gt (.nset (.lc [6] (.cons (.var 3) .nil) [6] .yes (.call 45 (.cons (.var 5) (.cons (.var 6) .nil))))) (.int 1)) (.ret (.var 4)) .nop)) (.ret .non)))
/-- _law_told: 0 _law_seen, 1 _law_kind, 2 _law_told_here, 3 e -/
def ir69 : Stm := (.seq (.asg [2] .non) (.seq (.tri (.asg [2] (.ite (.cmp .eq (.var 1) (.int 0)) (.call 67 (.cons (.var 0) (.cons (.int 4) .nil))) (.call 68 (.cons (.var 0) (.cons (.lst .nil) (.cons (.int 4) .nil)))))) (.handX 5 3 2 (.fld "index") .nop)) (.ret (.var 2))))
/-- is_seen: 0 value, 1 told -/
def ir70 : Stm := (.seq (.ite (.or (.not (.isi .tup (.var 0))) (.or (.cmp .ne (.bi .len (.cons (.var 0) .nil)) (.int 2)) (.not (.isi .drv (.ix (.var 0) (.int 0)))))) (.ret (.bl false)) .nop) (.seq (.asg [1] (.ix (.var 0) (.int 1))) (.seq (.ite (.or (.not (.isi .tup (.var 1))) (.or (.cmp .ne (.bi .len (.cons (.var 1) .nil)) (.int 2)) (.not (.call 23 (.cons (.ix (.var 1) (.int 0)) (.cons (.con 1) .nil)))))) (.ret (.bl false)) .nop) (.ret (.and (.isi .int (.ix (.var 1) (.int 1))) (.and (.not (.isi .bool (.ix (.var 1) (.int 1)))) (.cmp .ge (.ix (.var 1) (.int 1)) (.int 0))))))))
/-- law k10: 0 _law_script, 1 _law_d, 2 _law_side, 3 _law_start_here, 4 _law_land, 5 _law_car, 6 _law_steps, 7 _law_k, 8 _law_pick_here, 9 _law_odd, 10 _law_spot, 11 _law_many, 12 _law_bad_here, 13 _law_wrong, 14 _law_told -/
def ir71 : Stm := (.seq (.asg [1] (.call 1 (.cons (.var 0) (.cons (.int 960) .nil)))) (.seq (.par [2, 3] (.cons (.call 2 (.cons (.var 1) (.cons (.lst (.cons (.str "left") (.cons (.str "right") .nil))) .nil))) (.cons (.call 3 (.cons (.var 1) .nil)) .nil))) (.seq (.asg [4] (.tup (.cons (.bop .add (.int 2) (.call 6 (.cons (.var 1) (.cons (.int 9) .nil)))) (.cons (.bop .add (.int 2) (.call 6 (.cons (.var 1) (.cons (.int 9) .nil)))) .nil)))) (.seq (.asg [5] (.mkc 1 72 (.cons (.var 2) (.cons (.var 3) (.cons (.var 4) .nil))))) (.seq (.asg [6] (.tup .nil)) (.seq (.loop (.rng1 (.call 6 (.cons (.var 1) (.cons (.int 11) .nil)))) [7] (.seq (.asg [8] (.call 6 (.cons (.var 1) (.cons (.int 5) .nil)))) (.seq (.ite (.cmp .eq (.var 8) (.int 0)) (.seq (.ite (.cmp .ne (.meth 1 94 "undo" (.var 5) .nil) (.cmp .ne (.var 6) (.tup .nil))) (.ret (.bl false)) .nop) (.asg [6] (.sl (.var 6) .nil (.cons (.neg (.int 1)) .nil)))) (.ite (.cmp .eq (.var 8) (.int 1)) (.seq (.asg [9] (.lst (.cons .non (.cons (.tup .nil) (.cons (.tup (.cons (.str "on") .nil)) (.cons (.tup (.cons (.str "on") (.cons (.int 0) .nil))) (.cons (.tup (.cons (.str "on") (.cons (.int 5) .nil))) (.cons (.tup (.cons (.str "short") (.cons (.int 4) .nil))) (.cons (.tup (.cons (.str "same") (.cons (.int 1) .nil))) (.cons (.str "same") (.cons (.lst (.cons (.str "same") .nil)) .nil))))))))))) (.seq (.asg [9] (.bop .add (.var 9) (.lst (.cons (.tup (.cons (.int 1) (.cons (.int 2) .nil))) (.cons (.tup (.cons (.str "on") (.cons (.bl true) .nil))) (.cons (.tup (.cons (.str "out") (.cons (.int 1) .nil))) (.cons (.tup (.cons (.str "short") (.cons .non .nil))) .nil))))))) (.ite (.not (.call 8 (.cons (.call 73 (.cons (.var 5) (.cons (.call 2 (.cons (.var 1) (.cons (.var 9) .nil))) .nil))) (.cons (.int 0) .nil)))) (.ret (.bl false)) .nop))) (.seq (.asg [6] (.bop .add (.var 6) (.tup (.cons (.call 13 (.cons (.var 1) .nil)) .nil)))) (.ite (.not (.call 8 (.cons (.meth 1 95 "go" (.var 5) (.cons (.ix (.var 6) (.neg (.int 1))) .nil)) (.cons (.ix (.ix (.call 74 (.cons (.var 2) (.cons (.var 3) (.cons (.var 6) (.cons (.var 4) .nil))))) (.neg (.int 1))) (.int 0)) .nil)))) (.ret (.bl false)) .nop)))) (.seq (.asg [10, 11] (.ix (.call 74 (.cons (.var 2) (.cons (.var 3) (.cons (.var 6) (.cons (.var 4) .nil))))) (.neg (.int 1)))) (.seq (.ite (.not (.call 8 (.cons (.lst (.cons (.meth 1 97 "where" (.var 5) .nil) (.cons (.meth 1 96 "arms" (.var 5) .nil) (.cons (.leno 1 90 (.var 5)) .nil)))) (.cons (.lst (.cons (.var 10) (.cons (.var 11) (.cons (.bi .len (.cons (.var 6) .nil)) .nil)))) .nil)))) (.ret (.bl false)) .nop) (.ite (.not (.call 8 (.cons (.call 98 (.cons (.var 5) .nil)) (.cons (.ite (.cmp .lt (.bi .len (.cons (.var 6) .nil)) (.int 7)) (.tup (.cons (.var 2) (.cons (.var 3) (.cons (.var 6) .nil)))) (.str "long")) .nil)))) (.ret (.bl false)) .nop)))))) (.seq (.asg [12] (.call 2 (.cons (.var 1) (.cons (.lst (.cons .non (.cons (.str "") (.cons (.str "up") (.cons (.int 0) (.cons (.tup (.cons (.str "left") .nil)) (.cons (.bl true) .nil))))))) .nil)))) (.seq (.asg [9] (.call 2 (.cons (.var 1) (.cons (.lst (.cons .non (.cons (.tup .nil) (.cons (.tup (.cons (.str "first") (.cons (.int 3) .nil))) (.cons (.tup (.cons (.str "third") (.cons (.int 0) .nil))) (.cons (.tup (.cons (.str "first") (.cons (.bl true) .nil))) (.cons (.lst (.cons (.str "first") (.cons (.int 0) .nil))) (.cons (.tup (.cons (.str "first") .nil)) (.cons (.tup (.cons (.str "first") (.cons (.neg (.int 3)) .nil))) .nil))))))))) .nil)))) (.seq (.asg [13] (.call 2 (.cons (.var 1) (.cons (.lst (.cons .non (.cons (.tup (.cons (.int 1) (.cons (.int 2) .nil))) (.cons (.lst (.cons (.int 2) (.cons (.int 2) .nil))) (.cons (.tup (.cons (.int 2) (.cons (.bop .add (.bop .pow (.int 10) (.int 30)) (.int 1)) .nil))) (.cons (.tup (.cons (.bl true) (.cons (.int 2) .nil))) (.cons (.tup .nil) .nil))))))) .nil)))) (.seq (.asg [14] (.lst (.cons (.call 75 (.cons (.var 12) (.cons (.var 9) (.cons (.var 13) .nil)))) (.cons (.call 75 (.cons (.var 2) (.cons (.var 9) (.cons (.var 13) .nil)))) (.cons (.call 75 (.cons (.var 2) (.cons (.var 3) (.cons (.var 13) .nil)))) .nil))))) (.ret (.cmp .eq (.bop .add (.var 14) (.lst (.cons (.call 75 (.cons (.var 2) (.cons (.var 3) (.cons (.tup (.cons (.bop .pow (.int 10) (.int 30)) (.cons (.int 2) .nil))) .nil)))) .nil))) (.lst (.cons (.str "side") (.cons (.str "start") (.cons (.str "land") (.cons .non .nil)))))))))))))))))
/-- Car.__init__: 0 self, 1 side, 2 start, 3 land -/
def ir72 : Stm := (.seq (.ex (.call 14 (.cons (.var 1) (.cons (.var 2) .nil)))) (.seq (.ex (.call 17 (.cons (.var 3) (.cons (.con 0) .nil)))) (.seq (.setf (.var 0) "origin" (.tup (.cons (.var 1) (.cons (.var 2) (.cons (.var 3) .nil))))) (.seq (.seto (.var 0) "noted" .nil) (.seto (.var 0) "spots" (.cons (.tup (.cons (.call 26 (.cons (.var 2) (.cons (.var 3) .nil))) (.cons (.int 0) .nil))) .nil))))))
/-- _law_bad: 0 _law_car, 1 _law_step_here, 2 _law_told, 3 e -/
def ir73 : Stm := (.seq (.asg [2] .non) (.seq (.tri (.ex (.meth 1 95 "go" (.var 0) (.cons (.var 1) .nil))) (.handX 2 3 2 (.fld "index") .nop)) (.ret (.var 2))))
/-- _law_led: 0 _law_side, 1 _law_start_here, 2 _law_steps, 3 _law_land, 4 _law_numbers, 5 _law_rows, 6 _law_step_here, 7 _law_spot, 8 _law_total, 9 _law_arm, 10 _law_many, 11 _law_later -/
def ir74 : Stm := (.seq (.asg [4] (.map ["first", "second"] (.cons (.ix (.var 3) (.int 0)) (.cons (.ix (.var 3) (.int 1)) .nil)))) (.seq (.asg [5] (.cel (.cons (.tup (.cons (.tup (.cons (.ix (.var 1) (.int 0)) (.cons (.bop .mod (.ix (.var 1) (.int 1)) (.ix (.var 4) (.ix (.var 1) (.int 0)))) .nil))) (.cons (.int 0) .nil))) .nil))) (.seq (.loop (.cons (.var 2) .nil) [6] (.seq (.asg [7, 8] (.ix (.var 5) (.neg (.int 1)))) (.seq (.asg [9, 10] (.call 16 (.cons (.var 0) (.cons (.var 6) (.cons (.ix (.var 4) (.ix (.var 7) (.int 0))) (.cons (.ix (.var 7) (.int 1)) .nil)))))) (.seq (.asg [11] (.tup (.cons (.ix (.var 7) (.int 0)) (.cons (.var 9) .nil)))) (.seq (.ite (.cmp .eq (.var 9) (.int 0)) (.asg [11] (.tup (.cons (.ite (.cmp .eq (.ix (.var 7) (.int 0)) (.str "first")) (.str "second") (.str "first")) (.cons (.int 0) .nil)))) .nop) (.ex (.app (.var 5) (.tup (.cons (.var 11) (.cons (.bop .add (.var 8) (.var 10)) .nil)))))))))) (.seq (.frz 5) (.ret (.var 5))))))
/-- _law_begun: 0 _law_side, 1 _law_start_here, 2 _law_land, 3 _law_told -/
def ir75 : Stm := (.seq (.asg [3] .non) (.seq (.tri (.ex (.mkc 1 72 (.cons (.var 0) (.cons (.var 1) (.cons (.var 2) .nil))))) (.hand 0 (.asg [3] (.str "side")) (.hand 1 (.asg [3] (.str "start")) (.hand 3 (.asg [3] (.str "land")) .nop)))) (.ret (.var 3))))
/-- law k11: 0 _law_script, 1 _law_d, 2 _law_side, 3 _law_start_here, 4 _law_steps_here, 5 _law_other, 6 _law_drive, 7 _law_bad, 8 _law_odd, 9 _law_wrong, 10 _law_told_here, 11 _law_due, 12 _law_k, 13 _law_many -/
def ir76 : Stm := (.seq (.asg [1] (.call 1 (.cons (.var 0) (.cons (.int 961) .nil)))) (.seq (.par [2, 3, 4] (.cons (.call 2 (.cons (.var 1) (.cons (.lst (.cons (.str "left") (.cons (.str "right") .nil))) .nil))) (.cons (.call 3 (.cons (.var 1) .nil)) (.cons (.call 4 (.cons (.var 1) (.cons (.int 6) .nil))) .nil)))) (.seq (.asg [5] (.tup (.cons (.call 2 (.cons (.var 1) (.cons (.lst (.cons (.str "left") (.cons (.str "right") .nil))) .nil))) (.cons (.call 2 (.cons (.var 1) (.cons (.lst (.cons (.var 3) (.cons (.call 3 (.cons (.var 1) .nil)) .nil))) .nil))) .nil)))) (.seq (.asg [5] (.bop .add (.var 5) (.tup (.cons (.call 2 (.cons (.var 1) (.cons (.lst (.cons (.var 4) (.cons (.call 4 (.cons (.var 1) (.cons (.int 3) .nil))) .nil))) .nil))) .nil)))) (.seq (.asg [6] (.mkd 5 (.cons (.var 2) (.cons (.var 3) (.cons (.var 4) .nil))))) (.seq (.ite (.not (.call 8 (.cons (.lst (.cons (.prop 21 (.var 6)) (.cons (.prop 20 (.var 6)) (.cons (.prop 19 (.var 6)) (.cons (.leno 0 91 (.var 6)) .nil))))) (.cons (.lst (.cons (.var 2) (.cons (.var 3) (.cons (.var 4) (.cons (.bi .len (.cons (.var 4) .nil)) .nil))))) .nil)))) (.ret (.bl false)) .nop) (.seq (.ite (.or (.not (.eqo 92 (.var 6) (.mkd 5 (.cons (.var 2) (.cons (.var 3) (.cons (.var 4) .nil)))))) (.eqo 92 (.var 6) (.tup (.cons (.var 2) (.cons (.var 3) (.cons (.var 4) .nil)))))) (.ret (.bl false)) .nop) (.seq (.ite (.cmp .ne (.eqo 92 (.var 6) (.mkd 5 (.cons (.ix (.var 5) (.int 0)) (.cons (.ix (.var 5) (.int 1)) (.cons (.ix (.var 5) (.int 2)) .nil))))) (.cmp .eq (.tup (.cons (.var 2) (.cons (.var 3) (.cons (.var 4) .nil)))) (.var 5))) (.ret (.bl false)) .nop) (.seq (.asg [7] (.call 2 (.cons (.var 1) (.cons (.lst (.cons .non (.cons (.str "") (.cons (.str "Left") (.cons (.str "up") (.cons (.int 0) (.cons (.tup (.cons (.str "left") .nil)) (.cons (.bl true) (.cons (.lst .nil) .nil))))))))) .nil)))) (.seq (.asg [8] (.lst (.cons .non (.cons (.tup .nil) (.cons (.tup (.cons (.str "first") (.cons (.int 3) .nil))) (.cons (.tup (.cons (.str "first") (.cons (.neg (.int 3)) .nil))) (.cons (.tup (.cons (.str "third") (.cons (.int 0) .nil))) (.cons (.tup (.cons (.str "first") (.cons (.bl true) .nil))) (.cons (.lst (.cons (.str "first") (.cons (.int 0) .nil))) (.cons (.tup (.cons (.str "first") .nil)) (.cons (.tup (.cons (.int 0) (.cons (.str "first") .nil))) .nil))))))))))) (.seq (.asg [8] (.call 2 (.cons (.var 1) (.cons (.bop .add (.var 8) (.lst (.cons (.tup (.cons (.str "first") (.cons (.str "0") .nil))) (.cons (.tup (.cons (.str "first") (.cons (.int 0) (.cons (.int 0) .nil)))) (.cons (.str "first") (.cons (.tup (.cons .non (.cons (.int 0) .nil))) .nil)))))) .nil)))) (.seq (.asg [9] (.lst (.cons .non (.cons (.tup .nil) (.cons (.tup (.cons (.str "on") .nil)) (.cons (.tup (.cons (.str "on") (.cons (.int 0) .nil))) (.cons (.tup (.cons (.str "on") (.cons (.int 5) .nil))) (.cons (.tup (.cons (.str "short") (.cons (.int 0) .nil))) (.cons (.tup (.cons (.str "short") (.cons (.int 4) .nil))) (.cons (.tup (.cons (.str "same") (.cons (.int 1) .nil))) (.cons (.str "same") .nil))))))))))) (.seq (.asg [9] (.bop .add (.var 9) (.lst (.cons (.lst (.cons (.str "same") .nil)) (.cons (.tup (.cons (.int 1) (.cons (.int 2) .nil))) (.cons (.tup (.cons (.str "on") (.cons (.bl true) .nil))) (.cons (.tup (.cons (.str "on") (.cons (.str "1") .nil))) (.cons (.tup (.cons (.str "out") (.cons (.int 1) .nil))) (.cons (.tup (.cons (.str "short") (.cons .non .nil))) .nil))))))))) (.seq (.asg [9] (.call 2 (.cons (.var 1) (.cons (.bop .add (.var 9) (.lst (.cons (.bop .mul (.tup (.cons (.str "same") .nil)) (.int 2)) (.cons (.map [] .nil) (.cons (.tup (.cons (.str "on") (.cons (.int 1) (.cons (.int 1) .nil)))) .nil))))) .nil)))) (.seq (.asg [10] (.lst (.cons (.call 77 (.cons (.var 7) (.cons (.var 8) (.cons (.var 9) .nil)))) (.cons (.call 77 (.cons (.var 2) (.cons (.var 8) (.cons (.var 9) .nil)))) (.cons (.call 77 (.cons (.var 2) (.cons (.var 3) (.cons (.var 9) .nil)))) .nil))))) (.seq (.asg [11] (.ite (.isi .tup (.var 9)) (.int 0) (.neg (.int 1)))) (.seq (.ite (.or (.cmp .ne (.sl (.var 10) .nil (.cons (.int 2) .nil)) (.lst (.cons (.str "side") (.cons (.str "start") .nil)))) (.cmp .ne (.ix (.var 10) (.int 2)) (.ite (.cmp .eq (.var 9) (.tup .nil)) .non (.var 11)))) (.ret (.bl false)) .nop) (.seq (.asg [12] (.call 6 (.cons (.var 1) (.cons (.bop .add (.bi .min (.cons (.lst (.cons (.bi .len (.cons (.var 4) .nil)) (.cons (.int 5) .nil))) .nil)) (.int 1)) .nil)))) (.seq (.ite (.cmp .ne (.call 77 (.cons (.var 2) (.cons (.var 3) (.cons (.bop .add (.bop .add (.sl (.var 4) .nil (.cons (.var 12) .nil)) (.tup (.cons (.var 9) .nil))) (.sl (.var 4) (.cons (.var 12) .nil) (.cons (.int 5) .nil))) .nil)))) (.var 12)) (.ret (.bl false)) .nop) (.seq (.asg [13] (.call 2 (.cons (.var 1) (.cons (.lst (.cons .non (.cons (.bi .list (.cons (.var 4) .nil)) (.cons (.str "same") (.cons (.bop .mul (.tup (.cons (.tup (.cons (.str "same") .nil)) .nil)) (.int 7)) (.cons (.bop .mul (.tup (.cons (.var 9) .nil)) (.int 7)) (.cons (.int 3) .nil))))))) .nil)))) (.ret (.and (.cmp .eq (.call 77 (.cons (.var 2) (.cons (.var 3) (.cons (.var 13) .nil)))) (.neg (.int 1))) (.cmp .is (.call 77 (.cons (.var 2) (.cons (.var 3) (.cons (.bop .mul (.tup (.cons (.tup (.cons (.str "same") .nil)) .nil)) (.int 6)) .nil)))) .non)))))))))))))))))))))))
/-- _law_told: 0 _law_side, 1 _law_start_here, 2 _law_steps_here, 3 _law_told_here, 4 e -/
def ir77 : Stm := (.seq (.asg [3] .non) (.seq (.tri (.ex (.mkd 5 (.cons (.var 0) (.cons (.var 1) (.cons (.var 2) .nil))))) (.hand 0 (.asg [3] (.str "side")) (.hand 1 (.asg [3] (.str "start")) (.handX 2 4 3 (.fld "index") .nop)))) (.ret (.var 3))))
/-- law k12: 0 _law_script, 1 _law_d, 2 _law_k, 3 _law_side, 4 _law_start_here, 5 _law_steps_here, 6 _law_drive, 7 _law_text, 8 _law_line -/
def ir78 : Stm := (.seq (.asg [1] (.call 1 (.cons (.var 0) (.cons (.int 962) .nil)))) (.seq (.loop (.rng1 (.int 3)) [2] (.seq (.par [3, 4, 5] (.cons (.call 2 (.cons (.var 1) (.cons (.lst (.cons (.str "left") (.cons (.str "right") .nil))) .nil))) (.cons (.call 3 (.cons (.var 1) .nil)) (.cons (.call 4 (.cons (.var 1) (.cons (.int 6) .nil))) .nil)))) (.seq (.asg [6] (.mkd 5 (.cons (.var 3) (.cons (.var 4) (.cons (.var 5) .nil))))) (.seq (.asg [7] (.join (.str "") (.lc [8] (.cons (.call 80 (.cons (.var 3) (.cons (.var 4) (.cons (.var 5) .nil)))) .nil) [8] .yes (.bop .add (.var 8) (.str "\n"))))) (.ite (.or (.cmp .ne (.call 100 (.cons (.var 6) .nil)) (.var 7)) (.not (.eqo 92 (.call 83 (.cons (.var 7) .nil)) (.var 6)))) (.ret (.bl false)) .nop))))) (.ret (.bl true))))
/-- law k13: 0 _law_script, 1 _law_d, 2 _law_k, 3 _law_lines_here, 4 _law_pick_here, 5 _law_words, 6 _law_turn, 7 _law_text, 8 _law_many, 9 _law_line -/
def ir79 : Stm := (.seq (.asg [1] (.call 1 (.cons (.var 0) (.cons (.int 963) .nil)))) (.seq (.loop (.rng1 (.int 4)) [2] (.seq (.asg [3] (.call 106 (.cons (.call 2 (.cons (.var 1) (.cons (.lst (.cons (.str "left") (.cons (.str "right") .nil))) .nil))) (.cons (.call 3 (.cons (.var 1) .nil)) (.cons (.call 4 (.cons (.var 1) (.cons (.int 6) .nil))) .nil))))) (.seq (.asg [4] (.call 6 (.cons (.var 1) (.cons (.bi .len (.cons (.var 3) .nil)) .nil)))) (.seq (.asg [5] (.split (.ix (.var 3) (.var 4)) (.str " "))) (.seq (.loop (.rng1 (.call 6 (.cons (.var 1) (.cons (.int 3) .nil)))) [6] (.asg [5] (.call 107 (.cons (.var 1) (.cons (.var 5) .nil))))) (.seq (.seti (.var 3) (.var 4) (.join (.str " ") (.var 5))) (.seq (.frz 3) (.seq (.ite (.cmp .eq (.call 6 (.cons (.var 1) (.cons (.int 4) .nil))) (.int 0)) (.asg [3] (.bop .add (.var 3) (.call 2 (.cons (.var 1) (.cons (.lst (.cons (.bop .mul (.lst (.cons (.str "same") .nil)) (.int 3)) (.cons (.lst (.cons (.str "") .nil)) (.cons (.var 3) (.cons (.lst (.cons (.str "on 1 1") .nil)) .nil))))) .nil))))) .nop) (.seq (.asg [7] (.join (.str "") (.lc [9] (.cons (.var 3) .nil) [9] .yes (.bop .add (.var 9) (.str "\n"))))) (.seq (.asg [7] (.sl (.var 7) .nil (.cons (.call 2 (.cons (.var 1) (.cons (.lst (.cons (.bi .len (.cons (.var 7) .nil)) (.cons (.bi .len (.cons (.var 7) .nil)) (.cons (.call 6 (.cons (.var 1) (.cons (.bop .add (.bi .len (.cons (.var 7) .nil)) (.int 1)) .nil))) .nil)))) .nil))) .nil))) (.ite (.not (.call 8 (.cons (.call 81 (.cons (.var 7) .nil)) (.cons (.call 82 (.cons (.var 7) .nil)) .nil)))) (.ret (.bl false)) .nop))))))))))) (.seq (.asg [8] (.bop .add (.str "right first 0\n") (.bop .mul (.str "same\n") (.bop .add (.int 6) (.call 6 (.cons (.var 1) (.cons (.int 2) .nil))))))) (.seq (.ite (.or (.cmp .ne (.call 81 (.cons (.var 8) .nil)) (.call 82 (.cons (.var 8) .nil))) (.cmp .isn (.call 81 (.cons (.str "left second 1\n") .nil)) .non)) (.ret (.bl false)) .nop) (.ret (.cmp .eq (.lst (.cons (.call 81 (.cons (.str "") .nil)) (.cons (.call 81 (.cons (.str "\n") .nil)) (.cons (.call 81 (.cons (.str "left first 0") .nil)) .nil)))) (.lst (.cons (.tup (.cons (.int 1) (.cons (.int 1) .nil))) (.cons (.tup (.cons (.int 1) (.cons (.int 1) .nil))) (.cons (.tup (.cons (.int 1) (.cons (.int 1) .nil))) .nil))))))))))
/-- _law_lines: 0 _law_side, 1 _law_start_here, 2 _law_steps_here, 3 _law_step_here, 4 _law_part -/
def ir80 : Stm := (.ret (.bop .add (.lst (.cons (.bop .add (.bop .add (.bop .add (.bop .add (.var 0) (.str " ")) (.ix (.var 1) (.int 0))) (.str " ")) (.bi .str (.cons (.ix (.var 1) (.int 1)) .nil))) .nil)) (.lc [3] (.cons (.var 2) .nil) [3] .yes (.join (.str " ") (.lc [4] (.cons (.var 3) .nil) [4] .yes (.bi .str (.cons (.var 4) .nil)))))))
/-- _law_told: 0 _law_text, 1 _law_told_here, 2 e -/
def ir81 : Stm := (.seq (.asg [1] .non) (.seq (.tri (.ex (.call 83 (.cons (.var 0) .nil))) (.handX 7 2 1 (.pair (.fld "line") (.fld "word")) .nop)) (.ret (.var 1))))
/-- _law_due: 0 _law_text, 1 _law_rows, 2 _law_k, 3 _law_word_here -/
def ir82 : Stm := (.seq (.asg [1] (.split (.var 0) (.str "\n"))) (.seq (.ite (.cmp .eq (.bi .len (.cons (.var 1) .nil)) (.int 1)) (.ret (.tup (.cons (.int 1) (.cons (.int 1) .nil)))) .nop) (.seq (.loop (.rng1 (.bop .sub (.bi .len (.cons (.var 1) .nil)) (.int 1))) [2] (.seq (.asg [3] (.ite (.cmp .gt (.var 2) (.int 6)) (.int 1) (.call 108 (.cons (.split (.ix (.var 1) (.var 2)) (.str " ")) (.cons (.cmp .eq (.var 2) (.int 0)) .nil))))) (.ite (.cmp .isn (.var 3) .non) (.ret (.tup (.cons (.bop .add (.var 2) (.int 1)) (.cons (.var 3) .nil)))) .nop))) (.ret (.ite (.cmp .ne (.ix (.var 1) (.neg (.int 1))) (.str "")) (.tup (.cons (.bi .len (.cons (.var 1) .nil)) (.cons (.int 1) .nil))) .non)))))
/-- read: 0 text, 1 lines, 2 head, 3 side, 4 start, 5 steps, 6 at, 7 row -/
def ir83 : Stm := (.seq (.asg [1] (.split (.var 0) (.str "\n"))) (.seq (.ite (.cmp .eq (.bi .len (.cons (.var 1) .nil)) (.int 1)) (.rais 7 ["line", "word"] (.cons (.int 1) (.cons (.int 1) .nil))) .nop) (.seq (.asg [2] (.mkc 2 101 (.cons (.int 1) (.cons (.ix (.var 1) (.int 0)) .nil)))) (.seq (.asg [3] (.meth 2 102 "take" (.var 2) (.cons (.bi .list (.cons (.con 2) .nil)) .nil))) (.seq (.asg [4] (.tup (.cons (.meth 2 102 "take" (.var 2) (.cons (.bi .list (.cons (.con 1) .nil)) .nil)) (.cons (.meth 2 103 "take_number" (.var 2) (.cons (.neg (.con 3)) (.cons (.con 3) .nil))) .nil)))) (.seq (.ex (.meth 2 104 "end" (.var 2) .nil)) (.seq (.asg [5] (.cel .nil)) (.seq (.loop (.enum (.sl (.var 1) (.cons (.int 1) .nil) (.cons (.neg (.int 1)) .nil))) [6, 7] (.seq (.ite (.cmp .eq (.var 6) (.con 4)) (.rais 7 ["line", "word"] (.cons (.bop .add (.var 6) (.int 2)) (.cons (.int 1) .nil))) .nop) (.ex (.app (.var 5) (.call 105 (.cons (.mkc 2 101 (.cons (.bop .add (.var 6) (.int 2)) (.cons (.var 7) .nil))) .nil)))))) (.seq (.ite (.cmp .ne (.ix (.var 1) (.neg (.int 1))) (.str "")) (.rais 7 ["line", "word"] (.cons (.bi .len (.cons (.var 1) .nil)) (.cons (.int 1) .nil))) .nop) (.seq (.frz 5) (.ret (.mkd 5 (.cons (.var 3) (.cons (.var 4) (.cons (.bi .tuple (.cons (.var 5) .nil)) .nil)))))))))))))))
/-- law k14: 0 _law_script, 1 _law_d, 2 _law_side, 3 _law_start_here, 4 _law_steps_here, 5 _law_drive, 6 _law_other, 7 _law_fact_here, 8 _law_are_same, 9 _law_never, 10 _law_idle, 11 _law_spot, 12 _law_arm, 13 _law_back, 14 _law_k, 15 _law_n, 16 _law_m, 17 _law_here, 18 _law_there, 19 _law_index, 20 _law_arms, 21 _law_small, 22 _law_times, 23 _law_first -/
def ir84 : Stm := (.seq (.asg [1] (.call 1 (.cons (.var 0) (.cons (.int 964) .nil)))) (.seq (.par [2, 3, 4] (.cons (.call 2 (.cons (.var 1) (.cons (.lst (.cons (.str "left") (.cons (.str "right") .nil))) .nil))) (.cons (.call 3 (.cons (.var 1) .nil)) (.cons (.call 4 (.cons (.var 1) (.cons (.int 4) .nil))) .nil)))) (.seq (.asg [5] (.mkd 5 (.cons (.var 2) (.cons (.var 3) (.cons (.var 4) .nil))))) (.seq (.asg [6] (.mkd 5 (.cons (.var 2) (.cons (.var 3) (.cons (.call 33 (.cons (.var 1) (.cons (.var 4) .nil))) .nil))))) (.seq (.asg [7] (.call 34 (.cons (.var 1) .nil))) (.seq (.par [8, 9] (.cons (.call 37 (.cons (.var 5) (.cons (.var 6) (.cons (.var 7) .nil)))) (.cons (.cmp .is (.ix (.call 53 (.cons (.var 5) (.cons (.var 6) (.cons (.var 7) .nil)))) (.int 0)) .non) .nil))) (.seq (.asg [10] (.call 58 (.cons (.var 5) (.cons (.var 7) .nil)))) (.seq (.asg [11, 12] (.sl (.call 61 (.cons (.var 5) .nil)) .nil (.cons (.int 2) .nil))) (.seq (.asg [13] (.mkd 5 (.cons (.ite (.cmp .eq (.var 2) (.str "right")) (.str "left") (.str "right")) (.cons (.tup (.cons (.ix (.var 3) (.int 0)) (.cons (.bop .sub (.int 0) (.ix (.var 3) (.int 1))) .nil))) (.cons (.var 4) .nil))))) (.seq (.loop (.rng1 (.int 6)) [14] (.seq (.asg [15] (.bop .add (.ix (.var 7) (.int 0)) (.call 2 (.cons (.var 1) (.cons (.lst (.cons (.int 0) (.cons (.int 1) (.cons (.int 40) (.cons (.bop .pow (.int 10) (.int 9)) (.cons (.bop .pow (.int 10) (.int 29)) (.cons (.call 6 (.cons (.var 1) (.cons (.int 99) .nil))) .nil))))))) .nil))))) (.seq (.asg [16] (.bop .add (.ix (.var 7) (.int 1)) (.call 2 (.cons (.var 1) (.cons (.lst (.cons (.int 0) (.cons (.int 1) (.cons (.int 40) (.cons (.bop .pow (.int 10) (.int 9)) (.cons (.bop .pow (.int 10) (.int 29)) (.cons (.call 6 (.cons (.var 1) (.cons (.int 99) .nil))) .nil))))))) .nil))))) (.seq (.asg [17] (.call 9 (.cons (.var 5) (.cons (.tup (.cons (.var 15) (.cons (.var 16) .nil))) .nil)))) (.seq (.asg [18] (.call 9 (.cons (.var 6) (.cons (.tup (.cons (.var 15) (.cons (.var 16) .nil))) .nil)))) (.seq (.ite (.or (.and (.var 8) (.cmp .ne (.var 18) (.var 17))) (.and (.var 9) (.and (.cmp .eq (.bi .len (.cons (.var 4) .nil)) (.leno 0 91 (.var 6))) (.cmp .eq (.var 17) (.var 18))))) (.ret (.bl false)) .nop) (.seq (.loop (.cons (.var 10) .nil) [19] (.ite (.cmp .ne (.call 9 (.cons (.mkd 5 (.cons (.var 2) (.cons (.var 3) (.cons (.bop .add (.sl (.var 4) .nil (.cons (.var 19) .nil)) (.sl (.var 4) (.cons (.bop .add (.var 19) (.int 1)) .nil) .nil)) .nil)))) (.cons (.tup (.cons (.var 15) (.cons (.var 16) .nil))) .nil))) (.var 17)) (.ret (.bl false)) .nop)) (.seq (.asg [20] (.ite (.cmp .eq (.ix (.var 17) (.int 0)) (.str "first")) (.var 15) (.var 16))) (.seq (.ite (.cmp .ne (.call 9 (.cons (.var 13) (.cons (.tup (.cons (.var 15) (.cons (.var 16) .nil))) .nil))) (.tup (.cons (.ix (.var 17) (.int 0)) (.cons (.bop .mod (.bop .sub (.int 0) (.ix (.var 17) (.int 1))) (.var 20)) .nil)))) (.ret (.bl false)) .nop) (.seq (.ite (.cmp .ne (.call 11 (.cons (.var 13) (.cons (.tup (.cons (.var 15) (.cons (.var 16) .nil))) .nil))) (.call 11 (.cons (.var 5) (.cons (.tup (.cons (.var 15) (.cons (.var 16) .nil))) .nil)))) (.ret (.bl false)) .nop) (.ite (.and (.cmp .gt (.bi .min (.cons (.lst (.cons (.var 15) (.cons (.var 16) .nil))) .nil)) (.call 44 (.cons (.var 5) .nil))) (.cmp .ne (.tup (.cons (.var 11) (.cons (.bop .mod (.var 12) (.var 20)) .nil))) (.var 17))) (.ret (.bl false)) .nop))))))))))) (.seq (.asg [21] (.tup (.cons (.bop .add (.int 2) (.call 6 (.cons (.var 1) (.cons (.int 9) .nil)))) (.cons (.bop .add (.int 2) (.call 6 (.cons (.var 1) (.cons (.int 9) .nil)))) .nil)))) (.seq (.asg [22] (.call 63 (.cons (.var 5) (.cons (.var 21) .nil)))) (.seq (.ite (.cmp .gt (.var 22) (.bi .sum (.cons (.var 21) .nil))) (.ret (.bl false)) .nop) (.seq (.asg [23] (.call 9 (.cons (.mkd 5 (.cons (.var 2) (.cons (.var 3) (.cons (.tup .nil) .nil)))) (.cons (.var 21) .nil)))) (.ret (.or (.cmp .gt (.bop .mul (.bi .len (.cons (.var 4) .nil)) (.var 22)) (.int 6)) (.cmp .eq (.call 9 (.cons (.mkd 5 (.cons (.var 2) (.cons (.var 3) (.cons (.bop .mul (.var 4) (.var 22)) .nil)))) (.cons (.var 21) .nil))) (.var 23))))))))))))))))))
/-- law k16: 0 _law_script, 1 _law_d, 2 _law_known -/
def ir85 : Stm := (.seq (.asg [1] (.call 1 (.cons (.var 0) (.cons (.int 966) .nil)))) (.seq (.asg [2] (.call 6 (.cons (.var 1) (.cons (.int 4) .nil)))) (.seq (.ite (.cmp .eq (.var 2) (.int 0)) (.ret (.call 86 .nil)) .nop) (.seq (.ite (.cmp .eq (.var 2) (.int 1)) (.ret (.call 87 .nil)) .nop) (.ret (.ite (.cmp .eq (.var 2) (.int 2)) (.call 88 .nil) (.call 89 .nil)))))))
/-- _law_driven: 0 _law_drive, 1 _law_many, 2 _law_over, 3 _law_told -/
def ir86 : Stm := (.seq (.asg [0] (.mkd 5 (.cons (.str "right") (.cons (.tup (.cons (.str "first") (.cons (.int 1) .nil))) (.cons (.tup (.cons (.tup (.cons (.str "on") (.cons (.int 2) .nil))) (.cons (.tup (.cons (.str "short") (.cons (.int 1) .nil))) (.cons (.tup (.cons (.str "same") .nil)) .nil)))) .nil))))) (.seq (.asg [1] (.bop .pow (.int 10) (.int 30))) (.seq (.ite (.or (.cmp .ne (.call 10 (.cons (.var 0) (.cons (.tup (.cons (.int 5) (.cons (.int 4) .nil))) .nil))) (.lst (.cons (.tup (.cons (.str "first") (.cons (.int 1) .nil))) (.cons (.tup (.cons (.str "first") (.cons (.int 3) .nil))) (.cons (.tup (.cons (.str "first") (.cons (.int 2) .nil))) (.cons (.tup (.cons (.str "first") (.cons (.int 2) .nil))) .nil)))))) (.cmp .ne (.call 11 (.cons (.var 0) (.cons (.tup (.cons (.int 5) (.cons (.int 4) .nil))) .nil))) (.int 8))) (.ret (.bl false)) .nop) (.seq (.ite (.or (.cmp .ne (.call 9 (.cons (.var 0) (.cons (.tup (.cons (.var 1) (.cons (.int 2) .nil))) .nil))) (.tup (.cons (.str "first") (.cons (.int 2) .nil)))) (.cmp .ne (.call 11 (.cons (.var 0) (.cons (.tup (.cons (.var 1) (.cons (.int 2) .nil))) .nil))) (.bop .sub (.bop .mul (.int 2) (.var 1)) (.int 2)))) (.ret (.bl false)) .nop) (.seq (.asg [2] (.mkd 5 (.cons (.str "right") (.cons (.tup (.cons (.str "first") (.cons (.neg (.int 1)) .nil))) (.cons (.tup (.cons (.tup (.cons (.str "on") (.cons (.int 1) .nil))) (.cons (.tup (.cons (.str "on") (.cons (.int 2) .nil))) .nil))) .nil))))) (.seq (.ite (.or (.cmp .ne (.call 10 (.cons (.var 2) (.cons (.tup (.cons (.int 5) (.cons (.int 4) .nil))) .nil))) (.lst (.cons (.tup (.cons (.str "first") (.cons (.int 4) .nil))) (.cons (.tup (.cons (.str "second") (.cons (.int 0) .nil))) (.cons (.tup (.cons (.str "second") (.cons (.int 2) .nil))) .nil))))) (.cmp .ne (.call 9 (.cons (.var 2) (.cons (.tup (.cons (.int 5) (.cons (.int 2) .nil))) .nil))) (.tup (.cons (.str "first") (.cons (.int 0) .nil))))) (.ret (.bl false)) .nop) (.seq (.ite (.cmp .ne (.call 9 (.cons (.mkd 5 (.cons (.str "left") (.cons (.tup (.cons (.str "first") (.cons (.int 1) .nil))) (.cons (.tup (.cons (.tup (.cons (.str "on") (.cons (.int 1) .nil))) (.cons (.tup (.cons (.str "on") (.cons (.int 1) .nil))) .nil))) .nil)))) (.cons (.tup (.cons (.int 5) (.cons (.int 4) .nil))) .nil))) (.tup (.cons (.str "second") (.cons (.int 3) .nil)))) (.ret (.bl false)) .nop) (.seq (.asg [3] (.lst (.cons (.call 44 (.cons (.var 0) .nil)) (.cons (.call 61 (.cons (.var 0) .nil)) (.cons (.call 61 (.cons (.mkd 5 (.cons (.str "left") (.cons (.tup (.cons (.str "second") (.cons (.int 1) .nil))) (.cons (.tup (.cons (.tup (.cons (.str "on") (.cons (.int 1) .nil))) (.cons (.tup (.cons (.str "on") (.cons (.int 2) .nil))) .nil))) .nil)))) .nil)) .nil))))) (.ret (.cmp .eq (.var 3) (.lst (.cons (.int 4) (.cons (.tup (.cons (.str "first") (.cons (.int 2) (.cons (.tup (.cons (.neg (.int 2)) (.cons (.int 2) (.cons (.int 0) .nil)))) .nil)))) (.cons (.tup (.cons (.str "first") (.cons (.neg (.int 2)) (.cons (.tup (.cons (.int 1) (.cons (.int 0) (.cons (.int 0) .nil)))) .nil)))) .nil))))))))))))))
/-- _law_decided: 0 _law_one, 1 _law_other, 2 _law_two, 3 _law_twice, 4 _law_here, 5 _law_there -/
def ir87 : Stm := (.seq (.par [0, 1] (.cons (.mkd 5 (.cons (.str "right") (.cons (.tup (.cons (.str "first") (.cons (.int 0) .nil))) (.cons (.tup (.cons (.tup (.cons (.str "on") (.cons (.int 1) .nil))) .nil)) .nil)))) (.cons (.mkd 5 (.cons (.str "right") (.cons (.tup (.cons (.str "first") (.cons (.int 0) .nil))) (.cons (.tup (.cons (.tup (.cons (.str "short") (.cons (.int 3) .nil))) .nil)) .nil)))) .nil))) (.seq (.asg [2] (.mkd 5 (.cons (.str "right") (.cons (.tup (.cons (.str "first") (.cons (.int 1) .nil))) (.cons (.tup (.cons (.tup (.cons (.str "on") (.cons (.int 2) .nil))) .nil)) .nil))))) (.seq (.ite (.cmp .ne (.lst (.cons (.call 36 (.cons (.var 0) (.cons (.var 1) (.cons (.tup (.cons (.int 2) (.cons (.int 2) .nil))) .nil)))) (.cons (.call 50 (.cons (.var 2) (.cons (.tup (.cons (.tup (.cons (.str "short") (.cons (.int 2) .nil))) .nil)) (.cons (.tup (.cons (.int 3) (.cons (.int 2) .nil))) .nil)))) .nil))) (.lst (.cons (.tup (.cons (.int 3) (.cons (.int 2) .nil))) (.cons (.tup (.cons (.int 3) (.cons (.int 2) .nil))) .nil)))) (.ret (.bl false)) .nop) (.seq (.asg [3] (.mkd 5 (.cons (.str "right") (.cons (.tup (.cons (.str "first") (.cons (.int 1) .nil))) (.cons (.tup (.cons (.tup (.cons (.str "same") .nil)) (.cons (.tup (.cons (.str "on") (.cons (.int 1) .nil))) .nil))) .nil))))) (.seq (.ite (.or (.cmp .isn (.call 50 (.cons (.var 2) (.cons (.tup (.cons (.tup (.cons (.str "short") (.cons (.int 2) .nil))) .nil)) (.cons (.tup (.cons (.int 4) (.cons (.int 2) .nil))) .nil)))) .non) (.cmp .ne (.call 58 (.cons (.var 3) (.cons (.tup (.cons (.int 2) (.cons (.int 2) .nil))) .nil))) (.lst (.cons (.int 0) .nil)))) (.ret (.bl false)) .nop) (.seq (.ite (.cmp .ne (.lst (.cons (.call 57 (.cons (.var 3) (.cons (.tup (.cons (.int 2) (.cons (.int 2) .nil))) .nil))) (.cons (.call 57 (.cons (.var 3) (.cons (.tup (.cons (.int 3) (.cons (.int 2) .nil))) .nil))) .nil))) (.lst (.cons (.lst .nil) (.cons (.lst (.cons (.int 0) .nil)) .nil)))) (.ret (.bl false)) .nop) (.seq (.par [4, 5] (.cons (.mkd 5 (.cons (.str "right") (.cons (.tup (.cons (.str "first") (.cons (.int 1) .nil))) (.cons (.tup (.cons (.tup (.cons (.str "on") (.cons (.int 1) .nil))) .nil)) .nil)))) (.cons (.mkd 5 (.cons (.str "right") (.cons (.tup (.cons (.str "first") (.cons (.int 2) .nil))) (.cons (.tup (.cons (.tup (.cons (.str "same") .nil)) .nil)) .nil)))) .nil))) (.ret (.cmp .eq (.call 53 (.cons (.var 4) (.cons (.var 5) (.cons (.tup (.cons (.int 2) (.cons (.int 2) .nil))) .nil)))) (.tup (.cons (.tup (.cons (.int 2) (.cons (.int 2) .nil))) (.cons .non .nil))))))))))))
/-- _law_found: 0 _law_one, 1 _law_two -/
def ir88 : Stm := (.seq (.asg [0] (.mkd 5 (.cons (.str "right") (.cons (.tup (.cons (.str "first") (.cons (.int 1) .nil))) (.cons (.tup (.cons (.tup (.cons (.str "on") (.cons (.int 1) .nil))) .nil)) .nil))))) (.seq (.ite (.cmp .ne (.lst (.cons (.call 63 (.cons (.var 0) (.cons (.tup (.cons (.int 3) (.cons (.int 2) .nil))) .nil))) (.cons (.call 63 (.cons (.var 0) (.cons (.tup (.cons (.int 120) (.cons (.int 70) .nil))) .nil))) (.cons (.call 63 (.cons (.mkd 5 (.cons (.str "left") (.cons (.tup (.cons (.str "first") (.cons (.int 0) .nil))) (.cons (.tup .nil) .nil)))) (.cons (.tup (.cons (.int 2) (.cons (.int 2) .nil))) .nil))) .nil)))) (.lst (.cons (.int 5) (.cons (.int 190) (.cons (.int 1) .nil))))) (.ret (.bl false)) .nop) (.seq (.asg [1] (.mkd 5 (.cons (.str "right") (.cons (.tup (.cons (.str "first") (.cons (.int 1) .nil))) (.cons (.tup (.cons (.tup (.cons (.str "on") (.cons (.int 2) .nil))) .nil)) .nil))))) (.seq (.ite (.cmp .ne (.call 67 (.cons (.lst (.cons (.tup (.cons (.var 1) (.cons (.tup (.cons (.str "second") (.cons (.int 0) .nil))) .nil))) .nil)) (.cons (.int 4) .nil))) (.lst (.cons (.tup (.cons (.int 3) (.cons (.int 2) .nil))) (.cons (.tup (.cons (.int 3) (.cons (.int 3) .nil))) (.cons (.tup (.cons (.int 3) (.cons (.int 4) .nil))) .nil))))) (.ret (.bl false)) .nop) (.ret (.cmp .eq (.call 68 (.cons (.lst .nil) (.cons (.lst (.cons (.mkd 5 (.cons (.str "right") (.cons (.tup (.cons (.str "first") (.cons (.int 0) .nil))) (.cons (.tup .nil) .nil)))) (.cons (.mkd 5 (.cons (.str "right") (.cons (.tup (.cons (.str "second") (.cons (.int 1) .nil))) (.cons (.tup (.cons (.tup (.cons (.str "on") (.cons (.int 1) .nil))) .nil)) .nil)))) .nil))) (.cons (.int 3) .nil)))) (.int 1)))))))
/-- _law_car: 0 _law_car_here, 1 _law_drive -/
def ir89 : Stm := (.seq (.asg [0] (.mkc 1 72 (.cons (.str "right") (.cons (.tup (.cons (.str "first") (.cons (.int 1) .nil))) (.cons (.tup (.cons (.int 5) (.cons (.int 4) .nil))) .nil))))) (.seq (.ite (.cmp .ne (.lst (.cons (.meth 1 95 "go" (.var 0) (.cons (.tup (.cons (.str "on") (.cons (.int 2) .nil))) .nil)) (.cons (.meth 1 95 "go" (.var 0) (.cons (.tup (.cons (.str "on") (.cons (.int 2) .nil))) .nil)) (.cons (.meth 1 96 "arms" (.var 0) .nil) (.cons (.meth 1 94 "undo" (.var 0) .nil) .nil))))) (.lst (.cons (.tup (.cons (.str "first") (.cons (.int 3) .nil))) (.cons (.tup (.cons (.str "second") (.cons (.int 0) .nil))) (.cons (.int 2) (.cons (.bl true) .nil)))))) (.ret (.bl false)) .nop) (.seq (.ite (.cmp .ne (.lst (.cons (.meth 1 97 "where" (.var 0) .nil) (.cons (.leno 1 90 (.var 0)) (.cons (.prop 19 (.meth 1 99 "drive" (.var 0) .nil)) .nil)))) (.lst (.cons (.tup (.cons (.str "first") (.cons (.int 3) .nil))) (.cons (.int 1) (.cons (.tup (.cons (.tup (.cons (.str "on") (.cons (.int 2) .nil))) .nil)) .nil))))) (.ret (.bl false)) .nop) (.seq (.asg [1] (.mkd 5 (.cons (.str "left") (.cons (.tup (.cons (.str "second") (.cons (.neg (.int 1)) .nil))) (.cons (.tup (.cons (.tup (.cons (.str "on") (.cons (.int 3) .nil))) (.cons (.tup (.cons (.str "same") .nil)) .nil))) .nil))))) (.ret (.and (.cmp .eq (.call 100 (.cons (.var 1) .nil)) (.str "left second -1\non 3\nsame\n")) (.eqo 92 (.call 83 (.cons (.call 100 (.cons (.var 1) .nil)) .nil)) (.var 1))))))))
/-- Car.__len__: 0 self -/
def ir90 : Stm := (.ret (.flen (.var 0) "noted"))
/-- Drive.__len__: 0 self -/
def ir91 : Stm := (.ret (.bi .len (.cons (.ix (.fld (.var 0) "told") (.int 2)) .nil)))
/-- Drive.__eq__: 0 self, 1 other -/
def ir92 : Stm := (.ret (.and (.isi .drv (.var 1)) (.cmp .eq (.fld (.var 0) "told") (.fld (.var 1) "told"))))
/-- do_meet: 0 one, 1 other, 2 land, 3 here, 4 there, 5 left, 6 right -/
def ir93 : Stm := (.seq (.asg [3] (.call 18 (.cons (.prop 21 (.var 0)) (.cons (.prop 20 (.var 0)) (.cons (.prop 19 (.var 0)) (.cons (.var 2) .nil)))))) (.seq (.asg [4] (.call 18 (.cons (.prop 21 (.var 1)) (.cons (.prop 20 (.var 1)) (.cons (.prop 19 (.var 1)) (.cons (.var 2) .nil)))))) (.ret (.bi .any (.cons (.lc [5, 6] (.zip (.var 3) (.var 4)) [5, 6] .yes (.cmp .eq (.var 5) (.var 6))) .nil)))))
/-- Car.undo: 0 self -/
def ir94 : Stm := (.seq (.ite (.feq0 (.var 0) "noted") (.ret (.bl false)) .nop) (.seq (.ex (.fpop (.var 0) "noted")) (.seq (.ex (.fpop (.var 0) "spots")) (.ret (.bl true)))))
/-- Car.go: 0 self, 1 step, 2 side, 3 start, 4 land, 5 here, 6 many -/
def ir95 : Stm := (.seq (.ite (.not (.call 25 (.cons (.var 1) .nil))) (.rais 2 ["index"] (.cons (.int 0) .nil)) .nop) (.seq (.asg [2, 3, 4] (.fld (.var 0) "origin")) (.seq (.asg [5, 6] (.fix (.var 0) "spots" (.neg (.int 1)))) (.seq (.ex (.fapp (.var 0) "spots" (.tup (.cons (.call 27 (.cons (.var 2) (.cons (.var 1) (.cons (.var 4) (.cons (.var 5) .nil))))) (.cons (.bop .add (.var 6) (.call 22 (.cons (.var 1) (.cons (.ix (.var 4) (.cix 1 (.ix (.var 5) (.int 0)))) .nil)))) .nil))))) (.seq (.ex (.fapp (.var 0) "noted" (.var 1))) (.ret (.ix (.fix (.var 0) "spots" (.neg (.int 1))) (.int 0))))))))
/-- Car.arms: 0 self -/
def ir96 : Stm := (.ret (.ix (.fix (.var 0) "spots" (.neg (.int 1))) (.int 1)))
/-- Car.where: 0 self -/
def ir97 : Stm := (.ret (.ix (.fix (.var 0) "spots" (.neg (.int 1))) (.int 0)))
/-- _law_drive: 0 _law_car, 1 _law_told, 2 _law_whole -/
def ir98 : Stm := (.seq (.asg [1] .non) (.seq (.tri (.seq (.asg [2] (.meth 1 99 "drive" (.var 0) .nil)) (.asg [1] (.tup (.cons (.prop 21 (.var 2)) (.cons (.prop 20 (.var 2)) (.cons (.prop 19 (.var 2)) .nil)))))) (.hand 6 (.asg [1] (.str "long")) .nop)) (.ret (.var 1))))
/-- Car.drive: 0 self -/
def ir99 : Stm := (.seq (.ite (.cmp .gt (.flen (.var 0) "noted") (.con 4)) (.rais 6 [] .nil) .nop) (.ret (.mkd 5 (.cons (.ix (.fld (.var 0) "origin") (.int 0)) (.cons (.ix (.fld (.var 0) "origin") (.int 1)) (.cons (.ftup (.var 0) "noted") .nil))))))
/-- write: 0 drive, 1 rows, 2 row, 3 part -/
def ir100 : Stm := (.seq (.asg [1] (.lst (.cons (.tup (.cons (.prop 21 (.var 0)) (.star (.prop 20 (.var 0)) .nil))) (.star (.prop 19 (.var 0)) .nil)))) (.ret (.join (.str "") (.lc [2] (.cons (.var 1) .nil) [2] .yes (.bop .add (.join (.str " ") (.lc [3] (.cons (.var 2) .nil) [3] .yes (.bi .str (.cons (.var 3) .nil)))) (.str "\n"))))))
/-- Line.__init__: 0 self, 1 number, 2 text -/
def ir101 : Stm := (.seq (.setf (.var 0) "number" (.var 1)) (.seq (.setf (.var 0) "row" (.split (.var 2) (.str " "))) (.setf (.var 0) "spot" (.int 0))))
/-- Line.take: 0 self, 1 some -/
def ir102 : Stm := (.seq (.ite (.or (.cmp .eq (.fld (.var 0) "spot") (.bi .len (.cons (.fld (.var 0) "row") .nil))) (.cmp .nmem (.ix (.fld (.var 0) "row") (.fld (.var 0) "spot")) (.var 1))) (.rais 7 ["line", "word"] (.cons (.fld (.var 0) "number") (.cons (.bop .add (.fld (.var 0) "spot") (.int 1)) .nil))) .nop) (.seq (.augf (.var 0) "spot" .add (.int 1)) (.ret (.ix (.fld (.var 0) "row") (.bop .sub (.fld (.var 0) "spot") (.int 1))))))
/-- Line.take_number: 0 self, 1 least, 2 most, 3 number -/
def ir103 : Stm := (.ret (.bi .int (.cons (.meth 2 102 "take" (.var 0) (.cons (.lc [3] (.rng2 (.var 1) (.bop .add (.var 2) (.int 1))) [3] .yes (.bi .str (.cons (.var 3) .nil))) .nil)) .nil)))
/-- Line.end: 0 self -/
def ir104 : Stm := (.ite (.cmp .lt (.fld (.var 0) "spot") (.bi .len (.cons (.fld (.var 0) "row") .nil))) (.rais 7 ["line", "word"] (.cons (.fld (.var 0) "number") (.cons (.bop .add (.fld (.var 0) "spot") (.int 1)) .nil))) .nop)
/-- step_in: 0 line, 1 word, 2 step -/
def ir105 : Stm := (.seq (.asg [1] (.meth 2 102 "take" (.var 0) (.cons (.lst (.cons (.str "on") (.cons (.str "short") (.cons (.str "same") .nil)))) .nil))) (.seq (.asg [2] (.ite (.cmp .eq (.var 1) (.str "same")) (.tup (.cons (.var 1) .nil)) (.tup (.cons (.var 1) (.cons (.meth 2 103 "take_number" (.var 0) (.cons (.int 1) (.cons (.ix (.con 5) (.var 1)) .nil))) .nil))))) (.seq (.ex (.meth 2 104 "end" (.var 0) .nil)) (.ret (.var 2)))))
/-- _law_lines: 0 _law_side, 1 _law_start_here, 2 _law_steps_here, 3 _law_step_here, 4 _law_part -/
def ir106 : Stm := (.ret (.catc (.lst (.cons (.bop .add (.bop .add (.bop .add (.bop .add (.var 0) (.str " ")) (.ix (.var 1) (.int 0))) (.str " ")) (.bi .str (.cons (.ix (.var 1) (.int 1)) .nil))) .nil)) (.lc [3] (.cons (.var 2) .nil) [3] .yes (.join (.str " ") (.lc [4] (.cons (.var 3) .nil) [4] .yes (.bi .str (.cons (.var 4) .nil)))))))
/-- _law_spoilt: 0 _law_d, 1 _law_words, 2 _law_more, 3 _law_at, 4 _law_some -/
def ir107 : Stm := (.seq (.asg [2] (.lst (.cons (.str "left") (.cons (.str "right") (.cons (.str "first") (.cons (.str "second") (.cons (.str "on") (.cons (.str "short") (.cons (.str "same") (.cons (.str "0") (.cons (.str "1") (.cons (.str "-1") (.cons (.str "2") (.cons (.str "-3") (.cons (.str "4") (.cons (.str "") (.cons (.str "x") (.cons (.str "01") .nil)))))))))))))))))) (.seq (.asg [3] (.call 6 (.cons (.var 0) (.cons (.bop .add (.bi .len (.cons (.var 1) .nil)) (.int 1)) .nil)))) (.seq (.asg [4] (.bop .mul (.lst (.cons (.call 2 (.cons (.var 0) (.cons (.bop .add (.var 2) (.lst (.cons (.str "+1") (.cons (.str "-0") (.cons (.str "3") .nil))))) .nil))) .nil)) (.call 6 (.cons (.var 0) (.cons (.int 2) .nil))))) (.ret (.bop .add (.bop .add (.sl (.var 1) .nil (.cons (.var 3) .nil)) (.var 4)) (.sl (.var 1) (.cons (.bop .add (.var 3) (.call 6 (.cons (.var 0) (.cons (.int 2) .nil)))) .nil) .nil))))))
/-- _law_word: 0 _law_words, 1 _law_is_first, 2 _law_due_here, 3 _law_at -/
def ir108 : Stm := (.seq (.asg [2] (.lst (.cons (.lst (.cons (.str "left") (.cons (.str "right") .nil))) (.cons (.lst (.cons (.str "first") (.cons (.str "second") .nil))) (.cons (.lst (.cons (.str "-2") (.cons (.str "-1") (.cons (.str "0") (.cons (.str "1") (.cons (.str "2") .nil)))))) .nil))))) (.seq (.ite (.not (.var 1)) (.seq (.asg [2] (.lst (.cons (.lst (.cons (.str "on") (.cons (.str "short") (.cons (.str "same") .nil)))) .nil))) (.ite (.cmp .eq (.ix (.var 0) (.int 0)) (.str "on")) (.asg [2] (.bop .add (.var 2) (.lst (.cons (.lst (.cons (.str "1") (.cons (.str "2") (.cons (.str "3") (.cons (.str "4") .nil))))) .nil)))) (.ite (.cmp .eq (.ix (.var 0) (.int 0)) (.str "short")) (.asg [2] (.bop .add (.var 2) (.lst (.cons (.lst (.cons (.str "1") (.cons (.str "2") (.cons (.str "3") .nil)))) .nil)))) .nop))) .nop) (.seq (.loop (.rng1 (.bi .len (.cons (.var 2) .nil))) [3] (.ite (.or (.cmp .ge (.var 3) (.bi .len (.cons (.var 0) .nil))) (.cmp .nmem (.ix (.var 0) (.var 3)) (.ix (.var 2) (.var 3)))) (.ret (.bop .add (.var 3) (.int 1))) .nop)) (.ret (.ite (.cmp .gt (.bi .len (.cons (.var 0) .nil)) (.bi .len (.cons (.var 2) .nil))) (.bop .add (.bi .len (.cons (.var 2) .nil)) (.int 1)) .non)))))
def df : Nat → Option Df
  | 0 => some ⟨1, 14, ir0⟩
  | 1 => some ⟨2, 4, ir1⟩
  | 2 => some ⟨2, 2, ir2⟩
  | 3 => some ⟨1, 1, ir3⟩
  | 4 => some ⟨2, 3, ir4⟩
  | 5 => some ⟨4, 4, ir5⟩
  | 6 => some ⟨2, 3, ir6⟩
  | 7 => some ⟨4, 12, ir7⟩
  | 8 => some ⟨2, 4, ir8⟩
  | 9 => some ⟨2, 2, ir9⟩
  | 10 => some ⟨2, 2, ir10⟩
  | 11 => some ⟨2, 5, ir11⟩
  | 12 => some ⟨2, 3, ir12⟩
  | 13 => some ⟨1, 2, ir13⟩
  | 14 => some ⟨2, 2, ir14⟩
  | 15 => some ⟨1, 3, ir15⟩
  | 16 => some ⟨4, 8, ir16⟩
  | 17 => some ⟨2, 3, ir17⟩
  | 18 => some ⟨4, 6, ir18⟩
  | 19 => some ⟨1, 1, ir19⟩
  | 20 => some ⟨1, 1, ir20⟩
  | 21 => some ⟨1, 1, ir21⟩
  | 22 => some ⟨2, 3, ir22⟩
  | 23 => some ⟨2, 2, ir23⟩
  | 24 => some ⟨3, 3, ir24⟩
  | 25 => some ⟨1, 1, ir25⟩
  | 26 => some ⟨2, 2, ir26⟩
  | 27 => some ⟨4, 5, ir27⟩
  | 28 => some ⟨2, 3, ir28⟩
  | 29 => some ⟨1, 9, ir29⟩
  | 30 => some ⟨4, 9, ir30⟩
  | 31 => some ⟨4, 8, ir31⟩
  | 32 => some ⟨1, 9, ir32⟩
  | 33 => some ⟨2, 5, ir33⟩
  | 34 => some ⟨1, 1, ir34⟩
  | 35 => some ⟨3, 5, ir35⟩
  | 36 => some ⟨3, 3, ir36⟩
  | 37 => some ⟨3, 3, ir37⟩
  | 38 => some ⟨3, 4, ir38⟩
  | 39 => some ⟨1, 2, ir39⟩
  | 40 => some ⟨2, 5, ir40⟩
  | 41 => some ⟨1, 2, ir41⟩
  | 42 => some ⟨3, 4, ir42⟩
  | 43 => some ⟨2, 5, ir43⟩
  | 44 => some ⟨1, 1, ir44⟩
  | 45 => some ⟨2, 2, ir45⟩
  | 46 => some ⟨1, 2, ir46⟩
  | 47 => some ⟨1, 15, ir47⟩
  | 48 => some ⟨1, 3, ir48⟩
  | 49 => some ⟨3, 5, ir49⟩
  | 50 => some ⟨3, 4, ir50⟩
  | 51 => some ⟨1, 11, ir51⟩
  | 52 => some ⟨3, 4, ir52⟩
  | 53 => some ⟨3, 5, ir53⟩
  | 54 => some ⟨3, 4, ir54⟩
  | 55 => some ⟨1, 12, ir55⟩
  | 56 => some ⟨5, 7, ir56⟩
  | 57 => some ⟨2, 6, ir57⟩
  | 58 => some ⟨2, 6, ir58⟩
  | 59 => some ⟨2, 3, ir59⟩
  | 60 => some ⟨1, 20, ir60⟩
  | 61 => some ⟨1, 6, ir61⟩
  | 62 => some ⟨1, 12, ir62⟩
  | 63 => some ⟨2, 6, ir63⟩
  | 64 => some ⟨2, 3, ir64⟩
  | 65 => some ⟨1, 19, ir65⟩
  | 66 => some ⟨2, 5, ir66⟩
  | 67 => some ⟨2, 8, ir67⟩
  | 68 => some ⟨3, 7, ir68⟩
  | 69 => some ⟨2, 4, ir69⟩
  | 70 => some ⟨1, 2, ir70⟩
  | 71 => some ⟨1, 15, ir71⟩
  | 72 => some ⟨4, 4, ir72⟩
  | 73 => some ⟨2, 4, ir73⟩
  | 74 => some ⟨4, 12, ir74⟩
  | 75 => some ⟨3, 4, ir75⟩
  | 76 => some ⟨1, 14, ir76⟩
  | 77 => some ⟨3, 5, ir77⟩
  | 78 => some ⟨1, 9, ir78⟩
  | 79 => some ⟨1, 10, ir79⟩
  | 80 => some ⟨3, 5, ir80⟩
  | 81 => some ⟨1, 3, ir81⟩
  | 82 => some ⟨1, 4, ir82⟩
  | 83 => some ⟨1, 8, ir83⟩
  | 84 => some ⟨1, 24, ir84⟩
  | 85 => some ⟨1, 3, ir85⟩
  | 86 => some ⟨0, 4, ir86⟩
  | 87 => some ⟨0, 6, ir87⟩
  | 88 => some ⟨0, 2, ir88⟩
  | 89 => some ⟨0, 2, ir89⟩
  | 90 => some ⟨1, 1, ir90⟩
  | 91 => some ⟨1, 1, ir91⟩
  | 92 => some ⟨2, 2, ir92⟩
  | 93 => some ⟨3, 7, ir93⟩
  | 94 => some ⟨1, 1, ir94⟩
  | 95 => some ⟨2, 7, ir95⟩
  | 96 => some ⟨1, 1, ir96⟩
  | 97 => some ⟨1, 1, ir97⟩
  | 98 => some ⟨1, 3, ir98⟩
  | 99 => some ⟨1, 1, ir99⟩
  | 100 => some ⟨1, 4, ir100⟩
  | 101 => some ⟨3, 3, ir101⟩
  | 102 => some ⟨2, 2, ir102⟩
  | 103 => some ⟨3, 4, ir103⟩
  | 104 => some ⟨1, 1, ir104⟩
  | 105 => some ⟨1, 3, ir105⟩
  | 106 => some ⟨3, 5, ir106⟩
  | 107 => some ⟨2, 5, ir107⟩
  | 108 => some ⟨2, 4, ir108⟩
  | _ => none
def con : Nat → D
  | 0 => .int 1000000000000000000000000000000
  | 1 => .tup [.str "first", .str "second"]
  | 2 => .tup [.str "left", .str "right"]
  | 3 => .int 2
  | 4 => .int 6
  | 5 => .map [("on", .int 4), ("short", .int 3)]
  | 6 => .int 9
  | 7 => .int 10
  | 8 => .int 200
  | _ => .non
end GI

namespace GP
open DL GI
open PySem (Str)
/-- a step as data -/
inductive Sp where
  | same | on (b : Int) | short (b : Int)
def Sp.d : Sp → D
  | .same => .tup [.str "same"]
  | .on b => .tup [.str "on", .int b]
  | .short b => .tup [.str "short", .int b]
def way (right : Bool) : Int := if right then 1 else -1
def sideS (right : Bool) : Str := if right then "right" else "left"
def Sp.by : Sp → Int
  | .same => 0
  | .on b => b
  | .short b => -b
theorem r_ahead (n : Nat) (right : Bool) (s : Sp) (c : Store) : run df con 3 (n + 1) 28 [.d (.str (sideS right)), .d s.d] c = some (.ok (.d (.int (way right * s.by))) c) := by
  refine (run_at (r := some (.rt (.d (.int (way right * s.by))) c)) rfl rfl ?_).trans (fin_d _ _ _ (by simp))
  cases right <;> cases s <;> simp [ir28, Sp.d, sideS, at_, plc, way, Sp.by, ev_join, ev_split, kTx, ev_nset, ev_mkc, kMkc, kMkc2, ev_meth, kMeth, kMeth2, ev_fapp, kFapp, kFapp2, ev_fpop, kFpop, ev_fix, kFix, kFix2, ev_flen, kFlen, ev_ftup, kFtup, et_feq0, kTfeq0, es_seto, kSo, kSo2, es_augf, kAf, kAf2, ownB, ownL, ownW, sameO, ownN, insOk, ev_bdn, ev_sdef, ev_bget, ei_rng2, ev_rev, ev_srt, kRn2, kRn, kRev, mapTup, es_rais, kRais, es_tri, kTri_ex, kTri_nx, kTri_rt, eh_hand, eh_handX, eh_nop, evX, noXS_nx, noXS_rt, bnd_ex, bnD_ex, bndS_ex, inS_ex, line, es_augi, kAi2, kAi3, kAi4, repl, ev_int, ev_str, ev_bl, ev_non, ev_var, ev_con, ev_bop, ev_neg, ev_cmp, ev_chain, ev_not, ev_and, ev_or, ev_ite, ev_ix, ev_sl, ev_tup, ev_lst, ev_cel, ev_catc, ev_map, ev_call, ev_mkd, ev_prop, ev_fld, ev_bi, ev_isi, ev_cix, ev_app, ev_popa, ev_lc, et_yes, et_not, et_and, et_or, et_ite, et_cmp, et_call, et_isi, et_bi, et_var, el_nil, el_cons, ep_nil, ep_cons, ei_rng1, ei_seq, ei_enum, ei_zip, es_nop, es_seq, es_asg, es_par, es_aug, es_seti, es_setf, es_ex, es_ret, es_retN, es_ite, es_loop, es_frz, kGiv, k2, kNeg, kNot, kAnd, kOr, kIf, kCh2, kCh1, kCh, kIx2, kIx, kSl3, kSl2, kSl, kTup, kLst, kCel, kCat2, kCat, kMap, kFn, kProp, kFld, kBi, kIsi, kApp2, kApp, kPop2, kPop, kOkL, kLc, kIt1, kIt2, item, kTnot, kTand, kTor, oB, kTcmp2, kTcmp, kTb, kTfn, kTisi, kTbi, kL2, kL, kP, kR1, kSeq, kEnum, kZip2, kZip, kSet, kPar, kAug, kAug0, kSi3, kSi2, kSi, kSf2, kSf, kEx, kRet, kLoop, kVar, kTvar, kFrz, cmpO, start0, bindU, bindTo, setAll, wipeE, lst1, seqOf, biU, biD, bopD, cmpD, ixD, isiD, cixD, idxS, strsOf, intC, eqC, eqD, eqDs, scal, memD, flat, str_inj, str_beq, List.lookup_cons, List.lookup_nil, putD, isLst, loopS, walk, noX, bnd_ok, bnd_none, bnD_ok, bnD_none, bndS_nx, bndS_rt, bndS_none, inS_ok, inS_none, giv_some, giv_none, pick_t, pick_f]
/-- which roundabout -/
def rN (first : Bool) : Str := if first then "first" else "second"
def armsOf (first : Bool) (n m : Int) : Int := if first then n else m
def landD (n m : Int) : D := .tup [.int n, .int m]
def hereD (first : Bool) (arm : Int) : D := .tup [.str (rN first), .int arm]
/-- one step on -/
def gone (right : Bool) (s : Sp) (n m : Int) (h : Bool × Int) : Bool × Int :=
  if 0 < (h.2 + way right * s.by) % armsOf h.1 n m then (h.1, (h.2 + way right * s.by) % armsOf h.1 n m) else (!h.1, 0)
theorem gone_t {right : Bool} {s : Sp} {n m : Int} {f : Bool} {arm : Int} (h : 0 < (arm + way right * s.by) % armsOf f n m) : gone right s n m (f, arm) = (f, (arm + way right * s.by) % armsOf f n m) := if_pos h
theorem gone_f {right : Bool} {s : Sp} {n m : Int} {f : Bool} {arm : Int} (h : ¬ 0 < (arm + way right * s.by) % armsOf f n m) : gone right s n m (f, arm) = (!f, 0) := if_neg h
/-- the places, from the first on -/
def placesFrom (right : Bool) (n m : Int) : Bool × Int → List Sp → List (Bool × Int)
  | _, [] => []
  | h, s :: r => gone right s n m h :: placesFrom right n m (gone right s n m h) r
def hD (h : Bool × Int) : D := hereD h.1 h.2
def begun (n m : Int) (h : Bool × Int) : Bool × Int := (h.1, h.2 % armsOf h.1 n m)
theorem at_last {A : Type} (l : List A) (x : A) : at_ (l ++ [x]) (-1) = some x := by
  have e : plc (l ++ [x]).length (-1) = some l.length := by
    unfold plc
    rw [if_neg (by omega)]
    rw [if_pos (by simp; omega)]
    simp
    omega
  unfold at_
  rw [e]
  simp
/-- a drive -/
def driveT (right : Bool) (h : Bool × Int) (steps : List Sp) : D := .tup [.str (sideS right), hD h, .tup (steps.map Sp.d)]
theorem r_steps (k : Nat) (right : Bool) (h : Bool × Int) (steps : List Sp) (c : Store) : run df con 3 (k + 1) 19 [.d (.drv (driveT right h steps))] c = some (.ok (.d (.tup (steps.map Sp.d))) c) := by
  refine (run_at (r := some (.rt (.d (.tup (steps.map Sp.d))) c)) rfl rfl ?_).trans (fin_d _ _ _ (by simp))
  simp [ir19, driveT, at_, plc, ev_join, ev_split, kTx, ev_nset, ev_mkc, kMkc, kMkc2, ev_meth, kMeth, kMeth2, ev_fapp, kFapp, kFapp2, ev_fpop, kFpop, ev_fix, kFix, kFix2, ev_flen, kFlen, ev_ftup, kFtup, et_feq0, kTfeq0, es_seto, kSo, kSo2, es_augf, kAf, kAf2, ownB, ownL, ownW, sameO, ownN, insOk, ev_bdn, ev_sdef, ev_bget, ei_rng2, ev_rev, ev_srt, kRn2, kRn, kRev, mapTup, es_rais, kRais, es_tri, kTri_ex, kTri_nx, kTri_rt, eh_hand, eh_handX, eh_nop, evX, noXS_nx, noXS_rt, bnd_ex, bnD_ex, bndS_ex, inS_ex, line, es_augi, kAi2, kAi3, kAi4, repl, ev_int, ev_str, ev_bl, ev_non, ev_var, ev_con, ev_bop, ev_neg, ev_cmp, ev_chain, ev_not, ev_and, ev_or, ev_ite, ev_ix, ev_sl, ev_tup, ev_lst, ev_cel, ev_catc, ev_map, ev_call, ev_mkd, ev_prop, ev_fld, ev_bi, ev_isi, ev_cix, ev_app, ev_popa, ev_lc, et_yes, et_not, et_and, et_or, et_ite, et_cmp, et_call, et_isi, et_bi, et_var, el_nil, el_cons, ep_nil, ep_cons, ei_rng1, ei_seq, ei_enum, ei_zip, es_nop, es_seq, es_asg, es_par, es_aug, es_seti, es_setf, es_ex, es_ret, es_retN, es_ite, es_loop, es_frz, kGiv, k2, kNeg, kNot, kAnd, kOr, kIf, kCh2, kCh1, kCh, kIx2, kIx, kSl3, kSl2, kSl, kTup, kLst, kCel, kCat2, kCat, kMap, kFn, kProp, kFld, kBi, kIsi, kApp2, kApp, kPop2, kPop, kOkL, kLc, kIt1, kIt2, item, kTnot, kTand, kTor, oB, kTcmp2, kTcmp, kTb, kTfn, kTisi, kTbi, kL2, kL, kP, kR1, kSeq, kEnum, kZip2, kZip, kSet, kPar, kAug, kAug0, kSi3, kSi2, kSi, kSf2, kSf, kEx, kRet, kLoop, kVar, kTvar, kFrz, cmpO, start0, bindU, bindTo, setAll, wipeE, lst1, seqOf, biU, biD, bopD, cmpD, ixD, isiD, cixD, idxS, strsOf, intC, eqC, eqD, eqDs, scal, memD, flat, str_inj, str_beq, List.lookup_cons, List.lookup_nil, putD, isLst, loopS, walk, noX, bnd_ok, bnd_none, bnD_ok, bnD_none, bndS_nx, bndS_rt, bndS_none, inS_ok, inS_none, giv_some, giv_none, pick_t, pick_f]
theorem r_start (k : Nat) (right : Bool) (h : Bool × Int) (steps : List Sp) (c : Store) : run df con 3 (k + 1) 20 [.d (.drv (driveT right h steps))] c = some (.ok (.d (hD h)) c) := by
  refine (run_at (r := some (.rt (.d (hD h)) c)) rfl rfl ?_).trans (fin_d _ _ _ (by simp))
  simp [ir20, driveT, at_, plc, ev_join, ev_split, kTx, ev_nset, ev_mkc, kMkc, kMkc2, ev_meth, kMeth, kMeth2, ev_fapp, kFapp, kFapp2, ev_fpop, kFpop, ev_fix, kFix, kFix2, ev_flen, kFlen, ev_ftup, kFtup, et_feq0, kTfeq0, es_seto, kSo, kSo2, es_augf, kAf, kAf2, ownB, ownL, ownW, sameO, ownN, insOk, ev_bdn, ev_sdef, ev_bget, ei_rng2, ev_rev, ev_srt, kRn2, kRn, kRev, mapTup, es_rais, kRais, es_tri, kTri_ex, kTri_nx, kTri_rt, eh_hand, eh_handX, eh_nop, evX, noXS_nx, noXS_rt, bnd_ex, bnD_ex, bndS_ex, inS_ex, line, es_augi, kAi2, kAi3, kAi4, repl, ev_int, ev_str, ev_bl, ev_non, ev_var, ev_con, ev_bop, ev_neg, ev_cmp, ev_chain, ev_not, ev_and, ev_or, ev_ite, ev_ix, ev_sl, ev_tup, ev_lst, ev_cel, ev_catc, ev_map, ev_call, ev_mkd, ev_prop, ev_fld, ev_bi, ev_isi, ev_cix, ev_app, ev_popa, ev_lc, et_yes, et_not, et_and, et_or, et_ite, et_cmp, et_call, et_isi, et_bi, et_var, el_nil, el_cons, ep_nil, ep_cons, ei_rng1, ei_seq, ei_enum, ei_zip, es_nop, es_seq, es_asg, es_par, es_aug, es_seti, es_setf, es_ex, es_ret, es_retN, es_ite, es_loop, es_frz, kGiv, k2, kNeg, kNot, kAnd, kOr, kIf, kCh2, kCh1, kCh, kIx2, kIx, kSl3, kSl2, kSl, kTup, kLst, kCel, kCat2, kCat, kMap, kFn, kProp, kFld, kBi, kIsi, kApp2, kApp, kPop2, kPop, kOkL, kLc, kIt1, kIt2, item, kTnot, kTand, kTor, oB, kTcmp2, kTcmp, kTb, kTfn, kTisi, kTbi, kL2, kL, kP, kR1, kSeq, kEnum, kZip2, kZip, kSet, kPar, kAug, kAug0, kSi3, kSi2, kSi, kSf2, kSf, kEx, kRet, kLoop, kVar, kTvar, kFrz, cmpO, start0, bindU, bindTo, setAll, wipeE, lst1, seqOf, biU, biD, bopD, cmpD, ixD, isiD, cixD, idxS, strsOf, intC, eqC, eqD, eqDs, scal, memD, flat, str_inj, str_beq, List.lookup_cons, List.lookup_nil, putD, isLst, loopS, walk, noX, bnd_ok, bnd_none, bnD_ok, bnD_none, bndS_nx, bndS_rt, bndS_none, inS_ok, inS_none, giv_some, giv_none, pick_t, pick_f]
theorem r_side (k : Nat) (right : Bool) (h : Bool × Int) (steps : List Sp) (c : Store) : run df con 3 (k + 1) 21 [.d (.drv (driveT right h steps))] c = some (.ok (.d (.str (sideS right))) c) := by
  refine (run_at (r := some (.rt (.d (.str (sideS right))) c)) rfl rfl ?_).trans (fin_d _ _ _ (by simp))
  simp [ir21, driveT, at_, plc, ev_join, ev_split, kTx, ev_nset, ev_mkc, kMkc, kMkc2, ev_meth, kMeth, kMeth2, ev_fapp, kFapp, kFapp2, ev_fpop, kFpop, ev_fix, kFix, kFix2, ev_flen, kFlen, ev_ftup, kFtup, et_feq0, kTfeq0, es_seto, kSo, kSo2, es_augf, kAf, kAf2, ownB, ownL, ownW, sameO, ownN, insOk, ev_bdn, ev_sdef, ev_bget, ei_rng2, ev_rev, ev_srt, kRn2, kRn, kRev, mapTup, es_rais, kRais, es_tri, kTri_ex, kTri_nx, kTri_rt, eh_hand, eh_handX, eh_nop, evX, noXS_nx, noXS_rt, bnd_ex, bnD_ex, bndS_ex, inS_ex, line, es_augi, kAi2, kAi3, kAi4, repl, ev_int, ev_str, ev_bl, ev_non, ev_var, ev_con, ev_bop, ev_neg, ev_cmp, ev_chain, ev_not, ev_and, ev_or, ev_ite, ev_ix, ev_sl, ev_tup, ev_lst, ev_cel, ev_catc, ev_map, ev_call, ev_mkd, ev_prop, ev_fld, ev_bi, ev_isi, ev_cix, ev_app, ev_popa, ev_lc, et_yes, et_not, et_and, et_or, et_ite, et_cmp, et_call, et_isi, et_bi, et_var, el_nil, el_cons, ep_nil, ep_cons, ei_rng1, ei_seq, ei_enum, ei_zip, es_nop, es_seq, es_asg, es_par, es_aug, es_seti, es_setf, es_ex, es_ret, es_retN, es_ite, es_loop, es_frz, kGiv, k2, kNeg, kNot, kAnd, kOr, kIf, kCh2, kCh1, kCh, kIx2, kIx, kSl3, kSl2, kSl, kTup, kLst, kCel, kCat2, kCat, kMap, kFn, kProp, kFld, kBi, kIsi, kApp2, kApp, kPop2, kPop, kOkL, kLc, kIt1, kIt2, item, kTnot, kTand, kTor, oB, kTcmp2, kTcmp, kTb, kTfn, kTisi, kTbi, kL2, kL, kP, kR1, kSeq, kEnum, kZip2, kZip, kSet, kPar, kAug, kAug0, kSi3, kSi2, kSi, kSf2, kSf, kEx, kRet, kLoop, kVar, kTvar, kFrz, cmpO, start0, bindU, bindTo, setAll, wipeE, lst1, seqOf, biU, biD, bopD, cmpD, ixD, isiD, cixD, idxS, strsOf, intC, eqC, eqD, eqDs, scal, memD, flat, str_inj, str_beq, List.lookup_cons, List.lookup_nil, putD, isLst, loopS, walk, noX, bnd_ok, bnd_none, bnD_ok, bnD_none, bndS_nx, bndS_rt, bndS_none, inS_ok, inS_none, giv_some, giv_none, pick_t, pick_f]
theorem r_from (k : Nat) (v a b : Int) (c : Store) : run df con 3 (k + 1) 24 [.d (.int v), .d (.int a), .d (.int b)] c = some (.ok (.d (.bl (decide (a ≤ v) && decide (v ≤ b)))) c) := by
  refine (run_at (r := some (.rt (.d (.bl (decide (a ≤ v) && decide (v ≤ b)))) c)) rfl rfl ?_).trans (fin_d _ _ _ (by simp))
  by_cases h : a ≤ v <;> simp [ir24, h, ev_join, ev_split, kTx, ev_nset, ev_mkc, kMkc, kMkc2, ev_meth, kMeth, kMeth2, ev_fapp, kFapp, kFapp2, ev_fpop, kFpop, ev_fix, kFix, kFix2, ev_flen, kFlen, ev_ftup, kFtup, et_feq0, kTfeq0, es_seto, kSo, kSo2, es_augf, kAf, kAf2, ownB, ownL, ownW, sameO, ownN, insOk, ev_bdn, ev_sdef, ev_bget, ei_rng2, ev_rev, ev_srt, kRn2, kRn, kRev, mapTup, es_rais, kRais, es_tri, kTri_ex, kTri_nx, kTri_rt, eh_hand, eh_handX, eh_nop, evX, noXS_nx, noXS_rt, bnd_ex, bnD_ex, bndS_ex, inS_ex, line, es_augi, kAi2, kAi3, kAi4, repl, ev_int, ev_str, ev_bl, ev_non, ev_var, ev_con, ev_bop, ev_neg, ev_cmp, ev_chain, ev_not, ev_and, ev_or, ev_ite, ev_ix, ev_sl, ev_tup, ev_lst, ev_cel, ev_catc, ev_map, ev_call, ev_mkd, ev_prop, ev_fld, ev_bi, ev_isi, ev_cix, ev_app, ev_popa, ev_lc, et_yes, et_not, et_and, et_or, et_ite, et_cmp, et_call, et_isi, et_bi, et_var, el_nil, el_cons, ep_nil, ep_cons, ei_rng1, ei_seq, ei_enum, ei_zip, es_nop, es_seq, es_asg, es_par, es_aug, es_seti, es_setf, es_ex, es_ret, es_retN, es_ite, es_loop, es_frz, kGiv, k2, kNeg, kNot, kAnd, kOr, kIf, kCh2, kCh1, kCh, kIx2, kIx, kSl3, kSl2, kSl, kTup, kLst, kCel, kCat2, kCat, kMap, kFn, kProp, kFld, kBi, kIsi, kApp2, kApp, kPop2, kPop, kOkL, kLc, kIt1, kIt2, item, kTnot, kTand, kTor, oB, kTcmp2, kTcmp, kTb, kTfn, kTisi, kTbi, kL2, kL, kP, kR1, kSeq, kEnum, kZip2, kZip, kSet, kPar, kAug, kAug0, kSi3, kSi2, kSi, kSf2, kSf, kEx, kRet, kLoop, kVar, kTvar, kFrz, cmpO, start0, bindU, bindTo, setAll, wipeE, lst1, seqOf, biU, biD, bopD, cmpD, ixD, isiD, cixD, idxS, strsOf, intC, eqC, eqD, eqDs, scal, memD, flat, str_inj, str_beq, List.lookup_cons, List.lookup_nil, putD, isLst, loopS, walk, noX, bnd_ok, bnd_none, bnD_ok, bnD_none, bndS_nx, bndS_rt, bndS_none, inS_ok, inS_none, giv_some, giv_none, pick_t, pick_f]
theorem fin_u (d : U) (S : Store) (hd : ∀ n, d ≠ .loc n) : fin S.length (some (.rt d S)) = some (.ok d S) := by
  cases d with
  | d d => exact fin_d d S S (by simp)
  | loc n => exact absurd rfl (hd n)
/-- the last place -/
def endOf (right : Bool) (n m : Int) (h : Bool × Int) (steps : List Sp) : Bool × Int := steps.foldl (fun h s => gone right s n m h) h
theorem last_of (right : Bool) (n m : Int) : ∀ (steps : List Sp) (h : Bool × Int), ∃ l, hD h :: (placesFrom right n m h steps).map hD = l ++ [hD (endOf right n m h steps)]
  | [], h => ⟨[], rfl⟩
  | s :: r, h => by
    obtain ⟨l, e⟩ := last_of right n m r (gone right s n m h)
    exact ⟨hD h :: l, by rw [placesFrom, List.map_cons, e]; rfl⟩
/-- how many arms a step passes -/
def passedBy (s : Sp) (arms : Int) : Int := match s with
  | .on b => b - 1
  | .same => arms - 1
  | .short b => if 0 < -b % arms then -b % arms - 1 else arms - 1
def passedSum (right : Bool) (n m : Int) : Bool × Int → List Sp → Int → Int
  | _, [], t => t
  | h, s :: r, t => passedSum right n m (gone right s n m h) r (t + passedBy s (armsOf h.1 n m))
theorem at0 {A : Type} (x : A) (l : List A) : at_ (x :: l) 0 = some x := by
  have e : plc (x :: l).length 0 = some 0 := by unfold plc; rw [if_pos (by omega), if_pos (by first | (simp; done) | (simp; omega))]; rfl
  unfold at_; rw [e]; rfl
theorem at1 {A : Type} (x y : A) (l : List A) : at_ (x :: y :: l) 1 = some y := by
  have e : plc (x :: y :: l).length 1 = some 1 := by unfold plc; rw [if_pos (by omega), if_pos (by first | (simp; done) | (simp; omega))]; rfl
  unfold at_; rw [e]; rfl
theorem plc0 (n : Nat) : plc (n + 1) 0 = some 0 := by unfold plc; rw [if_pos (by omega), if_pos (by omega)]; rfl
theorem plc1 (n : Nat) : plc (n + 1 + 1) 1 = some 1 := by unfold plc; rw [if_pos (by omega), if_pos (by omega)]; rfl
theorem plc2 (n : Nat) : plc (n + 1 + 1 + 1) 2 = some 2 := by unfold plc; rw [if_pos (by omega), if_pos (by omega)]; rfl

/-- the law's source of numbers -/
structure Src where
  a : Int
  b : Int
  rest : List Int
def Src.c (q : Src) : Cell := .lst (.int q.a :: .int q.b :: q.rest.map D.int)
def below1 : Stm := (.ite (.and (.cmp .eq (.ix (.var 0) (.int 1)) (.int 0)) (.cmp .gt (.bi .len (.cons (.var 0) .nil)) (.int 2))) (.seti (.var 0) (.int 1) (.popa (.var 0) (.int 2))) .nop)
def below2 : Stm := (.seq (.ite (.cmp .gt (.ix (.var 0) (.int 1)) (.int 0)) (.seq (.asg [2] (.bop .mod (.bi .int (.cons (.ix (.var 0) (.int 1)) .nil)) (.var 1))) (.seq (.seti (.var 0) (.int 1) (.bop .fdiv (.ix (.var 0) (.int 1)) (.var 1))) (.ret (.var 2)))) .nop) (.seq (.seti (.var 0) (.int 0) (.bop .mod (.bi .int (.cons (.bop .add (.bop .mul (.ix (.var 0) (.int 0)) (.int 48271)) (.int 11)) .nil)) (.int 2147483647))) (.ret (.bop .mod (.bi .int (.cons (.bop .fdiv (.ix (.var 0) (.int 0)) (.int 64)) .nil)) (.var 1)))))
theorem below_1 (Γ : Ev) (sz : Int) (x : Option U) (q : Src) (T : Store) : ∃ q' : Src, evS Γ below1 [some (.loc 0), some (.d (.int sz)), x] (q.c :: T) = some (.nx [some (.loc 0), some (.d (.int sz)), x] (q'.c :: T)) := by
  obtain ⟨a, b, rest⟩ := q
  by_cases hb : b = 0
  · cases rest with
    | nil => exact ⟨⟨a, b, []⟩, by simp [below1, Src.c, at1, hb, ev_join, ev_split, kTx, ev_nset, ev_mkc, kMkc, kMkc2, ev_meth, kMeth, kMeth2, ev_fapp, kFapp, kFapp2, ev_fpop, kFpop, ev_fix, kFix, kFix2, ev_flen, kFlen, ev_ftup, kFtup, et_feq0, kTfeq0, es_seto, kSo, kSo2, es_augf, kAf, kAf2, ownB, ownL, ownW, sameO, ownN, insOk, ev_bdn, ev_sdef, ev_bget, ei_rng2, ev_rev, ev_srt, kRn2, kRn, kRev, mapTup, es_rais, kRais, es_tri, kTri_ex, kTri_nx, kTri_rt, eh_hand, eh_handX, eh_nop, evX, noXS_nx, noXS_rt, bnd_ex, bnD_ex, bndS_ex, inS_ex, line, es_augi, kAi2, kAi3, kAi4, repl, ev_int, ev_str, ev_bl, ev_non, ev_var, ev_con, ev_bop, ev_neg, ev_cmp, ev_chain, ev_not, ev_and, ev_or, ev_ite, ev_ix, ev_sl, ev_tup, ev_lst, ev_cel, ev_catc, ev_map, ev_call, ev_mkd, ev_prop, ev_fld, ev_bi, ev_isi, ev_cix, ev_app, ev_popa, ev_lc, et_yes, et_not, et_and, et_or, et_ite, et_cmp, et_call, et_isi, et_bi, et_var, el_nil, el_cons, ep_nil, ep_cons, ei_rng1, ei_seq, ei_enum, ei_zip, es_nop, es_seq, es_asg, es_par, es_aug, es_seti, es_setf, es_ex, es_ret, es_retN, es_ite, es_loop, es_frz, kGiv, k2, kNeg, kNot, kAnd, kOr, kIf, kCh2, kCh1, kCh, kIx2, kIx, kSl3, kSl2, kSl, kTup, kLst, kCel, kCat2, kCat, kMap, kFn, kProp, kFld, kBi, kIsi, kApp2, kApp, kPop2, kPop, kOkL, kLc, kIt1, kIt2, item, kTnot, kTand, kTor, oB, kTcmp2, kTcmp, kTb, kTfn, kTisi, kTbi, kL2, kL, kP, kR1, kSeq, kEnum, kZip2, kZip, kSet, kPar, kAug, kAug0, kSi3, kSi2, kSi, kSf2, kSf, kEx, kRet, kLoop, kVar, kTvar, kFrz, cmpO, start0, bindU, bindTo, setAll, wipeE, lst1, seqOf, biU, biD, bopD, cmpD, ixD, isiD, cixD, idxS, strsOf, intC, eqC, eqD, eqDs, scal, memD, flat, str_inj, str_beq, List.lookup_cons, List.lookup_nil, putD, isLst, loopS, walk, noX, bnd_ok, bnd_none, bnD_ok, bnD_none, bndS_nx, bndS_rt, bndS_none, inS_ok, inS_none, giv_some, giv_none, pick_t, pick_f]⟩
    | cons v rest =>
      refine ⟨⟨a, v, rest⟩, ?_⟩
      have h2 : (2 : Int) < (rest.length : Int) + 1 + 1 + 1 := by omega
      simp [below1, Src.c, at1, hb, plc1, plc2, h2, small62, ev_join, ev_split, kTx, ev_nset, ev_mkc, kMkc, kMkc2, ev_meth, kMeth, kMeth2, ev_fapp, kFapp, kFapp2, ev_fpop, kFpop, ev_fix, kFix, kFix2, ev_flen, kFlen, ev_ftup, kFtup, et_feq0, kTfeq0, es_seto, kSo, kSo2, es_augf, kAf, kAf2, ownB, ownL, ownW, sameO, ownN, insOk, ev_bdn, ev_sdef, ev_bget, ei_rng2, ev_rev, ev_srt, kRn2, kRn, kRev, mapTup, es_rais, kRais, es_tri, kTri_ex, kTri_nx, kTri_rt, eh_hand, eh_handX, eh_nop, evX, noXS_nx, noXS_rt, bnd_ex, bnD_ex, bndS_ex, inS_ex, line, es_augi, kAi2, kAi3, kAi4, repl, ev_int, ev_str, ev_bl, ev_non, ev_var, ev_con, ev_bop, ev_neg, ev_cmp, ev_chain, ev_not, ev_and, ev_or, ev_ite, ev_ix, ev_sl, ev_tup, ev_lst, ev_cel, ev_catc, ev_map, ev_call, ev_mkd, ev_prop, ev_fld, ev_bi, ev_isi, ev_cix, ev_app, ev_popa, ev_lc, et_yes, et_not, et_and, et_or, et_ite, et_cmp, et_call, et_isi, et_bi, et_var, el_nil, el_cons, ep_nil, ep_cons, ei_rng1, ei_seq, ei_enum, ei_zip, es_nop, es_seq, es_asg, es_par, es_aug, es_seti, es_setf, es_ex, es_ret, es_retN, es_ite, es_loop, es_frz, kGiv, k2, kNeg, kNot, kAnd, kOr, kIf, kCh2, kCh1, kCh, kIx2, kIx, kSl3, kSl2, kSl, kTup, kLst, kCel, kCat2, kCat, kMap, kFn, kProp, kFld, kBi, kIsi, kApp2, kApp, kPop2, kPop, kOkL, kLc, kIt1, kIt2, item, kTnot, kTand, kTor, oB, kTcmp2, kTcmp, kTb, kTfn, kTisi, kTbi, kL2, kL, kP, kR1, kSeq, kEnum, kZip2, kZip, kSet, kPar, kAug, kAug0, kSi3, kSi2, kSi, kSf2, kSf, kEx, kRet, kLoop, kVar, kTvar, kFrz, cmpO, start0, bindU, bindTo, setAll, wipeE, lst1, seqOf, biU, biD, bopD, cmpD, ixD, isiD, cixD, idxS, strsOf, intC, eqC, eqD, eqDs, scal, memD, flat, str_inj, str_beq, List.lookup_cons, List.lookup_nil, putD, isLst, loopS, walk, noX, bnd_ok, bnd_none, bnD_ok, bnD_none, bndS_nx, bndS_rt, bndS_none, inS_ok, inS_none, giv_some, giv_none, pick_t, pick_f]
  · exact ⟨⟨a, b, rest⟩, by simp [below1, Src.c, at1, beq_false_of_ne hb, ev_join, ev_split, kTx, ev_nset, ev_mkc, kMkc, kMkc2, ev_meth, kMeth, kMeth2, ev_fapp, kFapp, kFapp2, ev_fpop, kFpop, ev_fix, kFix, kFix2, ev_flen, kFlen, ev_ftup, kFtup, et_feq0, kTfeq0, es_seto, kSo, kSo2, es_augf, kAf, kAf2, ownB, ownL, ownW, sameO, ownN, insOk, ev_bdn, ev_sdef, ev_bget, ei_rng2, ev_rev, ev_srt, kRn2, kRn, kRev, mapTup, es_rais, kRais, es_tri, kTri_ex, kTri_nx, kTri_rt, eh_hand, eh_handX, eh_nop, evX, noXS_nx, noXS_rt, bnd_ex, bnD_ex, bndS_ex, inS_ex, line, es_augi, kAi2, kAi3, kAi4, repl, ev_int, ev_str, ev_bl, ev_non, ev_var, ev_con, ev_bop, ev_neg, ev_cmp, ev_chain, ev_not, ev_and, ev_or, ev_ite, ev_ix, ev_sl, ev_tup, ev_lst, ev_cel, ev_catc, ev_map, ev_call, ev_mkd, ev_prop, ev_fld, ev_bi, ev_isi, ev_cix, ev_app, ev_popa, ev_lc, et_yes, et_not, et_and, et_or, et_ite, et_cmp, et_call, et_isi, et_bi, et_var, el_nil, el_cons, ep_nil, ep_cons, ei_rng1, ei_seq, ei_enum, ei_zip, es_nop, es_seq, es_asg, es_par, es_aug, es_seti, es_setf, es_ex, es_ret, es_retN, es_ite, es_loop, es_frz, kGiv, k2, kNeg, kNot, kAnd, kOr, kIf, kCh2, kCh1, kCh, kIx2, kIx, kSl3, kSl2, kSl, kTup, kLst, kCel, kCat2, kCat, kMap, kFn, kProp, kFld, kBi, kIsi, kApp2, kApp, kPop2, kPop, kOkL, kLc, kIt1, kIt2, item, kTnot, kTand, kTor, oB, kTcmp2, kTcmp, kTb, kTfn, kTisi, kTbi, kL2, kL, kP, kR1, kSeq, kEnum, kZip2, kZip, kSet, kPar, kAug, kAug0, kSi3, kSi2, kSi, kSf2, kSf, kEx, kRet, kLoop, kVar, kTvar, kFrz, cmpO, start0, bindU, bindTo, setAll, wipeE, lst1, seqOf, biU, biD, bopD, cmpD, ixD, isiD, cixD, idxS, strsOf, intC, eqC, eqD, eqDs, scal, memD, flat, str_inj, str_beq, List.lookup_cons, List.lookup_nil, putD, isLst, loopS, walk, noX, bnd_ok, bnd_none, bnD_ok, bnD_none, bndS_nx, bndS_rt, bndS_none, inS_ok, inS_none, giv_some, giv_none, pick_t, pick_f]⟩
theorem below_2 (Γ : Ev) (sz : Int) (h1 : 0 < sz) (h2 : sz < 1073741824) (q : Src) (T : Store) : ∃ (r : Int) (q' : Src), evS Γ below2 [some (.loc 0), some (.d (.int sz)), none] (q.c :: T) = some (.rt (.d (.int r)) (q'.c :: T)) ∧ 0 ≤ r ∧ r < sz := by
  obtain ⟨a, b, rest⟩ := q
  by_cases hb : 0 < b
  · refine ⟨b % sz, ⟨a, b / sz, rest⟩, ?_, Int.emod_nonneg _ (by omega), Int.emod_lt_of_pos _ h1⟩
    simp [below2, Src.c, at1, hb, plc1, h1, h2, ev_join, ev_split, kTx, ev_nset, ev_mkc, kMkc, kMkc2, ev_meth, kMeth, kMeth2, ev_fapp, kFapp, kFapp2, ev_fpop, kFpop, ev_fix, kFix, kFix2, ev_flen, kFlen, ev_ftup, kFtup, et_feq0, kTfeq0, es_seto, kSo, kSo2, es_augf, kAf, kAf2, ownB, ownL, ownW, sameO, ownN, insOk, ev_bdn, ev_sdef, ev_bget, ei_rng2, ev_rev, ev_srt, kRn2, kRn, kRev, mapTup, es_rais, kRais, es_tri, kTri_ex, kTri_nx, kTri_rt, eh_hand, eh_handX, eh_nop, evX, noXS_nx, noXS_rt, bnd_ex, bnD_ex, bndS_ex, inS_ex, line, es_augi, kAi2, kAi3, kAi4, repl, ev_int, ev_str, ev_bl, ev_non, ev_var, ev_con, ev_bop, ev_neg, ev_cmp, ev_chain, ev_not, ev_and, ev_or, ev_ite, ev_ix, ev_sl, ev_tup, ev_lst, ev_cel, ev_catc, ev_map, ev_call, ev_mkd, ev_prop, ev_fld, ev_bi, ev_isi, ev_cix, ev_app, ev_popa, ev_lc, et_yes, et_not, et_and, et_or, et_ite, et_cmp, et_call, et_isi, et_bi, et_var, el_nil, el_cons, ep_nil, ep_cons, ei_rng1, ei_seq, ei_enum, ei_zip, es_nop, es_seq, es_asg, es_par, es_aug, es_seti, es_setf, es_ex, es_ret, es_retN, es_ite, es_loop, es_frz, kGiv, k2, kNeg, kNot, kAnd, kOr, kIf, kCh2, kCh1, kCh, kIx2, kIx, kSl3, kSl2, kSl, kTup, kLst, kCel, kCat2, kCat, kMap, kFn, kProp, kFld, kBi, kIsi, kApp2, kApp, kPop2, kPop, kOkL, kLc, kIt1, kIt2, item, kTnot, kTand, kTor, oB, kTcmp2, kTcmp, kTb, kTfn, kTisi, kTbi, kL2, kL, kP, kR1, kSeq, kEnum, kZip2, kZip, kSet, kPar, kAug, kAug0, kSi3, kSi2, kSi, kSf2, kSf, kEx, kRet, kLoop, kVar, kTvar, kFrz, cmpO, start0, bindU, bindTo, setAll, wipeE, lst1, seqOf, biU, biD, bopD, cmpD, ixD, isiD, cixD, idxS, strsOf, intC, eqC, eqD, eqDs, scal, memD, flat, str_inj, str_beq, List.lookup_cons, List.lookup_nil, putD, isLst, loopS, walk, noX, bnd_ok, bnd_none, bnD_ok, bnD_none, bndS_nx, bndS_rt, bndS_none, inS_ok, inS_none, giv_some, giv_none, pick_t, pick_f]
  · refine ⟨(((a * 48271 + 11) % 2147483647) / 64) % sz, ⟨(a * 48271 + 11) % 2147483647, b, rest⟩, ?_, Int.emod_nonneg _ (by omega), Int.emod_lt_of_pos _ h1⟩
    simp [below2, Src.c, at1, at0, hb, plc0, h1, h2, small64, ev_join, ev_split, kTx, ev_nset, ev_mkc, kMkc, kMkc2, ev_meth, kMeth, kMeth2, ev_fapp, kFapp, kFapp2, ev_fpop, kFpop, ev_fix, kFix, kFix2, ev_flen, kFlen, ev_ftup, kFtup, et_feq0, kTfeq0, es_seto, kSo, kSo2, es_augf, kAf, kAf2, ownB, ownL, ownW, sameO, ownN, insOk, ev_bdn, ev_sdef, ev_bget, ei_rng2, ev_rev, ev_srt, kRn2, kRn, kRev, mapTup, es_rais, kRais, es_tri, kTri_ex, kTri_nx, kTri_rt, eh_hand, eh_handX, eh_nop, evX, noXS_nx, noXS_rt, bnd_ex, bnD_ex, bndS_ex, inS_ex, line, es_augi, kAi2, kAi3, kAi4, repl, ev_int, ev_str, ev_bl, ev_non, ev_var, ev_con, ev_bop, ev_neg, ev_cmp, ev_chain, ev_not, ev_and, ev_or, ev_ite, ev_ix, ev_sl, ev_tup, ev_lst, ev_cel, ev_catc, ev_map, ev_call, ev_mkd, ev_prop, ev_fld, ev_bi, ev_isi, ev_cix, ev_app, ev_popa, ev_lc, et_yes, et_not, et_and, et_or, et_ite, et_cmp, et_call, et_isi, et_bi, et_var, el_nil, el_cons, ep_nil, ep_cons, ei_rng1, ei_seq, ei_enum, ei_zip, es_nop, es_seq, es_asg, es_par, es_aug, es_seti, es_setf, es_ex, es_ret, es_retN, es_ite, es_loop, es_frz, kGiv, k2, kNeg, kNot, kAnd, kOr, kIf, kCh2, kCh1, kCh, kIx2, kIx, kSl3, kSl2, kSl, kTup, kLst, kCel, kCat2, kCat, kMap, kFn, kProp, kFld, kBi, kIsi, kApp2, kApp, kPop2, kPop, kOkL, kLc, kIt1, kIt2, item, kTnot, kTand, kTor, oB, kTcmp2, kTcmp, kTb, kTfn, kTisi, kTbi, kL2, kL, kP, kR1, kSeq, kEnum, kZip2, kZip, kSet, kPar, kAug, kAug0, kSi3, kSi2, kSi, kSf2, kSf, kEx, kRet, kLoop, kVar, kTvar, kFrz, cmpO, start0, bindU, bindTo, setAll, wipeE, lst1, seqOf, biU, biD, bopD, cmpD, ixD, isiD, cixD, idxS, strsOf, intC, eqC, eqD, eqDs, scal, memD, flat, str_inj, str_beq, List.lookup_cons, List.lookup_nil, putD, isLst, loopS, walk, noX, bnd_ok, bnd_none, bnD_ok, bnD_none, bndS_nx, bndS_rt, bndS_none, inS_ok, inS_none, giv_some, giv_none, pick_t, pick_f]
/-- behind a def's end -/
theorem fin_q (d : D) (c c' : Cell) (T : Store) : fin (c :: T).length (some (.rt (.d d) (c' :: T))) = some (.ok (.d d) (c' :: T)) := by
  simp [fin]
theorem r_below (k : Nat) (sz : Int) (h1 : 0 < sz) (h2 : sz < 1073741824) (q : Src) (T : Store) : ∃ (r : Int) (q' : Src), run df con 3 (k + 1) 6 [.loc 0, .d (.int sz)] (q.c :: T) = some (.ok (.d (.int r)) (q'.c :: T)) ∧ 0 ≤ r ∧ r < sz := by
  obtain ⟨q1, e1⟩ := below_1 ⟨run df con 3 k, con, 3⟩ sz none q T
  obtain ⟨r, q', e2, h3, h4⟩ := below_2 ⟨run df con 3 k, con, 3⟩ sz h1 h2 q1 T
  refine ⟨r, q', ?_, h3, h4⟩
  refine (run_at (d := ⟨2, 3, ir6⟩) (r := some (.rt (.d (.int r)) (q'.c :: T))) rfl rfl ?_).trans (fin_q _ _ _ _)
  show bndS (evS _ below1 _ _) (evS _ below2) = _
  rw [show start0 ⟨2, 3, ir6⟩ [.loc 0, .d (.int sz)] = [some (.loc 0), some (.d (.int sz)), none] from rfl, e1, bndS_nx, e2]
/-- one of the items -/
theorem at_in {A : Type} (l : List A) (r : Int) (h0 : 0 ≤ r) (h1 : r < l.length) : ∃ x, at_ l r = some x ∧ x ∈ l := by
  have e : plc l.length r = some r.toNat := by unfold plc; rw [if_pos h0, if_pos h1]
  have h2 : r.toNat < l.length := by omega
  refine ⟨l[r.toNat], ?_, List.getElem_mem _⟩
  unfold at_; rw [e]; simp [h2]
theorem r_pick (k : Nat) (items : List D) (h1 : items ≠ []) (h2 : items.length < 1000) (q : Src) (T : Store) : ∃ (x : D) (q' : Src), run df con 3 (k + 2) 2 [.loc 0, .d (.lst items)] (q.c :: T) = some (.ok (.d x) (q'.c :: T)) ∧ x ∈ items := by
  have hp : (0 : Int) < items.length := by have := List.length_pos_iff.mpr h1; omega
  obtain ⟨r, q', e, h3, h4⟩ := r_below k items.length hp (by omega) q T
  obtain ⟨x, e2, hx⟩ := at_in items r h3 h4
  refine ⟨x, q', ?_, hx⟩
  refine (run_at (r := some (.rt (.d x) (q'.c :: T))) rfl rfl ?_).trans (fin_q _ _ _ _)
  simp [ir2, e, e2, ev_join, ev_split, kTx, ev_nset, ev_mkc, kMkc, kMkc2, ev_meth, kMeth, kMeth2, ev_fapp, kFapp, kFapp2, ev_fpop, kFpop, ev_fix, kFix, kFix2, ev_flen, kFlen, ev_ftup, kFtup, et_feq0, kTfeq0, es_seto, kSo, kSo2, es_augf, kAf, kAf2, ownB, ownL, ownW, sameO, ownN, insOk, ev_bdn, ev_sdef, ev_bget, ei_rng2, ev_rev, ev_srt, kRn2, kRn, kRev, mapTup, es_rais, kRais, es_tri, kTri_ex, kTri_nx, kTri_rt, eh_hand, eh_handX, eh_nop, evX, noXS_nx, noXS_rt, bnd_ex, bnD_ex, bndS_ex, inS_ex, line, es_augi, kAi2, kAi3, kAi4, repl, ev_int, ev_str, ev_bl, ev_non, ev_var, ev_con, ev_bop, ev_neg, ev_cmp, ev_chain, ev_not, ev_and, ev_or, ev_ite, ev_ix, ev_sl, ev_tup, ev_lst, ev_cel, ev_catc, ev_map, ev_call, ev_mkd, ev_prop, ev_fld, ev_bi, ev_isi, ev_cix, ev_app, ev_popa, ev_lc, et_yes, et_not, et_and, et_or, et_ite, et_cmp, et_call, et_isi, et_bi, et_var, el_nil, el_cons, ep_nil, ep_cons, ei_rng1, ei_seq, ei_enum, ei_zip, es_nop, es_seq, es_asg, es_par, es_aug, es_seti, es_setf, es_ex, es_ret, es_retN, es_ite, es_loop, es_frz, kGiv, k2, kNeg, kNot, kAnd, kOr, kIf, kCh2, kCh1, kCh, kIx2, kIx, kSl3, kSl2, kSl, kTup, kLst, kCel, kCat2, kCat, kMap, kFn, kProp, kFld, kBi, kIsi, kApp2, kApp, kPop2, kPop, kOkL, kLc, kIt1, kIt2, item, kTnot, kTand, kTor, oB, kTcmp2, kTcmp, kTb, kTfn, kTisi, kTbi, kL2, kL, kP, kR1, kSeq, kEnum, kZip2, kZip, kSet, kPar, kAug, kAug0, kSi3, kSi2, kSi, kSf2, kSf, kEx, kRet, kLoop, kVar, kTvar, kFrz, cmpO, start0, bindU, bindTo, setAll, wipeE, lst1, seqOf, biU, biD, bopD, cmpD, ixD, isiD, cixD, idxS, strsOf, intC, eqC, eqD, eqDs, scal, memD, flat, str_inj, str_beq, List.lookup_cons, List.lookup_nil, putD, isLst, loopS, walk, noX, bnd_ok, bnd_none, bnD_ok, bnD_none, bndS_nx, bndS_rt, bndS_none, inS_ok, inS_none, giv_some, giv_none, pick_t, pick_f]
def Sp.ok : Sp → Prop
  | .same => True
  | .on b => 1 ≤ b ∧ b ≤ 4
  | .short b => 1 ≤ b ∧ b ≤ 3
theorem r_step (k : Nat) (q : Src) (T : Store) : ∃ (s : Sp) (q' : Src), run df con 3 (k + 2) 13 [.loc 0] (q.c :: T) = some (.ok (.d (Sp.d s)) (q'.c :: T)) ∧ s.ok := by
  obtain ⟨r, q1, e, h3, h4⟩ := r_below k 7 (by omega) (by omega) q T
  by_cases hr : r = 0
  · refine ⟨.same, q1, ?_, trivial⟩
    refine (run_at (r := some (.rt (.d (Sp.d .same)) (q1.c :: T))) rfl rfl ?_).trans (fin_q _ _ _ _)
    simp [ir13, e, hr, Sp.d, ev_join, ev_split, kTx, ev_nset, ev_mkc, kMkc, kMkc2, ev_meth, kMeth, kMeth2, ev_fapp, kFapp, kFapp2, ev_fpop, kFpop, ev_fix, kFix, kFix2, ev_flen, kFlen, ev_ftup, kFtup, et_feq0, kTfeq0, es_seto, kSo, kSo2, es_augf, kAf, kAf2, ownB, ownL, ownW, sameO, ownN, insOk, ev_bdn, ev_sdef, ev_bget, ei_rng2, ev_rev, ev_srt, kRn2, kRn, kRev, mapTup, es_rais, kRais, es_tri, kTri_ex, kTri_nx, kTri_rt, eh_hand, eh_handX, eh_nop, evX, noXS_nx, noXS_rt, bnd_ex, bnD_ex, bndS_ex, inS_ex, line, es_augi, kAi2, kAi3, kAi4, repl, ev_int, ev_str, ev_bl, ev_non, ev_var, ev_con, ev_bop, ev_neg, ev_cmp, ev_chain, ev_not, ev_and, ev_or, ev_ite, ev_ix, ev_sl, ev_tup, ev_lst, ev_cel, ev_catc, ev_map, ev_call, ev_mkd, ev_prop, ev_fld, ev_bi, ev_isi, ev_cix, ev_app, ev_popa, ev_lc, et_yes, et_not, et_and, et_or, et_ite, et_cmp, et_call, et_isi, et_bi, et_var, el_nil, el_cons, ep_nil, ep_cons, ei_rng1, ei_seq, ei_enum, ei_zip, es_nop, es_seq, es_asg, es_par, es_aug, es_seti, es_setf, es_ex, es_ret, es_retN, es_ite, es_loop, es_frz, kGiv, k2, kNeg, kNot, kAnd, kOr, kIf, kCh2, kCh1, kCh, kIx2, kIx, kSl3, kSl2, kSl, kTup, kLst, kCel, kCat2, kCat, kMap, kFn, kProp, kFld, kBi, kIsi, kApp2, kApp, kPop2, kPop, kOkL, kLc, kIt1, kIt2, item, kTnot, kTand, kTor, oB, kTcmp2, kTcmp, kTb, kTfn, kTisi, kTbi, kL2, kL, kP, kR1, kSeq, kEnum, kZip2, kZip, kSet, kPar, kAug, kAug0, kSi3, kSi2, kSi, kSf2, kSf, kEx, kRet, kLoop, kVar, kTvar, kFrz, cmpO, start0, bindU, bindTo, setAll, wipeE, lst1, seqOf, biU, biD, bopD, cmpD, ixD, isiD, cixD, idxS, strsOf, intC, eqC, eqD, eqDs, scal, memD, flat, str_inj, str_beq, List.lookup_cons, List.lookup_nil, putD, isLst, loopS, walk, noX, bnd_ok, bnd_none, bnD_ok, bnD_none, bndS_nx, bndS_rt, bndS_none, inS_ok, inS_none, giv_some, giv_none, pick_t, pick_f]
  · by_cases h5 : r < 5
    · obtain ⟨v, q2, e2, h6, h7⟩ := r_below k 4 (by omega) (by omega) q1 T
      refine ⟨.on (1 + v), q2, ?_, ⟨by omega, by omega⟩⟩
      refine (run_at (r := some (.rt (.d (Sp.d (.on (1 + v)))) (q2.c :: T))) rfl rfl ?_).trans (fin_q _ _ _ _)
      simp [ir13, e, e2, beq_false_of_ne hr, h5, Sp.d, ev_join, ev_split, kTx, ev_nset, ev_mkc, kMkc, kMkc2, ev_meth, kMeth, kMeth2, ev_fapp, kFapp, kFapp2, ev_fpop, kFpop, ev_fix, kFix, kFix2, ev_flen, kFlen, ev_ftup, kFtup, et_feq0, kTfeq0, es_seto, kSo, kSo2, es_augf, kAf, kAf2, ownB, ownL, ownW, sameO, ownN, insOk, ev_bdn, ev_sdef, ev_bget, ei_rng2, ev_rev, ev_srt, kRn2, kRn, kRev, mapTup, es_rais, kRais, es_tri, kTri_ex, kTri_nx, kTri_rt, eh_hand, eh_handX, eh_nop, evX, noXS_nx, noXS_rt, bnd_ex, bnD_ex, bndS_ex, inS_ex, line, es_augi, kAi2, kAi3, kAi4, repl, ev_int, ev_str, ev_bl, ev_non, ev_var, ev_con, ev_bop, ev_neg, ev_cmp, ev_chain, ev_not, ev_and, ev_or, ev_ite, ev_ix, ev_sl, ev_tup, ev_lst, ev_cel, ev_catc, ev_map, ev_call, ev_mkd, ev_prop, ev_fld, ev_bi, ev_isi, ev_cix, ev_app, ev_popa, ev_lc, et_yes, et_not, et_and, et_or, et_ite, et_cmp, et_call, et_isi, et_bi, et_var, el_nil, el_cons, ep_nil, ep_cons, ei_rng1, ei_seq, ei_enum, ei_zip, es_nop, es_seq, es_asg, es_par, es_aug, es_seti, es_setf, es_ex, es_ret, es_retN, es_ite, es_loop, es_frz, kGiv, k2, kNeg, kNot, kAnd, kOr, kIf, kCh2, kCh1, kCh, kIx2, kIx, kSl3, kSl2, kSl, kTup, kLst, kCel, kCat2, kCat, kMap, kFn, kProp, kFld, kBi, kIsi, kApp2, kApp, kPop2, kPop, kOkL, kLc, kIt1, kIt2, item, kTnot, kTand, kTor, oB, kTcmp2, kTcmp, kTb, kTfn, kTisi, kTbi, kL2, kL, kP, kR1, kSeq, kEnum, kZip2, kZip, kSet, kPar, kAug, kAug0, kSi3, kSi2, kSi, kSf2, kSf, kEx, kRet, kLoop, kVar, kTvar, kFrz, cmpO, start0, bindU, bindTo, setAll, wipeE, lst1, seqOf, biU, biD, bopD, cmpD, ixD, isiD, cixD, idxS, strsOf, intC, eqC, eqD, eqDs, scal, memD, flat, str_inj, str_beq, List.lookup_cons, List.lookup_nil, putD, isLst, loopS, walk, noX, bnd_ok, bnd_none, bnD_ok, bnD_none, bndS_nx, bndS_rt, bndS_none, inS_ok, inS_none, giv_some, giv_none, pick_t, pick_f]
    · obtain ⟨v, q2, e2, h6, h7⟩ := r_below k 3 (by omega) (by omega) q1 T
      refine ⟨.short (1 + v), q2, ?_, ⟨by omega, by omega⟩⟩
      refine (run_at (r := some (.rt (.d (Sp.d (.short (1 + v)))) (q2.c :: T))) rfl rfl ?_).trans (fin_q _ _ _ _)
      simp [ir13, e, e2, beq_false_of_ne hr, h5, Sp.d, ev_join, ev_split, kTx, ev_nset, ev_mkc, kMkc, kMkc2, ev_meth, kMeth, kMeth2, ev_fapp, kFapp, kFapp2, ev_fpop, kFpop, ev_fix, kFix, kFix2, ev_flen, kFlen, ev_ftup, kFtup, et_feq0, kTfeq0, es_seto, kSo, kSo2, es_augf, kAf, kAf2, ownB, ownL, ownW, sameO, ownN, insOk, ev_bdn, ev_sdef, ev_bget, ei_rng2, ev_rev, ev_srt, kRn2, kRn, kRev, mapTup, es_rais, kRais, es_tri, kTri_ex, kTri_nx, kTri_rt, eh_hand, eh_handX, eh_nop, evX, noXS_nx, noXS_rt, bnd_ex, bnD_ex, bndS_ex, inS_ex, line, es_augi, kAi2, kAi3, kAi4, repl, ev_int, ev_str, ev_bl, ev_non, ev_var, ev_con, ev_bop, ev_neg, ev_cmp, ev_chain, ev_not, ev_and, ev_or, ev_ite, ev_ix, ev_sl, ev_tup, ev_lst, ev_cel, ev_catc, ev_map, ev_call, ev_mkd, ev_prop, ev_fld, ev_bi, ev_isi, ev_cix, ev_app, ev_popa, ev_lc, et_yes, et_not, et_and, et_or, et_ite, et_cmp, et_call, et_isi, et_bi, et_var, el_nil, el_cons, ep_nil, ep_cons, ei_rng1, ei_seq, ei_enum, ei_zip, es_nop, es_seq, es_asg, es_par, es_aug, es_seti, es_setf, es_ex, es_ret, es_retN, es_ite, es_loop, es_frz, kGiv, k2, kNeg, kNot, kAnd, kOr, kIf, kCh2, kCh1, kCh, kIx2, kIx, kSl3, kSl2, kSl, kTup, kLst, kCel, kCat2, kCat, kMap, kFn, kProp, kFld, kBi, kIsi, kApp2, kApp, kPop2, kPop, kOkL, kLc, kIt1, kIt2, item, kTnot, kTand, kTor, oB, kTcmp2, kTcmp, kTb, kTfn, kTisi, kTbi, kL2, kL, kP, kR1, kSeq, kEnum, kZip2, kZip, kSet, kPar, kAug, kAug0, kSi3, kSi2, kSi, kSf2, kSf, kEx, kRet, kLoop, kVar, kTvar, kFrz, cmpO, start0, bindU, bindTo, setAll, wipeE, lst1, seqOf, biU, biD, bopD, cmpD, ixD, isiD, cixD, idxS, strsOf, intC, eqC, eqD, eqDs, scal, memD, flat, str_inj, str_beq, List.lookup_cons, List.lookup_nil, putD, isLst, loopS, walk, noX, bnd_ok, bnd_none, bnD_ok, bnD_none, bndS_nx, bndS_rt, bndS_none, inS_ok, inS_none, giv_some, giv_none, pick_t, pick_f]
theorem walk4 (k : Nat) (x y : Option U) (T : Store) : ∀ (l acc : List D) (q : Src), ∃ (ss : List Sp) (q' : Src),
    walk (item (evT ⟨run df con 3 (k + 2), con, 3⟩ .yes) (evE ⟨run df con 3 (k + 2), con, 3⟩ (.call 13 (.cons (.var 0) .nil))) [2] [2] [some (.loc 0), x, y]) acc l (q.c :: T) = some (.ok (acc ++ ss.map Sp.d) (q'.c :: T)) ∧ ss.length = l.length ∧ ∀ s ∈ ss, Sp.ok s
  | [], acc, q => ⟨[], q, by simp [walk], rfl, by simp⟩
  | d :: l, acc, q => by
    obtain ⟨s, q1, e1, hs⟩ := r_step k q T
    obtain ⟨ss, q2, e2, h2, h3⟩ := walk4 k x y T l (acc ++ [Sp.d s]) q1
    refine ⟨s :: ss, q2, ?_, by simp [h2], fun t ht => by
      rcases List.mem_cons.mp ht with z | z
      · rw [z]; exact hs
      · exact h3 t z⟩
    have e3 : item (evT ⟨run df con 3 (k + 2), con, 3⟩ .yes) (evE ⟨run df con 3 (k + 2), con, 3⟩ (.call 13 (.cons (.var 0) .nil))) [2] [2] [some (.loc 0), x, y] d (q.c :: T) = some (.ok (some (Sp.d s)) (q1.c :: T)) := by simp [e1, ev_join, ev_split, kTx, ev_nset, ev_mkc, kMkc, kMkc2, ev_meth, kMeth, kMeth2, ev_fapp, kFapp, kFapp2, ev_fpop, kFpop, ev_fix, kFix, kFix2, ev_flen, kFlen, ev_ftup, kFtup, et_feq0, kTfeq0, es_seto, kSo, kSo2, es_augf, kAf, kAf2, ownB, ownL, ownW, sameO, ownN, insOk, ev_bdn, ev_sdef, ev_bget, ei_rng2, ev_rev, ev_srt, kRn2, kRn, kRev, mapTup, es_rais, kRais, es_tri, kTri_ex, kTri_nx, kTri_rt, eh_hand, eh_handX, eh_nop, evX, noXS_nx, noXS_rt, bnd_ex, bnD_ex, bndS_ex, inS_ex, line, es_augi, kAi2, kAi3, kAi4, repl, ev_int, ev_str, ev_bl, ev_non, ev_var, ev_con, ev_bop, ev_neg, ev_cmp, ev_chain, ev_not, ev_and, ev_or, ev_ite, ev_ix, ev_sl, ev_tup, ev_lst, ev_cel, ev_catc, ev_map, ev_call, ev_mkd, ev_prop, ev_fld, ev_bi, ev_isi, ev_cix, ev_app, ev_popa, ev_lc, et_yes, et_not, et_and, et_or, et_ite, et_cmp, et_call, et_isi, et_bi, et_var, el_nil, el_cons, ep_nil, ep_cons, ei_rng1, ei_seq, ei_enum, ei_zip, es_nop, es_seq, es_asg, es_par, es_aug, es_seti, es_setf, es_ex, es_ret, es_retN, es_ite, es_loop, es_frz, kGiv, k2, kNeg, kNot, kAnd, kOr, kIf, kCh2, kCh1, kCh, kIx2, kIx, kSl3, kSl2, kSl, kTup, kLst, kCel, kCat2, kCat, kMap, kFn, kProp, kFld, kBi, kIsi, kApp2, kApp, kPop2, kPop, kOkL, kLc, kIt1, kIt2, item, kTnot, kTand, kTor, oB, kTcmp2, kTcmp, kTb, kTfn, kTisi, kTbi, kL2, kL, kP, kR1, kSeq, kEnum, kZip2, kZip, kSet, kPar, kAug, kAug0, kSi3, kSi2, kSi, kSf2, kSf, kEx, kRet, kLoop, kVar, kTvar, kFrz, cmpO, start0, bindU, bindTo, setAll, wipeE, lst1, seqOf, biU, biD, bopD, cmpD, ixD, isiD, cixD, idxS, strsOf, intC, eqC, eqD, eqDs, scal, memD, flat, str_inj, str_beq, List.lookup_cons, List.lookup_nil, putD, isLst, loopS, walk, noX, bnd_ok, bnd_none, bnD_ok, bnD_none, bndS_nx, bndS_rt, bndS_none, inS_ok, inS_none, giv_some, giv_none, pick_t, pick_f]
    unfold walk
    rw [e3, bnd_ok]
    simp only
    rw [e2]
    simp
theorem rng_len (n : Int) : (rngL 0 n).length = n.toNat := by simp [rngL]
theorem r_drawn (k : Nat) (most : Int) (h0 : 0 ≤ most) (h9 : most ≤ 9) (q : Src) (T : Store) : ∃ (ss : List Sp) (q' : Src), run df con 3 (k + 3) 4 [.loc 0, .d (.int most)] (q.c :: T) = some (.ok (.d (.tup (ss.map Sp.d))) (q'.c :: T)) ∧ (ss.length : Int) ≤ most ∧ ∀ s ∈ ss, Sp.ok s := by
  obtain ⟨r, q1, e, h3, h4⟩ := r_below (k + 1) (most + 1) (by omega) (by omega) q T
  obtain ⟨ss, q2, e2, h5, h6⟩ := walk4 k (some (.d (.int most))) none T (rngL 0 r) [] q1
  rw [rng_len] at h5
  refine ⟨ss, q2, ?_, by omega, h6⟩
  refine (run_at (d := ⟨2, 3, ir4⟩) (r := some (.rt (.d (.tup (ss.map Sp.d))) (q2.c :: T))) rfl rfl ?_).trans (fin_q _ _ _ _)
  have hr : small62 r = true := by simp [small62]; omega
  have hl : (rngL 0 r).length ≤ line := by rw [rng_len]; unfold line; omega
  have e3 : evI ⟨run df con 3 (k + 2), con, 3⟩ (.rng1 (.call 6 (.cons (.var 0) (.cons (.bop .add (.var 1) (.int 1)) .nil)))) [some (.loc 0), some (.d (.int most)), none] (q.c :: T) = some (.ok (rngL 0 r) (q1.c :: T)) := by simp [e, hr, ev_join, ev_split, kTx, ev_nset, ev_mkc, kMkc, kMkc2, ev_meth, kMeth, kMeth2, ev_fapp, kFapp, kFapp2, ev_fpop, kFpop, ev_fix, kFix, kFix2, ev_flen, kFlen, ev_ftup, kFtup, et_feq0, kTfeq0, es_seto, kSo, kSo2, es_augf, kAf, kAf2, ownB, ownL, ownW, sameO, ownN, insOk, ev_bdn, ev_sdef, ev_bget, ei_rng2, ev_rev, ev_srt, kRn2, kRn, kRev, mapTup, es_rais, kRais, es_tri, kTri_ex, kTri_nx, kTri_rt, eh_hand, eh_handX, eh_nop, evX, noXS_nx, noXS_rt, bnd_ex, bnD_ex, bndS_ex, inS_ex, line, es_augi, kAi2, kAi3, kAi4, repl, ev_int, ev_str, ev_bl, ev_non, ev_var, ev_con, ev_bop, ev_neg, ev_cmp, ev_chain, ev_not, ev_and, ev_or, ev_ite, ev_ix, ev_sl, ev_tup, ev_lst, ev_cel, ev_catc, ev_map, ev_call, ev_mkd, ev_prop, ev_fld, ev_bi, ev_isi, ev_cix, ev_app, ev_popa, ev_lc, et_yes, et_not, et_and, et_or, et_ite, et_cmp, et_call, et_isi, et_bi, et_var, el_nil, el_cons, ep_nil, ep_cons, ei_rng1, ei_seq, ei_enum, ei_zip, es_nop, es_seq, es_asg, es_par, es_aug, es_seti, es_setf, es_ex, es_ret, es_retN, es_ite, es_loop, es_frz, kGiv, k2, kNeg, kNot, kAnd, kOr, kIf, kCh2, kCh1, kCh, kIx2, kIx, kSl3, kSl2, kSl, kTup, kLst, kCel, kCat2, kCat, kMap, kFn, kProp, kFld, kBi, kIsi, kApp2, kApp, kPop2, kPop, kOkL, kLc, kIt1, kIt2, item, kTnot, kTand, kTor, oB, kTcmp2, kTcmp, kTb, kTfn, kTisi, kTbi, kL2, kL, kP, kR1, kSeq, kEnum, kZip2, kZip, kSet, kPar, kAug, kAug0, kSi3, kSi2, kSi, kSf2, kSf, kEx, kRet, kLoop, kVar, kTvar, kFrz, cmpO, start0, bindU, bindTo, setAll, wipeE, lst1, seqOf, biU, biD, bopD, cmpD, ixD, isiD, cixD, idxS, strsOf, intC, eqC, eqD, eqDs, scal, memD, flat, str_inj, str_beq, List.lookup_cons, List.lookup_nil, putD, isLst, loopS, walk, noX, bnd_ok, bnd_none, bnD_ok, bnD_none, bndS_nx, bndS_rt, bndS_none, inS_ok, inS_none, giv_some, giv_none, pick_t, pick_f]
  have e4 : evE ⟨run df con 3 (k + 2), con, 3⟩ (.lc [2] (.rng1 (.call 6 (.cons (.var 0) (.cons (.bop .add (.var 1) (.int 1)) .nil)))) [2] .yes (.call 13 (.cons (.var 0) .nil))) [some (.loc 0), some (.d (.int most)), none] (q.c :: T) = some (.ok (.d (.lst (ss.map Sp.d))) (q2.c :: T)) := by
    rw [ev_lc, e3, bnd_ok]
    unfold kLc
    rw [if_pos hl, e2]
    simp [kOkL]
  show evS _ (.ret (.bi .tuple (.cons _ .nil))) [some (.loc 0), some (.d (.int most)), none] _ = _
  rw [es_ret, ev_bi, el_cons, e4]
  simp [ev_join, ev_split, kTx, ev_nset, ev_mkc, kMkc, kMkc2, ev_meth, kMeth, kMeth2, ev_fapp, kFapp, kFapp2, ev_fpop, kFpop, ev_fix, kFix, kFix2, ev_flen, kFlen, ev_ftup, kFtup, et_feq0, kTfeq0, es_seto, kSo, kSo2, es_augf, kAf, kAf2, ownB, ownL, ownW, sameO, ownN, insOk, ev_bdn, ev_sdef, ev_bget, ei_rng2, ev_rev, ev_srt, kRn2, kRn, kRev, mapTup, es_rais, kRais, es_tri, kTri_ex, kTri_nx, kTri_rt, eh_hand, eh_handX, eh_nop, evX, noXS_nx, noXS_rt, bnd_ex, bnD_ex, bndS_ex, inS_ex, line, es_augi, kAi2, kAi3, kAi4, repl, ev_int, ev_str, ev_bl, ev_non, ev_var, ev_con, ev_bop, ev_neg, ev_cmp, ev_chain, ev_not, ev_and, ev_or, ev_ite, ev_ix, ev_sl, ev_tup, ev_lst, ev_cel, ev_catc, ev_map, ev_call, ev_mkd, ev_prop, ev_fld, ev_bi, ev_isi, ev_cix, ev_app, ev_popa, ev_lc, et_yes, et_not, et_and, et_or, et_ite, et_cmp, et_call, et_isi, et_bi, et_var, el_nil, el_cons, ep_nil, ep_cons, ei_rng1, ei_seq, ei_enum, ei_zip, es_nop, es_seq, es_asg, es_par, es_aug, es_seti, es_setf, es_ex, es_ret, es_retN, es_ite, es_loop, es_frz, kGiv, k2, kNeg, kNot, kAnd, kOr, kIf, kCh2, kCh1, kCh, kIx2, kIx, kSl3, kSl2, kSl, kTup, kLst, kCel, kCat2, kCat, kMap, kFn, kProp, kFld, kBi, kIsi, kApp2, kApp, kPop2, kPop, kOkL, kLc, kIt1, kIt2, item, kTnot, kTand, kTor, oB, kTcmp2, kTcmp, kTb, kTfn, kTisi, kTbi, kL2, kL, kP, kR1, kSeq, kEnum, kZip2, kZip, kSet, kPar, kAug, kAug0, kSi3, kSi2, kSi, kSf2, kSf, kEx, kRet, kLoop, kVar, kTvar, kFrz, cmpO, start0, bindU, bindTo, setAll, wipeE, lst1, seqOf, biU, biD, bopD, cmpD, ixD, isiD, cixD, idxS, strsOf, intC, eqC, eqD, eqDs, scal, memD, flat, str_inj, str_beq, List.lookup_cons, List.lookup_nil, putD, isLst, loopS, walk, noX, bnd_ok, bnd_none, bnD_ok, bnD_none, bndS_nx, bndS_rt, bndS_none, inS_ok, inS_none, giv_some, giv_none, pick_t, pick_f]
theorem r_startd (k : Nat) (q : Src) (T : Store) : ∃ (f : Bool) (arm : Int) (q' : Src), run df con 3 (k + 3) 3 [.loc 0] (q.c :: T) = some (.ok (.d (hereD f arm)) (q'.c :: T)) ∧ -2 ≤ arm ∧ arm ≤ 2 := by
  obtain ⟨x, q1, e1, hx⟩ := r_pick k [.str "first", .str "second"] (by simp) (by simp) q T
  obtain ⟨r, q2, e2, h3, h4⟩ := r_below (k + 1) 5 (by omega) (by omega) q1 T
  have hf : ∃ f, x = .str (rN f) := by
    simp only [List.mem_cons, List.not_mem_nil, or_false] at hx
    rcases hx with hx | hx
    · exact ⟨true, hx⟩
    · exact ⟨false, hx⟩
  obtain ⟨f, rfl⟩ := hf
  refine ⟨f, r - 2, q2, ?_, by omega, by omega⟩
  refine (run_at (r := some (.rt (.d (hereD f (r - 2))) (q2.c :: T))) rfl rfl ?_).trans (fin_q _ _ _ _)
  simp [ir3, e1, e2, hereD, ev_join, ev_split, kTx, ev_nset, ev_mkc, kMkc, kMkc2, ev_meth, kMeth, kMeth2, ev_fapp, kFapp, kFapp2, ev_fpop, kFpop, ev_fix, kFix, kFix2, ev_flen, kFlen, ev_ftup, kFtup, et_feq0, kTfeq0, es_seto, kSo, kSo2, es_augf, kAf, kAf2, ownB, ownL, ownW, sameO, ownN, insOk, ev_bdn, ev_sdef, ev_bget, ei_rng2, ev_rev, ev_srt, kRn2, kRn, kRev, mapTup, es_rais, kRais, es_tri, kTri_ex, kTri_nx, kTri_rt, eh_hand, eh_handX, eh_nop, evX, noXS_nx, noXS_rt, bnd_ex, bnD_ex, bndS_ex, inS_ex, line, es_augi, kAi2, kAi3, kAi4, repl, ev_int, ev_str, ev_bl, ev_non, ev_var, ev_con, ev_bop, ev_neg, ev_cmp, ev_chain, ev_not, ev_and, ev_or, ev_ite, ev_ix, ev_sl, ev_tup, ev_lst, ev_cel, ev_catc, ev_map, ev_call, ev_mkd, ev_prop, ev_fld, ev_bi, ev_isi, ev_cix, ev_app, ev_popa, ev_lc, et_yes, et_not, et_and, et_or, et_ite, et_cmp, et_call, et_isi, et_bi, et_var, el_nil, el_cons, ep_nil, ep_cons, ei_rng1, ei_seq, ei_enum, ei_zip, es_nop, es_seq, es_asg, es_par, es_aug, es_seti, es_setf, es_ex, es_ret, es_retN, es_ite, es_loop, es_frz, kGiv, k2, kNeg, kNot, kAnd, kOr, kIf, kCh2, kCh1, kCh, kIx2, kIx, kSl3, kSl2, kSl, kTup, kLst, kCel, kCat2, kCat, kMap, kFn, kProp, kFld, kBi, kIsi, kApp2, kApp, kPop2, kPop, kOkL, kLc, kIt1, kIt2, item, kTnot, kTand, kTor, oB, kTcmp2, kTcmp, kTb, kTfn, kTisi, kTbi, kL2, kL, kP, kR1, kSeq, kEnum, kZip2, kZip, kSet, kPar, kAug, kAug0, kSi3, kSi2, kSi, kSf2, kSf, kEx, kRet, kLoop, kVar, kTvar, kFrz, cmpO, start0, bindU, bindTo, setAll, wipeE, lst1, seqOf, biU, biD, bopD, cmpD, ixD, isiD, cixD, idxS, strsOf, intC, eqC, eqD, eqDs, scal, memD, flat, str_inj, str_beq, List.lookup_cons, List.lookup_nil, putD, isLst, loopS, walk, noX, bnd_ok, bnd_none, bnD_ok, bnD_none, bndS_nx, bndS_rt, bndS_none, inS_ok, inS_none, giv_some, giv_none, pick_t, pick_f]
theorem r_sided (k : Nat) (q : Src) (T : Store) : ∃ (right : Bool) (q' : Src), run df con 3 (k + 2) 2 [.loc 0, .d (.lst [.str "left", .str "right"])] (q.c :: T) = some (.ok (.d (.str (sideS right))) (q'.c :: T)) := by
  obtain ⟨x, q1, e1, hx⟩ := r_pick k [.str "left", .str "right"] (by simp) (by simp) q T
  simp only [List.mem_cons, List.not_mem_nil, or_false] at hx
  rcases hx with hx | hx
  · exact ⟨false, q1, by rw [e1, hx]; rfl⟩
  · exact ⟨true, q1, by rw [e1, hx]; rfl⟩
/-! ### the source -/
def rnd1 : Stm := (.asg [2] (.bop .mod (.bi .int (.cons (.bop .add (.bop .mul (.var 2) (.int 31)) (.bi .abs (.cons (.var 3) .nil))) .nil)) (.int 2147483647)))
theorem loop1 (Γ : Ev) (u v : Option U) : ∀ (l : List Int) (seed : Int) (x : Option U), ∃ seed' x', loopS [3] (evS Γ rnd1) (l.map D.int) [u, v, some (.d (.int seed)), x] [] = some (.nx [u, v, some (.d (.int seed')), x'] [])
  | [], seed, x => ⟨seed, x, rfl⟩
  | i :: l, seed, x => by
    obtain ⟨seed', x', ih⟩ := loop1 Γ u v l ((seed * 31 + (if i < 0 then -i else i)) % 2147483647) (some (.d (.int i)))
    refine ⟨seed', x', ?_⟩
    have e : evS Γ rnd1 [u, v, some (.d (.int seed)), some (.d (.int i))] [] = some (.nx [u, v, some (.d (.int ((seed * 31 + (if i < 0 then -i else i)) % 2147483647))), some (.d (.int i))] []) := by
      simp [rnd1, small64, ev_join, ev_split, kTx, ev_nset, ev_mkc, kMkc, kMkc2, ev_meth, kMeth, kMeth2, ev_fapp, kFapp, kFapp2, ev_fpop, kFpop, ev_fix, kFix, kFix2, ev_flen, kFlen, ev_ftup, kFtup, et_feq0, kTfeq0, es_seto, kSo, kSo2, es_augf, kAf, kAf2, ownB, ownL, ownW, sameO, ownN, insOk, ev_bdn, ev_sdef, ev_bget, ei_rng2, ev_rev, ev_srt, kRn2, kRn, kRev, mapTup, es_rais, kRais, es_tri, kTri_ex, kTri_nx, kTri_rt, eh_hand, eh_handX, eh_nop, evX, noXS_nx, noXS_rt, bnd_ex, bnD_ex, bndS_ex, inS_ex, line, es_augi, kAi2, kAi3, kAi4, repl, ev_int, ev_str, ev_bl, ev_non, ev_var, ev_con, ev_bop, ev_neg, ev_cmp, ev_chain, ev_not, ev_and, ev_or, ev_ite, ev_ix, ev_sl, ev_tup, ev_lst, ev_cel, ev_catc, ev_map, ev_call, ev_mkd, ev_prop, ev_fld, ev_bi, ev_isi, ev_cix, ev_app, ev_popa, ev_lc, et_yes, et_not, et_and, et_or, et_ite, et_cmp, et_call, et_isi, et_bi, et_var, el_nil, el_cons, ep_nil, ep_cons, ei_rng1, ei_seq, ei_enum, ei_zip, es_nop, es_seq, es_asg, es_par, es_aug, es_seti, es_setf, es_ex, es_ret, es_retN, es_ite, es_loop, es_frz, kGiv, k2, kNeg, kNot, kAnd, kOr, kIf, kCh2, kCh1, kCh, kIx2, kIx, kSl3, kSl2, kSl, kTup, kLst, kCel, kCat2, kCat, kMap, kFn, kProp, kFld, kBi, kIsi, kApp2, kApp, kPop2, kPop, kOkL, kLc, kIt1, kIt2, item, kTnot, kTand, kTor, oB, kTcmp2, kTcmp, kTb, kTfn, kTisi, kTbi, kL2, kL, kP, kR1, kSeq, kEnum, kZip2, kZip, kSet, kPar, kAug, kAug0, kSi3, kSi2, kSi, kSf2, kSf, kEx, kRet, kLoop, kVar, kTvar, kFrz, cmpO, start0, bindU, bindTo, setAll, wipeE, lst1, seqOf, biU, biD, bopD, cmpD, ixD, isiD, cixD, idxS, strsOf, intC, eqC, eqD, eqDs, scal, memD, flat, str_inj, str_beq, List.lookup_cons, List.lookup_nil, putD, isLst, loopS, walk, noX, bnd_ok, bnd_none, bnD_ok, bnD_none, bndS_nx, bndS_rt, bndS_none, inS_ok, inS_none, giv_some, giv_none, pick_t, pick_f]
    show bndS (evS Γ rnd1 [u, v, some (.d (.int seed)), some (.d (.int i))] []) _ = _
    rw [e, bndS_nx]
    exact ih
theorem walk1 (Γ : Ev) (u v w x : Option U) : ∀ (l : List Int) (acc : List D), ∃ m : List Int, walk (item (evT Γ (.cmp .ge (.var 3) (.bop .pow (.int 10) (.int 18)))) (evE Γ (.var 3)) [3] [3] [u, v, w, x]) acc (l.map D.int) [] = some (.ok (acc ++ m.map D.int) []) ∧ m.length ≤ l.length
  | [], acc => ⟨[], by simp [walk], Nat.le_refl _⟩
  | i :: l, acc => by
    by_cases h : 1000000000000000000 ≤ i
    · obtain ⟨m, ih, hm⟩ := walk1 Γ u v w x l (acc ++ [.int i])
      refine ⟨i :: m, ?_, by simp; exact hm⟩
      have e : item (evT Γ (.cmp .ge (.var 3) (.bop .pow (.int 10) (.int 18)))) (evE Γ (.var 3)) [3] [3] [u, v, w, x] (.int i) [] = some (.ok (some (.int i)) []) := by simp [h, ev_join, ev_split, kTx, ev_nset, ev_mkc, kMkc, kMkc2, ev_meth, kMeth, kMeth2, ev_fapp, kFapp, kFapp2, ev_fpop, kFpop, ev_fix, kFix, kFix2, ev_flen, kFlen, ev_ftup, kFtup, et_feq0, kTfeq0, es_seto, kSo, kSo2, es_augf, kAf, kAf2, ownB, ownL, ownW, sameO, ownN, insOk, ev_bdn, ev_sdef, ev_bget, ei_rng2, ev_rev, ev_srt, kRn2, kRn, kRev, mapTup, es_rais, kRais, es_tri, kTri_ex, kTri_nx, kTri_rt, eh_hand, eh_handX, eh_nop, evX, noXS_nx, noXS_rt, bnd_ex, bnD_ex, bndS_ex, inS_ex, line, es_augi, kAi2, kAi3, kAi4, repl, ev_int, ev_str, ev_bl, ev_non, ev_var, ev_con, ev_bop, ev_neg, ev_cmp, ev_chain, ev_not, ev_and, ev_or, ev_ite, ev_ix, ev_sl, ev_tup, ev_lst, ev_cel, ev_catc, ev_map, ev_call, ev_mkd, ev_prop, ev_fld, ev_bi, ev_isi, ev_cix, ev_app, ev_popa, ev_lc, et_yes, et_not, et_and, et_or, et_ite, et_cmp, et_call, et_isi, et_bi, et_var, el_nil, el_cons, ep_nil, ep_cons, ei_rng1, ei_seq, ei_enum, ei_zip, es_nop, es_seq, es_asg, es_par, es_aug, es_seti, es_setf, es_ex, es_ret, es_retN, es_ite, es_loop, es_frz, kGiv, k2, kNeg, kNot, kAnd, kOr, kIf, kCh2, kCh1, kCh, kIx2, kIx, kSl3, kSl2, kSl, kTup, kLst, kCel, kCat2, kCat, kMap, kFn, kProp, kFld, kBi, kIsi, kApp2, kApp, kPop2, kPop, kOkL, kLc, kIt1, kIt2, item, kTnot, kTand, kTor, oB, kTcmp2, kTcmp, kTb, kTfn, kTisi, kTbi, kL2, kL, kP, kR1, kSeq, kEnum, kZip2, kZip, kSet, kPar, kAug, kAug0, kSi3, kSi2, kSi, kSf2, kSf, kEx, kRet, kLoop, kVar, kTvar, kFrz, cmpO, start0, bindU, bindTo, setAll, wipeE, lst1, seqOf, biU, biD, bopD, cmpD, ixD, isiD, cixD, idxS, strsOf, intC, eqC, eqD, eqDs, scal, memD, flat, str_inj, str_beq, List.lookup_cons, List.lookup_nil, putD, isLst, loopS, walk, noX, bnd_ok, bnd_none, bnD_ok, bnD_none, bndS_nx, bndS_rt, bndS_none, inS_ok, inS_none, giv_some, giv_none, pick_t, pick_f]
      rw [List.map_cons]
      unfold walk
      rw [e, bnd_ok]
      simp only
      rw [ih]
      simp
    · obtain ⟨m, ih, hm⟩ := walk1 Γ u v w x l acc
      refine ⟨m, ?_, by simp; omega⟩
      have e : item (evT Γ (.cmp .ge (.var 3) (.bop .pow (.int 10) (.int 18)))) (evE Γ (.var 3)) [3] [3] [u, v, w, x] (.int i) [] = some (.ok none []) := by simp [h, ev_join, ev_split, kTx, ev_nset, ev_mkc, kMkc, kMkc2, ev_meth, kMeth, kMeth2, ev_fapp, kFapp, kFapp2, ev_fpop, kFpop, ev_fix, kFix, kFix2, ev_flen, kFlen, ev_ftup, kFtup, et_feq0, kTfeq0, es_seto, kSo, kSo2, es_augf, kAf, kAf2, ownB, ownL, ownW, sameO, ownN, insOk, ev_bdn, ev_sdef, ev_bget, ei_rng2, ev_rev, ev_srt, kRn2, kRn, kRev, mapTup, es_rais, kRais, es_tri, kTri_ex, kTri_nx, kTri_rt, eh_hand, eh_handX, eh_nop, evX, noXS_nx, noXS_rt, bnd_ex, bnD_ex, bndS_ex, inS_ex, line, es_augi, kAi2, kAi3, kAi4, repl, ev_int, ev_str, ev_bl, ev_non, ev_var, ev_con, ev_bop, ev_neg, ev_cmp, ev_chain, ev_not, ev_and, ev_or, ev_ite, ev_ix, ev_sl, ev_tup, ev_lst, ev_cel, ev_catc, ev_map, ev_call, ev_mkd, ev_prop, ev_fld, ev_bi, ev_isi, ev_cix, ev_app, ev_popa, ev_lc, et_yes, et_not, et_and, et_or, et_ite, et_cmp, et_call, et_isi, et_bi, et_var, el_nil, el_cons, ep_nil, ep_cons, ei_rng1, ei_seq, ei_enum, ei_zip, es_nop, es_seq, es_asg, es_par, es_aug, es_seti, es_setf, es_ex, es_ret, es_retN, es_ite, es_loop, es_frz, kGiv, k2, kNeg, kNot, kAnd, kOr, kIf, kCh2, kCh1, kCh, kIx2, kIx, kSl3, kSl2, kSl, kTup, kLst, kCel, kCat2, kCat, kMap, kFn, kProp, kFld, kBi, kIsi, kApp2, kApp, kPop2, kPop, kOkL, kLc, kIt1, kIt2, item, kTnot, kTand, kTor, oB, kTcmp2, kTcmp, kTb, kTfn, kTisi, kTbi, kL2, kL, kP, kR1, kSeq, kEnum, kZip2, kZip, kSet, kPar, kAug, kAug0, kSi3, kSi2, kSi, kSf2, kSf, kEx, kRet, kLoop, kVar, kTvar, kFrz, cmpO, start0, bindU, bindTo, setAll, wipeE, lst1, seqOf, biU, biD, bopD, cmpD, ixD, isiD, cixD, idxS, strsOf, intC, eqC, eqD, eqDs, scal, memD, flat, str_inj, str_beq, List.lookup_cons, List.lookup_nil, putD, isLst, loopS, walk, noX, bnd_ok, bnd_none, bnD_ok, bnD_none, bndS_nx, bndS_rt, bndS_none, inS_ok, inS_none, giv_some, giv_none, pick_t, pick_f]
      rw [List.map_cons]
      unfold walk
      rw [e, bnd_ok]
      simp only
      exact ih
theorem r_random (k : Nat) (l : List Int) (hl : l.length ≤ 63) (salt : Int) : ∃ q : Src, run df con 3 (k + 1) 1 [.d (.scr (l.map D.int)), .d (.int salt)] [] = some (.ok (.loc 0) [q.c]) := by
  obtain ⟨seed, x', e1⟩ := loop1 ⟨run df con 3 k, con, 3⟩ (some (.d (.scr (l.map D.int)))) (some (.d (.int salt))) l salt none
  obtain ⟨m, e2, hm⟩ := walk1 ⟨run df con 3 k, con, 3⟩ (some (.d (.scr (l.map D.int)))) (some (.d (.int salt))) (some (.d (.int seed))) x' l []
  refine ⟨⟨seed, 0, m⟩, ?_⟩
  refine (run_at (r := some (.rt (.loc 0) [Src.c ⟨seed, 0, m⟩])) rfl rfl ?_).trans rfl
  have h1 : l.length ≤ 16777216 := by omega
  have h2 : m.length + 1 + 1 ≤ 16777216 := by omega
  have h3 : 2 + m.length ≤ 16777216 := by omega
  simp [ir1, ev_join, ev_split, kTx, ev_nset, ev_mkc, kMkc, kMkc2, ev_meth, kMeth, kMeth2, ev_fapp, kFapp, kFapp2, ev_fpop, kFpop, ev_fix, kFix, kFix2, ev_flen, kFlen, ev_ftup, kFtup, et_feq0, kTfeq0, es_seto, kSo, kSo2, es_augf, kAf, kAf2, ownB, ownL, ownW, sameO, ownN, insOk, ev_bdn, ev_sdef, ev_bget, ei_rng2, ev_rev, ev_srt, kRn2, kRn, kRev, mapTup, es_rais, kRais, es_tri, kTri_ex, kTri_nx, kTri_rt, eh_hand, eh_handX, eh_nop, evX, noXS_nx, noXS_rt, bnd_ex, bnD_ex, bndS_ex, inS_ex, line, es_augi, kAi2, kAi3, kAi4, repl, ev_int, ev_str, ev_bl, ev_non, ev_var, ev_con, ev_bop, ev_neg, ev_cmp, ev_chain, ev_not, ev_and, ev_or, ev_ite, ev_ix, ev_sl, ev_tup, ev_lst, ev_cel, ev_catc, ev_map, ev_call, ev_mkd, ev_prop, ev_fld, ev_bi, ev_isi, ev_cix, ev_app, ev_popa, ev_lc, et_yes, et_not, et_and, et_or, et_ite, et_cmp, et_call, et_isi, et_bi, et_var, el_nil, el_cons, ep_nil, ep_cons, ei_rng1, ei_seq, ei_enum, ei_zip, es_nop, es_seq, es_asg, es_par, es_aug, es_seti, es_setf, es_ex, es_ret, es_retN, es_ite, es_loop, es_frz, kGiv, k2, kNeg, kNot, kAnd, kOr, kIf, kCh2, kCh1, kCh, kIx2, kIx, kSl3, kSl2, kSl, kTup, kLst, kCel, kCat2, kCat, kMap, kFn, kProp, kFld, kBi, kIsi, kApp2, kApp, kPop2, kPop, kOkL, kLc, kIt1, kIt2, item, kTnot, kTand, kTor, oB, kTcmp2, kTcmp, kTb, kTfn, kTisi, kTbi, kL2, kL, kP, kR1, kSeq, kEnum, kZip2, kZip, kSet, kPar, kAug, kAug0, kSi3, kSi2, kSi, kSf2, kSf, kEx, kRet, kLoop, kVar, kTvar, kFrz, cmpO, start0, bindU, bindTo, setAll, wipeE, lst1, seqOf, biU, biD, bopD, cmpD, ixD, isiD, cixD, idxS, strsOf, intC, eqC, eqD, eqDs, scal, memD, flat, str_inj, str_beq, List.lookup_cons, List.lookup_nil, putD, isLst, loopS, walk, noX, bnd_ok, bnd_none, bnD_ok, bnD_none, bndS_nx, bndS_rt, bndS_none, inS_ok, inS_none, giv_some, giv_none, pick_t, pick_f]
  show bndS (loopS [3] (evS _ rnd1) _ _ _) _ = _
  rw [e1]
  simp only [List.nil_append] at e2
  simp [h1, ev_join, ev_split, kTx, ev_nset, ev_mkc, kMkc, kMkc2, ev_meth, kMeth, kMeth2, ev_fapp, kFapp, kFapp2, ev_fpop, kFpop, ev_fix, kFix, kFix2, ev_flen, kFlen, ev_ftup, kFtup, et_feq0, kTfeq0, es_seto, kSo, kSo2, es_augf, kAf, kAf2, ownB, ownL, ownW, sameO, ownN, insOk, ev_bdn, ev_sdef, ev_bget, ei_rng2, ev_rev, ev_srt, kRn2, kRn, kRev, mapTup, es_rais, kRais, es_tri, kTri_ex, kTri_nx, kTri_rt, eh_hand, eh_handX, eh_nop, evX, noXS_nx, noXS_rt, bnd_ex, bnD_ex, bndS_ex, inS_ex, line, es_augi, kAi2, kAi3, kAi4, repl, ev_int, ev_str, ev_bl, ev_non, ev_var, ev_con, ev_bop, ev_neg, ev_cmp, ev_chain, ev_not, ev_and, ev_or, ev_ite, ev_ix, ev_sl, ev_tup, ev_lst, ev_cel, ev_catc, ev_map, ev_call, ev_mkd, ev_prop, ev_fld, ev_bi, ev_isi, ev_cix, ev_app, ev_popa, ev_lc, et_yes, et_not, et_and, et_or, et_ite, et_cmp, et_call, et_isi, et_bi, et_var, el_nil, el_cons, ep_nil, ep_cons, ei_rng1, ei_seq, ei_enum, ei_zip, es_nop, es_seq, es_asg, es_par, es_aug, es_seti, es_setf, es_ex, es_ret, es_retN, es_ite, es_loop, es_frz, kGiv, k2, kNeg, kNot, kAnd, kOr, kIf, kCh2, kCh1, kCh, kIx2, kIx, kSl3, kSl2, kSl, kTup, kLst, kCel, kCat2, kCat, kMap, kFn, kProp, kFld, kBi, kIsi, kApp2, kApp, kPop2, kPop, kOkL, kLc, kIt1, kIt2, item, kTnot, kTand, kTor, oB, kTcmp2, kTcmp, kTb, kTfn, kTisi, kTbi, kL2, kL, kP, kR1, kSeq, kEnum, kZip2, kZip, kSet, kPar, kAug, kAug0, kSi3, kSi2, kSi, kSf2, kSf, kEx, kRet, kLoop, kVar, kTvar, kFrz, cmpO, start0, bindU, bindTo, setAll, wipeE, lst1, seqOf, biU, biD, bopD, cmpD, ixD, isiD, cixD, idxS, strsOf, intC, eqC, eqD, eqDs, scal, memD, flat, str_inj, str_beq, List.lookup_cons, List.lookup_nil, putD, isLst, loopS, walk, noX, bnd_ok, bnd_none, bnD_ok, bnD_none, bndS_nx, bndS_rt, bndS_none, inS_ok, inS_none, giv_some, giv_none, pick_t, pick_f]
  show inS (bnd (bnd (walk (item (evT _ (.cmp .ge (.var 3) (.bop .pow (.int 10) (.int 18)))) (evE _ (.var 3)) [3] [3] _) [] _ _) _) _) _ _ = _
  rw [e2]
  simp [h2, h3, Src.c, ev_join, ev_split, kTx, ev_nset, ev_mkc, kMkc, kMkc2, ev_meth, kMeth, kMeth2, ev_fapp, kFapp, kFapp2, ev_fpop, kFpop, ev_fix, kFix, kFix2, ev_flen, kFlen, ev_ftup, kFtup, et_feq0, kTfeq0, es_seto, kSo, kSo2, es_augf, kAf, kAf2, ownB, ownL, ownW, sameO, ownN, insOk, ev_bdn, ev_sdef, ev_bget, ei_rng2, ev_rev, ev_srt, kRn2, kRn, kRev, mapTup, es_rais, kRais, es_tri, kTri_ex, kTri_nx, kTri_rt, eh_hand, eh_handX, eh_nop, evX, noXS_nx, noXS_rt, bnd_ex, bnD_ex, bndS_ex, inS_ex, line, es_augi, kAi2, kAi3, kAi4, repl, ev_int, ev_str, ev_bl, ev_non, ev_var, ev_con, ev_bop, ev_neg, ev_cmp, ev_chain, ev_not, ev_and, ev_or, ev_ite, ev_ix, ev_sl, ev_tup, ev_lst, ev_cel, ev_catc, ev_map, ev_call, ev_mkd, ev_prop, ev_fld, ev_bi, ev_isi, ev_cix, ev_app, ev_popa, ev_lc, et_yes, et_not, et_and, et_or, et_ite, et_cmp, et_call, et_isi, et_bi, et_var, el_nil, el_cons, ep_nil, ep_cons, ei_rng1, ei_seq, ei_enum, ei_zip, es_nop, es_seq, es_asg, es_par, es_aug, es_seti, es_setf, es_ex, es_ret, es_retN, es_ite, es_loop, es_frz, kGiv, k2, kNeg, kNot, kAnd, kOr, kIf, kCh2, kCh1, kCh, kIx2, kIx, kSl3, kSl2, kSl, kTup, kLst, kCel, kCat2, kCat, kMap, kFn, kProp, kFld, kBi, kIsi, kApp2, kApp, kPop2, kPop, kOkL, kLc, kIt1, kIt2, item, kTnot, kTand, kTor, oB, kTcmp2, kTcmp, kTb, kTfn, kTisi, kTbi, kL2, kL, kP, kR1, kSeq, kEnum, kZip2, kZip, kSet, kPar, kAug, kAug0, kSi3, kSi2, kSi, kSf2, kSf, kEx, kRet, kLoop, kVar, kTvar, kFrz, cmpO, start0, bindU, bindTo, setAll, wipeE, lst1, seqOf, biU, biD, bopD, cmpD, ixD, isiD, cixD, idxS, strsOf, intC, eqC, eqD, eqDs, scal, memD, flat, str_inj, str_beq, List.lookup_cons, List.lookup_nil, putD, isLst, loopS, walk, noX, bnd_ok, bnd_none, bnD_ok, bnD_none, bndS_nx, bndS_rt, bndS_none, inS_ok, inS_none, giv_some, giv_none, pick_t, pick_f]
/-! ### what is checked -/
def isFrom (d : D) (a b : Int) : Bool := match d with
  | .int v => decide (a ≤ v) && decide (v ≤ b)
  | _ => false
theorem r_isfrom (k : Nat) (d : D) (a b : Int) (c : Store) : run df con 3 (k + 1) 24 [.d d, .d (.int a), .d (.int b)] c = some (.ok (.d (.bl (isFrom d a b))) c) := by
  refine (run_at (r := some (.rt (.d (.bl (isFrom d a b))) c)) rfl rfl ?_).trans (fin_d _ _ _ (by simp))
  cases d with
  | int v => by_cases h : a ≤ v <;> simp [ir24, isFrom, h, ev_join, ev_split, kTx, ev_nset, ev_mkc, kMkc, kMkc2, ev_meth, kMeth, kMeth2, ev_fapp, kFapp, kFapp2, ev_fpop, kFpop, ev_fix, kFix, kFix2, ev_flen, kFlen, ev_ftup, kFtup, et_feq0, kTfeq0, es_seto, kSo, kSo2, es_augf, kAf, kAf2, ownB, ownL, ownW, sameO, ownN, insOk, ev_bdn, ev_sdef, ev_bget, ei_rng2, ev_rev, ev_srt, kRn2, kRn, kRev, mapTup, es_rais, kRais, es_tri, kTri_ex, kTri_nx, kTri_rt, eh_hand, eh_handX, eh_nop, evX, noXS_nx, noXS_rt, bnd_ex, bnD_ex, bndS_ex, inS_ex, line, es_augi, kAi2, kAi3, kAi4, repl, ev_int, ev_str, ev_bl, ev_non, ev_var, ev_con, ev_bop, ev_neg, ev_cmp, ev_chain, ev_not, ev_and, ev_or, ev_ite, ev_ix, ev_sl, ev_tup, ev_lst, ev_cel, ev_catc, ev_map, ev_call, ev_mkd, ev_prop, ev_fld, ev_bi, ev_isi, ev_cix, ev_app, ev_popa, ev_lc, et_yes, et_not, et_and, et_or, et_ite, et_cmp, et_call, et_isi, et_bi, et_var, el_nil, el_cons, ep_nil, ep_cons, ei_rng1, ei_seq, ei_enum, ei_zip, es_nop, es_seq, es_asg, es_par, es_aug, es_seti, es_setf, es_ex, es_ret, es_retN, es_ite, es_loop, es_frz, kGiv, k2, kNeg, kNot, kAnd, kOr, kIf, kCh2, kCh1, kCh, kIx2, kIx, kSl3, kSl2, kSl, kTup, kLst, kCel, kCat2, kCat, kMap, kFn, kProp, kFld, kBi, kIsi, kApp2, kApp, kPop2, kPop, kOkL, kLc, kIt1, kIt2, item, kTnot, kTand, kTor, oB, kTcmp2, kTcmp, kTb, kTfn, kTisi, kTbi, kL2, kL, kP, kR1, kSeq, kEnum, kZip2, kZip, kSet, kPar, kAug, kAug0, kSi3, kSi2, kSi, kSf2, kSf, kEx, kRet, kLoop, kVar, kTvar, kFrz, cmpO, start0, bindU, bindTo, setAll, wipeE, lst1, seqOf, biU, biD, bopD, cmpD, ixD, isiD, cixD, idxS, strsOf, intC, eqC, eqD, eqDs, scal, memD, flat, str_inj, str_beq, List.lookup_cons, List.lookup_nil, putD, isLst, loopS, walk, noX, bnd_ok, bnd_none, bnD_ok, bnD_none, bndS_nx, bndS_rt, bndS_none, inS_ok, inS_none, giv_some, giv_none, pick_t, pick_f]
  | _ => simp [ir24, isFrom, ev_join, ev_split, kTx, ev_nset, ev_mkc, kMkc, kMkc2, ev_meth, kMeth, kMeth2, ev_fapp, kFapp, kFapp2, ev_fpop, kFpop, ev_fix, kFix, kFix2, ev_flen, kFlen, ev_ftup, kFtup, et_feq0, kTfeq0, es_seto, kSo, kSo2, es_augf, kAf, kAf2, ownB, ownL, ownW, sameO, ownN, insOk, ev_bdn, ev_sdef, ev_bget, ei_rng2, ev_rev, ev_srt, kRn2, kRn, kRev, mapTup, es_rais, kRais, es_tri, kTri_ex, kTri_nx, kTri_rt, eh_hand, eh_handX, eh_nop, evX, noXS_nx, noXS_rt, bnd_ex, bnD_ex, bndS_ex, inS_ex, line, es_augi, kAi2, kAi3, kAi4, repl, ev_int, ev_str, ev_bl, ev_non, ev_var, ev_con, ev_bop, ev_neg, ev_cmp, ev_chain, ev_not, ev_and, ev_or, ev_ite, ev_ix, ev_sl, ev_tup, ev_lst, ev_cel, ev_catc, ev_map, ev_call, ev_mkd, ev_prop, ev_fld, ev_bi, ev_isi, ev_cix, ev_app, ev_popa, ev_lc, et_yes, et_not, et_and, et_or, et_ite, et_cmp, et_call, et_isi, et_bi, et_var, el_nil, el_cons, ep_nil, ep_cons, ei_rng1, ei_seq, ei_enum, ei_zip, es_nop, es_seq, es_asg, es_par, es_aug, es_seti, es_setf, es_ex, es_ret, es_retN, es_ite, es_loop, es_frz, kGiv, k2, kNeg, kNot, kAnd, kOr, kIf, kCh2, kCh1, kCh, kIx2, kIx, kSl3, kSl2, kSl, kTup, kLst, kCel, kCat2, kCat, kMap, kFn, kProp, kFld, kBi, kIsi, kApp2, kApp, kPop2, kPop, kOkL, kLc, kIt1, kIt2, item, kTnot, kTand, kTor, oB, kTcmp2, kTcmp, kTb, kTfn, kTisi, kTbi, kL2, kL, kP, kR1, kSeq, kEnum, kZip2, kZip, kSet, kPar, kAug, kAug0, kSi3, kSi2, kSi, kSf2, kSf, kEx, kRet, kLoop, kVar, kTvar, kFrz, cmpO, start0, bindU, bindTo, setAll, wipeE, lst1, seqOf, biU, biD, bopD, cmpD, ixD, isiD, cixD, idxS, strsOf, intC, eqC, eqD, eqDs, scal, memD, flat, str_inj, str_beq, List.lookup_cons, List.lookup_nil, putD, isLst, loopS, walk, noX, bnd_ok, bnd_none, bnD_ok, bnD_none, bndS_nx, bndS_rt, bndS_none, inS_ok, inS_none, giv_some, giv_none, pick_t, pick_f]
/-- one of two texts -/
def isOne (d : D) (x y : Str) : Bool := match d with
  | .str z => decide (x = z) || decide (y = z)
  | _ => false
theorem r_isone (k : Nat) (d : D) (x y : Str) (c : Store) : run df con 3 (k + 1) 23 [.d d, .d (.tup [.str x, .str y])] c = some (.ok (.d (.bl (isOne d x y))) c) := by
  refine (run_at (r := some (.rt (.d (.bl (isOne d x y))) c)) rfl rfl ?_).trans (fin_d _ _ _ (by simp))
  cases d <;> simp [ir23, isOne, ev_join, ev_split, kTx, ev_nset, ev_mkc, kMkc, kMkc2, ev_meth, kMeth, kMeth2, ev_fapp, kFapp, kFapp2, ev_fpop, kFpop, ev_fix, kFix, kFix2, ev_flen, kFlen, ev_ftup, kFtup, et_feq0, kTfeq0, es_seto, kSo, kSo2, es_augf, kAf, kAf2, ownB, ownL, ownW, sameO, ownN, insOk, ev_bdn, ev_sdef, ev_bget, ei_rng2, ev_rev, ev_srt, kRn2, kRn, kRev, mapTup, es_rais, kRais, es_tri, kTri_ex, kTri_nx, kTri_rt, eh_hand, eh_handX, eh_nop, evX, noXS_nx, noXS_rt, bnd_ex, bnD_ex, bndS_ex, inS_ex, line, es_augi, kAi2, kAi3, kAi4, repl, ev_int, ev_str, ev_bl, ev_non, ev_var, ev_con, ev_bop, ev_neg, ev_cmp, ev_chain, ev_not, ev_and, ev_or, ev_ite, ev_ix, ev_sl, ev_tup, ev_lst, ev_cel, ev_catc, ev_map, ev_call, ev_mkd, ev_prop, ev_fld, ev_bi, ev_isi, ev_cix, ev_app, ev_popa, ev_lc, et_yes, et_not, et_and, et_or, et_ite, et_cmp, et_call, et_isi, et_bi, et_var, el_nil, el_cons, ep_nil, ep_cons, ei_rng1, ei_seq, ei_enum, ei_zip, es_nop, es_seq, es_asg, es_par, es_aug, es_seti, es_setf, es_ex, es_ret, es_retN, es_ite, es_loop, es_frz, kGiv, k2, kNeg, kNot, kAnd, kOr, kIf, kCh2, kCh1, kCh, kIx2, kIx, kSl3, kSl2, kSl, kTup, kLst, kCel, kCat2, kCat, kMap, kFn, kProp, kFld, kBi, kIsi, kApp2, kApp, kPop2, kPop, kOkL, kLc, kIt1, kIt2, item, kTnot, kTand, kTor, oB, kTcmp2, kTcmp, kTb, kTfn, kTisi, kTbi, kL2, kL, kP, kR1, kSeq, kEnum, kZip2, kZip, kSet, kPar, kAug, kAug0, kSi3, kSi2, kSi, kSf2, kSf, kEx, kRet, kLoop, kVar, kTvar, kFrz, cmpO, start0, bindU, bindTo, setAll, wipeE, lst1, seqOf, biU, biD, bopD, cmpD, ixD, isiD, cixD, idxS, strsOf, intC, eqC, eqD, eqDs, scal, memD, flat, str_inj, str_beq, List.lookup_cons, List.lookup_nil, putD, isLst, loopS, walk, noX, bnd_ok, bnd_none, bnD_ok, bnD_none, bndS_nx, bndS_rt, bndS_none, inS_ok, inS_none, giv_some, giv_none, pick_t, pick_f]
def isSide (d : D) : Bool := isOne d "left" "right"
def isRound (d : D) : Bool := isOne d "first" "second"
theorem isSide_ok (right : Bool) : isSide (.str (sideS right)) = true := by cases right <;> simp [isSide, isOne, sideS, str_inj]
theorem isRound_ok (f : Bool) : isRound (.str (rN f)) = true := by cases f <;> simp [isRound, isOne, rN, str_inj]
/-- what is no start -/
def isStart (d : D) : Bool := match d with
  | .tup [r, a] => isRound r && isFrom a (-2) 2
  | _ => false
def xSide : Xn := ⟨0, []⟩
def xStart : Xn := ⟨1, []⟩
def xSteps (i : Int) : Xn := ⟨2, [("index", .int i)]⟩
def xLand : Xn := ⟨3, []⟩
def xFact : Xn := ⟨4, []⟩
def xSeen (i : Int) : Xn := ⟨5, [("index", .int i)]⟩
def xLong : Xn := ⟨6, []⟩
/-- the answer of a check -/
def chkR (ok : Bool) (x : Xn) (c : Store) : M U := if ok then some (.ok (.d .non) c) else some (.ex x c)
theorem chk_t (x : Xn) (c : Store) : chkR true x c = some (.ok (.d .non) c) := rfl
theorem chk_f (x : Xn) (c : Store) : chkR false x c = some (.ex x c) := rfl
theorem r_begin (k : Nat) (s t : D) (c : Store) : run df con 3 (k + 2) 14 [.d s, .d t] c = if isSide s then chkR (isStart t) xStart c else some (.ex xSide c) := by
  have e1 := r_isone k s "left" "right" c
  cases h : isSide s with
  | false =>
    have h' : isOne s "left" "right" = false := h
    rw [h'] at e1
    refine (run_at (r := some (.ex xSide [some (.d s), some (.d t)] c)) rfl rfl ?_).trans (by simp [fin, h])
    simp [ir14, con, e1, xSide, ev_join, ev_split, kTx, ev_nset, ev_mkc, kMkc, kMkc2, ev_meth, kMeth, kMeth2, ev_fapp, kFapp, kFapp2, ev_fpop, kFpop, ev_fix, kFix, kFix2, ev_flen, kFlen, ev_ftup, kFtup, et_feq0, kTfeq0, es_seto, kSo, kSo2, es_augf, kAf, kAf2, ownB, ownL, ownW, sameO, ownN, insOk, ev_bdn, ev_sdef, ev_bget, ei_rng2, ev_rev, ev_srt, kRn2, kRn, kRev, mapTup, es_rais, kRais, es_tri, kTri_ex, kTri_nx, kTri_rt, eh_hand, eh_handX, eh_nop, evX, noXS_nx, noXS_rt, bnd_ex, bnD_ex, bndS_ex, inS_ex, line, es_augi, kAi2, kAi3, kAi4, repl, ev_int, ev_str, ev_bl, ev_non, ev_var, ev_con, ev_bop, ev_neg, ev_cmp, ev_chain, ev_not, ev_and, ev_or, ev_ite, ev_ix, ev_sl, ev_tup, ev_lst, ev_cel, ev_catc, ev_map, ev_call, ev_mkd, ev_prop, ev_fld, ev_bi, ev_isi, ev_cix, ev_app, ev_popa, ev_lc, et_yes, et_not, et_and, et_or, et_ite, et_cmp, et_call, et_isi, et_bi, et_var, el_nil, el_cons, ep_nil, ep_cons, ei_rng1, ei_seq, ei_enum, ei_zip, es_nop, es_seq, es_asg, es_par, es_aug, es_seti, es_setf, es_ex, es_ret, es_retN, es_ite, es_loop, es_frz, kGiv, k2, kNeg, kNot, kAnd, kOr, kIf, kCh2, kCh1, kCh, kIx2, kIx, kSl3, kSl2, kSl, kTup, kLst, kCel, kCat2, kCat, kMap, kFn, kProp, kFld, kBi, kIsi, kApp2, kApp, kPop2, kPop, kOkL, kLc, kIt1, kIt2, item, kTnot, kTand, kTor, oB, kTcmp2, kTcmp, kTb, kTfn, kTisi, kTbi, kL2, kL, kP, kR1, kSeq, kEnum, kZip2, kZip, kSet, kPar, kAug, kAug0, kSi3, kSi2, kSi, kSf2, kSf, kEx, kRet, kLoop, kVar, kTvar, kFrz, cmpO, start0, bindU, bindTo, setAll, wipeE, lst1, seqOf, biU, biD, bopD, cmpD, ixD, isiD, cixD, idxS, strsOf, intC, eqC, eqD, eqDs, scal, memD, flat, str_inj, str_beq, List.lookup_cons, List.lookup_nil, putD, isLst, loopS, walk, noX, bnd_ok, bnd_none, bnD_ok, bnD_none, bndS_nx, bndS_rt, bndS_none, inS_ok, inS_none, giv_some, giv_none, pick_t, pick_f]
  | true =>
    have h' : isOne s "left" "right" = true := h
    rw [h'] at e1
    rw [if_pos rfl]
    have bad : isStart t = false → evS ⟨run df con 3 (k + 1), con, 3⟩ ir14 (start0 ⟨2, 2, ir14⟩ [.d s, .d t]) c = some (.ex xStart [some (.d s), some (.d t)] c) := fun hb => by
      cases t with
      | tup l =>
        match l, hb with
        | [], hb => simp [ir14, con, e1, xStart, ev_join, ev_split, kTx, ev_nset, ev_mkc, kMkc, kMkc2, ev_meth, kMeth, kMeth2, ev_fapp, kFapp, kFapp2, ev_fpop, kFpop, ev_fix, kFix, kFix2, ev_flen, kFlen, ev_ftup, kFtup, et_feq0, kTfeq0, es_seto, kSo, kSo2, es_augf, kAf, kAf2, ownB, ownL, ownW, sameO, ownN, insOk, ev_bdn, ev_sdef, ev_bget, ei_rng2, ev_rev, ev_srt, kRn2, kRn, kRev, mapTup, es_rais, kRais, es_tri, kTri_ex, kTri_nx, kTri_rt, eh_hand, eh_handX, eh_nop, evX, noXS_nx, noXS_rt, bnd_ex, bnD_ex, bndS_ex, inS_ex, line, es_augi, kAi2, kAi3, kAi4, repl, ev_int, ev_str, ev_bl, ev_non, ev_var, ev_con, ev_bop, ev_neg, ev_cmp, ev_chain, ev_not, ev_and, ev_or, ev_ite, ev_ix, ev_sl, ev_tup, ev_lst, ev_cel, ev_catc, ev_map, ev_call, ev_mkd, ev_prop, ev_fld, ev_bi, ev_isi, ev_cix, ev_app, ev_popa, ev_lc, et_yes, et_not, et_and, et_or, et_ite, et_cmp, et_call, et_isi, et_bi, et_var, el_nil, el_cons, ep_nil, ep_cons, ei_rng1, ei_seq, ei_enum, ei_zip, es_nop, es_seq, es_asg, es_par, es_aug, es_seti, es_setf, es_ex, es_ret, es_retN, es_ite, es_loop, es_frz, kGiv, k2, kNeg, kNot, kAnd, kOr, kIf, kCh2, kCh1, kCh, kIx2, kIx, kSl3, kSl2, kSl, kTup, kLst, kCel, kCat2, kCat, kMap, kFn, kProp, kFld, kBi, kIsi, kApp2, kApp, kPop2, kPop, kOkL, kLc, kIt1, kIt2, item, kTnot, kTand, kTor, oB, kTcmp2, kTcmp, kTb, kTfn, kTisi, kTbi, kL2, kL, kP, kR1, kSeq, kEnum, kZip2, kZip, kSet, kPar, kAug, kAug0, kSi3, kSi2, kSi, kSf2, kSf, kEx, kRet, kLoop, kVar, kTvar, kFrz, cmpO, start0, bindU, bindTo, setAll, wipeE, lst1, seqOf, biU, biD, bopD, cmpD, ixD, isiD, cixD, idxS, strsOf, intC, eqC, eqD, eqDs, scal, memD, flat, str_inj, str_beq, List.lookup_cons, List.lookup_nil, putD, isLst, loopS, walk, noX, bnd_ok, bnd_none, bnD_ok, bnD_none, bndS_nx, bndS_rt, bndS_none, inS_ok, inS_none, giv_some, giv_none, pick_t, pick_f]
        | [r], hb => simp [ir14, con, e1, xStart, ev_join, ev_split, kTx, ev_nset, ev_mkc, kMkc, kMkc2, ev_meth, kMeth, kMeth2, ev_fapp, kFapp, kFapp2, ev_fpop, kFpop, ev_fix, kFix, kFix2, ev_flen, kFlen, ev_ftup, kFtup, et_feq0, kTfeq0, es_seto, kSo, kSo2, es_augf, kAf, kAf2, ownB, ownL, ownW, sameO, ownN, insOk, ev_bdn, ev_sdef, ev_bget, ei_rng2, ev_rev, ev_srt, kRn2, kRn, kRev, mapTup, es_rais, kRais, es_tri, kTri_ex, kTri_nx, kTri_rt, eh_hand, eh_handX, eh_nop, evX, noXS_nx, noXS_rt, bnd_ex, bnD_ex, bndS_ex, inS_ex, line, es_augi, kAi2, kAi3, kAi4, repl, ev_int, ev_str, ev_bl, ev_non, ev_var, ev_con, ev_bop, ev_neg, ev_cmp, ev_chain, ev_not, ev_and, ev_or, ev_ite, ev_ix, ev_sl, ev_tup, ev_lst, ev_cel, ev_catc, ev_map, ev_call, ev_mkd, ev_prop, ev_fld, ev_bi, ev_isi, ev_cix, ev_app, ev_popa, ev_lc, et_yes, et_not, et_and, et_or, et_ite, et_cmp, et_call, et_isi, et_bi, et_var, el_nil, el_cons, ep_nil, ep_cons, ei_rng1, ei_seq, ei_enum, ei_zip, es_nop, es_seq, es_asg, es_par, es_aug, es_seti, es_setf, es_ex, es_ret, es_retN, es_ite, es_loop, es_frz, kGiv, k2, kNeg, kNot, kAnd, kOr, kIf, kCh2, kCh1, kCh, kIx2, kIx, kSl3, kSl2, kSl, kTup, kLst, kCel, kCat2, kCat, kMap, kFn, kProp, kFld, kBi, kIsi, kApp2, kApp, kPop2, kPop, kOkL, kLc, kIt1, kIt2, item, kTnot, kTand, kTor, oB, kTcmp2, kTcmp, kTb, kTfn, kTisi, kTbi, kL2, kL, kP, kR1, kSeq, kEnum, kZip2, kZip, kSet, kPar, kAug, kAug0, kSi3, kSi2, kSi, kSf2, kSf, kEx, kRet, kLoop, kVar, kTvar, kFrz, cmpO, start0, bindU, bindTo, setAll, wipeE, lst1, seqOf, biU, biD, bopD, cmpD, ixD, isiD, cixD, idxS, strsOf, intC, eqC, eqD, eqDs, scal, memD, flat, str_inj, str_beq, List.lookup_cons, List.lookup_nil, putD, isLst, loopS, walk, noX, bnd_ok, bnd_none, bnD_ok, bnD_none, bndS_nx, bndS_rt, bndS_none, inS_ok, inS_none, giv_some, giv_none, pick_t, pick_f]
        | [r, a], hb =>
          have e2 := r_isone k r "first" "second" c
          have e3 := r_isfrom k a (-2) 2 c
          simp only [isStart, isRound, Bool.and_eq_false_iff] at hb
          cases h1 : isOne r "first" "second" with
          | false => rw [h1] at e2; simp [ir14, con, e1, xStart, e2, at0, ev_join, ev_split, kTx, ev_nset, ev_mkc, kMkc, kMkc2, ev_meth, kMeth, kMeth2, ev_fapp, kFapp, kFapp2, ev_fpop, kFpop, ev_fix, kFix, kFix2, ev_flen, kFlen, ev_ftup, kFtup, et_feq0, kTfeq0, es_seto, kSo, kSo2, es_augf, kAf, kAf2, ownB, ownL, ownW, sameO, ownN, insOk, ev_bdn, ev_sdef, ev_bget, ei_rng2, ev_rev, ev_srt, kRn2, kRn, kRev, mapTup, es_rais, kRais, es_tri, kTri_ex, kTri_nx, kTri_rt, eh_hand, eh_handX, eh_nop, evX, noXS_nx, noXS_rt, bnd_ex, bnD_ex, bndS_ex, inS_ex, line, es_augi, kAi2, kAi3, kAi4, repl, ev_int, ev_str, ev_bl, ev_non, ev_var, ev_con, ev_bop, ev_neg, ev_cmp, ev_chain, ev_not, ev_and, ev_or, ev_ite, ev_ix, ev_sl, ev_tup, ev_lst, ev_cel, ev_catc, ev_map, ev_call, ev_mkd, ev_prop, ev_fld, ev_bi, ev_isi, ev_cix, ev_app, ev_popa, ev_lc, et_yes, et_not, et_and, et_or, et_ite, et_cmp, et_call, et_isi, et_bi, et_var, el_nil, el_cons, ep_nil, ep_cons, ei_rng1, ei_seq, ei_enum, ei_zip, es_nop, es_seq, es_asg, es_par, es_aug, es_seti, es_setf, es_ex, es_ret, es_retN, es_ite, es_loop, es_frz, kGiv, k2, kNeg, kNot, kAnd, kOr, kIf, kCh2, kCh1, kCh, kIx2, kIx, kSl3, kSl2, kSl, kTup, kLst, kCel, kCat2, kCat, kMap, kFn, kProp, kFld, kBi, kIsi, kApp2, kApp, kPop2, kPop, kOkL, kLc, kIt1, kIt2, item, kTnot, kTand, kTor, oB, kTcmp2, kTcmp, kTb, kTfn, kTisi, kTbi, kL2, kL, kP, kR1, kSeq, kEnum, kZip2, kZip, kSet, kPar, kAug, kAug0, kSi3, kSi2, kSi, kSf2, kSf, kEx, kRet, kLoop, kVar, kTvar, kFrz, cmpO, start0, bindU, bindTo, setAll, wipeE, lst1, seqOf, biU, biD, bopD, cmpD, ixD, isiD, cixD, idxS, strsOf, intC, eqC, eqD, eqDs, scal, memD, flat, str_inj, str_beq, List.lookup_cons, List.lookup_nil, putD, isLst, loopS, walk, noX, bnd_ok, bnd_none, bnD_ok, bnD_none, bndS_nx, bndS_rt, bndS_none, inS_ok, inS_none, giv_some, giv_none, pick_t, pick_f]
          | true =>
            rw [h1] at e2
            have h3 : isFrom a (-2) 2 = false := by simpa [h1] using hb
            rw [h3] at e3
            simp [ir14, con, e1, xStart, e2, e3, at0, at1, ev_join, ev_split, kTx, ev_nset, ev_mkc, kMkc, kMkc2, ev_meth, kMeth, kMeth2, ev_fapp, kFapp, kFapp2, ev_fpop, kFpop, ev_fix, kFix, kFix2, ev_flen, kFlen, ev_ftup, kFtup, et_feq0, kTfeq0, es_seto, kSo, kSo2, es_augf, kAf, kAf2, ownB, ownL, ownW, sameO, ownN, insOk, ev_bdn, ev_sdef, ev_bget, ei_rng2, ev_rev, ev_srt, kRn2, kRn, kRev, mapTup, es_rais, kRais, es_tri, kTri_ex, kTri_nx, kTri_rt, eh_hand, eh_handX, eh_nop, evX, noXS_nx, noXS_rt, bnd_ex, bnD_ex, bndS_ex, inS_ex, line, es_augi, kAi2, kAi3, kAi4, repl, ev_int, ev_str, ev_bl, ev_non, ev_var, ev_con, ev_bop, ev_neg, ev_cmp, ev_chain, ev_not, ev_and, ev_or, ev_ite, ev_ix, ev_sl, ev_tup, ev_lst, ev_cel, ev_catc, ev_map, ev_call, ev_mkd, ev_prop, ev_fld, ev_bi, ev_isi, ev_cix, ev_app, ev_popa, ev_lc, et_yes, et_not, et_and, et_or, et_ite, et_cmp, et_call, et_isi, et_bi, et_var, el_nil, el_cons, ep_nil, ep_cons, ei_rng1, ei_seq, ei_enum, ei_zip, es_nop, es_seq, es_asg, es_par, es_aug, es_seti, es_setf, es_ex, es_ret, es_retN, es_ite, es_loop, es_frz, kGiv, k2, kNeg, kNot, kAnd, kOr, kIf, kCh2, kCh1, kCh, kIx2, kIx, kSl3, kSl2, kSl, kTup, kLst, kCel, kCat2, kCat, kMap, kFn, kProp, kFld, kBi, kIsi, kApp2, kApp, kPop2, kPop, kOkL, kLc, kIt1, kIt2, item, kTnot, kTand, kTor, oB, kTcmp2, kTcmp, kTb, kTfn, kTisi, kTbi, kL2, kL, kP, kR1, kSeq, kEnum, kZip2, kZip, kSet, kPar, kAug, kAug0, kSi3, kSi2, kSi, kSf2, kSf, kEx, kRet, kLoop, kVar, kTvar, kFrz, cmpO, start0, bindU, bindTo, setAll, wipeE, lst1, seqOf, biU, biD, bopD, cmpD, ixD, isiD, cixD, idxS, strsOf, intC, eqC, eqD, eqDs, scal, memD, flat, str_inj, str_beq, List.lookup_cons, List.lookup_nil, putD, isLst, loopS, walk, noX, bnd_ok, bnd_none, bnD_ok, bnD_none, bndS_nx, bndS_rt, bndS_none, inS_ok, inS_none, giv_some, giv_none, pick_t, pick_f]
        | a :: b :: c' :: l, hb =>
          have hl : ((l.length : Int) + 1 + 1 + 1 == 2) = false := beq_false_of_ne (by omega)
          simp [ir14, con, e1, xStart, hl, ev_join, ev_split, kTx, ev_nset, ev_mkc, kMkc, kMkc2, ev_meth, kMeth, kMeth2, ev_fapp, kFapp, kFapp2, ev_fpop, kFpop, ev_fix, kFix, kFix2, ev_flen, kFlen, ev_ftup, kFtup, et_feq0, kTfeq0, es_seto, kSo, kSo2, es_augf, kAf, kAf2, ownB, ownL, ownW, sameO, ownN, insOk, ev_bdn, ev_sdef, ev_bget, ei_rng2, ev_rev, ev_srt, kRn2, kRn, kRev, mapTup, es_rais, kRais, es_tri, kTri_ex, kTri_nx, kTri_rt, eh_hand, eh_handX, eh_nop, evX, noXS_nx, noXS_rt, bnd_ex, bnD_ex, bndS_ex, inS_ex, line, es_augi, kAi2, kAi3, kAi4, repl, ev_int, ev_str, ev_bl, ev_non, ev_var, ev_con, ev_bop, ev_neg, ev_cmp, ev_chain, ev_not, ev_and, ev_or, ev_ite, ev_ix, ev_sl, ev_tup, ev_lst, ev_cel, ev_catc, ev_map, ev_call, ev_mkd, ev_prop, ev_fld, ev_bi, ev_isi, ev_cix, ev_app, ev_popa, ev_lc, et_yes, et_not, et_and, et_or, et_ite, et_cmp, et_call, et_isi, et_bi, et_var, el_nil, el_cons, ep_nil, ep_cons, ei_rng1, ei_seq, ei_enum, ei_zip, es_nop, es_seq, es_asg, es_par, es_aug, es_seti, es_setf, es_ex, es_ret, es_retN, es_ite, es_loop, es_frz, kGiv, k2, kNeg, kNot, kAnd, kOr, kIf, kCh2, kCh1, kCh, kIx2, kIx, kSl3, kSl2, kSl, kTup, kLst, kCel, kCat2, kCat, kMap, kFn, kProp, kFld, kBi, kIsi, kApp2, kApp, kPop2, kPop, kOkL, kLc, kIt1, kIt2, item, kTnot, kTand, kTor, oB, kTcmp2, kTcmp, kTb, kTfn, kTisi, kTbi, kL2, kL, kP, kR1, kSeq, kEnum, kZip2, kZip, kSet, kPar, kAug, kAug0, kSi3, kSi2, kSi, kSf2, kSf, kEx, kRet, kLoop, kVar, kTvar, kFrz, cmpO, start0, bindU, bindTo, setAll, wipeE, lst1, seqOf, biU, biD, bopD, cmpD, ixD, isiD, cixD, idxS, strsOf, intC, eqC, eqD, eqDs, scal, memD, flat, str_inj, str_beq, List.lookup_cons, List.lookup_nil, putD, isLst, loopS, walk, noX, bnd_ok, bnd_none, bnD_ok, bnD_none, bndS_nx, bndS_rt, bndS_none, inS_ok, inS_none, giv_some, giv_none, pick_t, pick_f]
      | _ => simp [ir14, con, e1, xStart, ev_join, ev_split, kTx, ev_nset, ev_mkc, kMkc, kMkc2, ev_meth, kMeth, kMeth2, ev_fapp, kFapp, kFapp2, ev_fpop, kFpop, ev_fix, kFix, kFix2, ev_flen, kFlen, ev_ftup, kFtup, et_feq0, kTfeq0, es_seto, kSo, kSo2, es_augf, kAf, kAf2, ownB, ownL, ownW, sameO, ownN, insOk, ev_bdn, ev_sdef, ev_bget, ei_rng2, ev_rev, ev_srt, kRn2, kRn, kRev, mapTup, es_rais, kRais, es_tri, kTri_ex, kTri_nx, kTri_rt, eh_hand, eh_handX, eh_nop, evX, noXS_nx, noXS_rt, bnd_ex, bnD_ex, bndS_ex, inS_ex, line, es_augi, kAi2, kAi3, kAi4, repl, ev_int, ev_str, ev_bl, ev_non, ev_var, ev_con, ev_bop, ev_neg, ev_cmp, ev_chain, ev_not, ev_and, ev_or, ev_ite, ev_ix, ev_sl, ev_tup, ev_lst, ev_cel, ev_catc, ev_map, ev_call, ev_mkd, ev_prop, ev_fld, ev_bi, ev_isi, ev_cix, ev_app, ev_popa, ev_lc, et_yes, et_not, et_and, et_or, et_ite, et_cmp, et_call, et_isi, et_bi, et_var, el_nil, el_cons, ep_nil, ep_cons, ei_rng1, ei_seq, ei_enum, ei_zip, es_nop, es_seq, es_asg, es_par, es_aug, es_seti, es_setf, es_ex, es_ret, es_retN, es_ite, es_loop, es_frz, kGiv, k2, kNeg, kNot, kAnd, kOr, kIf, kCh2, kCh1, kCh, kIx2, kIx, kSl3, kSl2, kSl, kTup, kLst, kCel, kCat2, kCat, kMap, kFn, kProp, kFld, kBi, kIsi, kApp2, kApp, kPop2, kPop, kOkL, kLc, kIt1, kIt2, item, kTnot, kTand, kTor, oB, kTcmp2, kTcmp, kTb, kTfn, kTisi, kTbi, kL2, kL, kP, kR1, kSeq, kEnum, kZip2, kZip, kSet, kPar, kAug, kAug0, kSi3, kSi2, kSi, kSf2, kSf, kEx, kRet, kLoop, kVar, kTvar, kFrz, cmpO, start0, bindU, bindTo, setAll, wipeE, lst1, seqOf, biU, biD, bopD, cmpD, ixD, isiD, cixD, idxS, strsOf, intC, eqC, eqD, eqDs, scal, memD, flat, str_inj, str_beq, List.lookup_cons, List.lookup_nil, putD, isLst, loopS, walk, noX, bnd_ok, bnd_none, bnD_ok, bnD_none, bndS_nx, bndS_rt, bndS_none, inS_ok, inS_none, giv_some, giv_none, pick_t, pick_f]
    cases hs : isStart t with
    | false => exact (run_at (r := some (.ex xStart [some (.d s), some (.d t)] c)) rfl rfl (bad hs)).trans (by simp [fin, chkR])
    | true =>
      cases t with
      | tup l =>
        match l, hs with
        | [r, a], hs =>
          have e2 := r_isone k r "first" "second" c
          have e3 := r_isfrom k a (-2) 2 c
          simp only [isStart, isRound, Bool.and_eq_true] at hs
          rw [hs.1] at e2
          rw [hs.2] at e3
          refine (run_at (r := some (.nx [some (.d s), some (.d (.tup [r, a]))] c)) rfl rfl ?_).trans (by simp [fin, chkR])
          simp [ir14, con, e1, e2, e3, at0, at1, ev_join, ev_split, kTx, ev_nset, ev_mkc, kMkc, kMkc2, ev_meth, kMeth, kMeth2, ev_fapp, kFapp, kFapp2, ev_fpop, kFpop, ev_fix, kFix, kFix2, ev_flen, kFlen, ev_ftup, kFtup, et_feq0, kTfeq0, es_seto, kSo, kSo2, es_augf, kAf, kAf2, ownB, ownL, ownW, sameO, ownN, insOk, ev_bdn, ev_sdef, ev_bget, ei_rng2, ev_rev, ev_srt, kRn2, kRn, kRev, mapTup, es_rais, kRais, es_tri, kTri_ex, kTri_nx, kTri_rt, eh_hand, eh_handX, eh_nop, evX, noXS_nx, noXS_rt, bnd_ex, bnD_ex, bndS_ex, inS_ex, line, es_augi, kAi2, kAi3, kAi4, repl, ev_int, ev_str, ev_bl, ev_non, ev_var, ev_con, ev_bop, ev_neg, ev_cmp, ev_chain, ev_not, ev_and, ev_or, ev_ite, ev_ix, ev_sl, ev_tup, ev_lst, ev_cel, ev_catc, ev_map, ev_call, ev_mkd, ev_prop, ev_fld, ev_bi, ev_isi, ev_cix, ev_app, ev_popa, ev_lc, et_yes, et_not, et_and, et_or, et_ite, et_cmp, et_call, et_isi, et_bi, et_var, el_nil, el_cons, ep_nil, ep_cons, ei_rng1, ei_seq, ei_enum, ei_zip, es_nop, es_seq, es_asg, es_par, es_aug, es_seti, es_setf, es_ex, es_ret, es_retN, es_ite, es_loop, es_frz, kGiv, k2, kNeg, kNot, kAnd, kOr, kIf, kCh2, kCh1, kCh, kIx2, kIx, kSl3, kSl2, kSl, kTup, kLst, kCel, kCat2, kCat, kMap, kFn, kProp, kFld, kBi, kIsi, kApp2, kApp, kPop2, kPop, kOkL, kLc, kIt1, kIt2, item, kTnot, kTand, kTor, oB, kTcmp2, kTcmp, kTb, kTfn, kTisi, kTbi, kL2, kL, kP, kR1, kSeq, kEnum, kZip2, kZip, kSet, kPar, kAug, kAug0, kSi3, kSi2, kSi, kSf2, kSf, kEx, kRet, kLoop, kVar, kTvar, kFrz, cmpO, start0, bindU, bindTo, setAll, wipeE, lst1, seqOf, biU, biD, bopD, cmpD, ixD, isiD, cixD, idxS, strsOf, intC, eqC, eqD, eqDs, scal, memD, flat, str_inj, str_beq, List.lookup_cons, List.lookup_nil, putD, isLst, loopS, walk, noX, bnd_ok, bnd_none, bnD_ok, bnD_none, bndS_nx, bndS_rt, bndS_none, inS_ok, inS_none, giv_some, giv_none, pick_t, pick_f]
      | _ => cases hs
theorem ok_same : okS (Str.ofString "same") = true := by decide +kernel
theorem ok_on : okS (Str.ofString "on") = true := by decide +kernel
theorem ok_short : okS (Str.ofString "short") = true := by decide +kernel
/-- a step of any kind -/
def isStep (d : D) : Bool := match d with
  | .tup [.str x] => decide (x = "same")
  | .tup [.str x, v] => if x = "on" then isFrom v 1 4 else if x = "short" then isFrom v 1 3 else false
  | _ => false
/-- what may be compared -/
def fine (d : D) : Bool := match d with
  | .tup l => okDs 49 l
  | _ => true
end GP

namespace GP
open DL GI
open PySem (Str)
/-! ### the known drives: run by the kernel -/
def zone : D := (.drv (.tup [.str "right", .tup [.str "first", .int 0], .tup [.tup [.str "on", .int 1]]]))
def zother : D := (.drv (.tup [.str "right", .tup [.str "first", .int 0], .tup [.tup [.str "short", .int 3]]]))
def ztwo : D := (.drv (.tup [.str "right", .tup [.str "first", .int 1], .tup [.tup [.str "on", .int 2]]]))
def ztwice : D := (.drv (.tup [.str "right", .tup [.str "first", .int 1], .tup [.tup [.str "same"], .tup [.str "on", .int 1]]]))
def zhere : D := (.drv (.tup [.str "right", .tup [.str "first", .int 1], .tup [.tup [.str "on", .int 1]]]))
def zthere : D := (.drv (.tup [.str "right", .tup [.str "first", .int 2], .tup [.tup [.str "same"]]]))
def zl22 : D := (.tup [.int 2, .int 2])
def zl32 : D := (.tup [.int 3, .int 2])
def zl42 : D := (.tup [.int 4, .int 2])
def zm2 : D := (.tup [.tup [.str "short", .int 2]])
theorem t86 (c : Cell) : run df con 3 14 86 [] [c] = some (.ok (.d (.bl true)) [c]) := by kernel_rfl
theorem t88 (c : Cell) : run df con 3 14 88 [] [c] = some (.ok (.d (.bl true)) [c]) := by kernel_rfl
theorem t89 (c : Cell) : run df con 3 14 89 [] [c] = some (.ok (.d (.bl true)) [c]) := by kernel_rfl
theorem t87a (c : Cell) : run df con 3 13 36 [.d zone, .d zother, .d zl22] [c] = some (.ok (.d (.tup [.int 3, .int 2])) [c]) := by kernel_rfl
theorem t87b (c : Cell) : run df con 3 13 50 [.d ztwo, .d zm2, .d zl32] [c] = some (.ok (.d (.tup [.int 3, .int 2])) [c]) := by kernel_rfl
theorem t87c (c : Cell) : run df con 3 13 50 [.d ztwo, .d zm2, .d zl42] [c] = some (.ok (.d .non) [c]) := by kernel_rfl
theorem t87d (c : Cell) : run df con 3 13 58 [.d ztwice, .d zl22] [c] = some (.ok (.d (.lst [.int 0])) [c]) := by kernel_rfl
theorem t87e (c : Cell) : run df con 3 13 57 [.d ztwice, .d zl22] [c] = some (.ok (.d (.lst [])) [c]) := by kernel_rfl
theorem t87f (c : Cell) : run df con 3 13 57 [.d ztwice, .d zl32] [c] = some (.ok (.d (.lst [.int 0])) [c]) := by kernel_rfl
theorem t87g (c : Cell) : run df con 3 13 53 [.d zhere, .d zthere, .d zl22] [c] = some (.ok (.d (.tup [.tup [.int 2, .int 2], .non])) [c]) := by kernel_rfl
def s87_0 : Stm := (.par [0, 1] (.cons (.mkd 5 (.cons (.str "right") (.cons (.tup (.cons (.str "first") (.cons (.int 0) .nil))) (.cons (.tup (.cons (.tup (.cons (.str "on") (.cons (.int 1) .nil))) .nil)) .nil)))) (.cons (.mkd 5 (.cons (.str "right") (.cons (.tup (.cons (.str "first") (.cons (.int 0) .nil))) (.cons (.tup (.cons (.tup (.cons (.str "short") (.cons (.int 3) .nil))) .nil)) .nil)))) .nil)))
def s87_1 : Stm := (.asg [2] (.mkd 5 (.cons (.str "right") (.cons (.tup (.cons (.str "first") (.cons (.int 1) .nil))) (.cons (.tup (.cons (.tup (.cons (.str "on") (.cons (.int 2) .nil))) .nil)) .nil)))))
def s87_2 : Stm := (.ite (.cmp .ne (.lst (.cons (.call 36 (.cons (.var 0) (.cons (.var 1) (.cons (.tup (.cons (.int 2) (.cons (.int 2) .nil))) .nil)))) (.cons (.call 50 (.cons (.var 2) (.cons (.tup (.cons (.tup (.cons (.str "short") (.cons (.int 2) .nil))) .nil)) (.cons (.tup (.cons (.int 3) (.cons (.int 2) .nil))) .nil)))) .nil))) (.lst (.cons (.tup (.cons (.int 3) (.cons (.int 2) .nil))) (.cons (.tup (.cons (.int 3) (.cons (.int 2) .nil))) .nil)))) (.ret (.bl false)) .nop)
def s87_3 : Stm := (.asg [3] (.mkd 5 (.cons (.str "right") (.cons (.tup (.cons (.str "first") (.cons (.int 1) .nil))) (.cons (.tup (.cons (.tup (.cons (.str "same") .nil)) (.cons (.tup (.cons (.str "on") (.cons (.int 1) .nil))) .nil))) .nil)))))
def s87_4 : Stm := (.ite (.or (.cmp .isn (.call 50 (.cons (.var 2) (.cons (.tup (.cons (.tup (.cons (.str "short") (.cons (.int 2) .nil))) .nil)) (.cons (.tup (.cons (.int 4) (.cons (.int 2) .nil))) .nil)))) .non) (.cmp .ne (.call 58 (.cons (.var 3) (.cons (.tup (.cons (.int 2) (.cons (.int 2) .nil))) .nil))) (.lst (.cons (.int 0) .nil)))) (.ret (.bl false)) .nop)
def s87_5 : Stm := (.ite (.cmp .ne (.lst (.cons (.call 57 (.cons (.var 3) (.cons (.tup (.cons (.int 2) (.cons (.int 2) .nil))) .nil))) (.cons (.call 57 (.cons (.var 3) (.cons (.tup (.cons (.int 3) (.cons (.int 2) .nil))) .nil))) .nil))) (.lst (.cons (.lst .nil) (.cons (.lst (.cons (.int 0) .nil)) .nil)))) (.ret (.bl false)) .nop)
def s87_6 : Stm := (.par [4, 5] (.cons (.mkd 5 (.cons (.str "right") (.cons (.tup (.cons (.str "first") (.cons (.int 1) .nil))) (.cons (.tup (.cons (.tup (.cons (.str "on") (.cons (.int 1) .nil))) .nil)) .nil)))) (.cons (.mkd 5 (.cons (.str "right") (.cons (.tup (.cons (.str "first") (.cons (.int 2) .nil))) (.cons (.tup (.cons (.tup (.cons (.str "same") .nil)) .nil)) .nil)))) .nil)))
def s87_7 : Stm := (.ret (.cmp .eq (.call 53 (.cons (.var 4) (.cons (.var 5) (.cons (.tup (.cons (.int 2) (.cons (.int 2) .nil))) .nil)))) (.tup (.cons (.tup (.cons (.int 2) (.cons (.int 2) .nil))) (.cons .non .nil)))))
def g87 : Ev := ⟨run df con 3 13, con, 3⟩
def v87 (a b c d e f : Option U) : Env := [a, b, c, d, e, f]
theorem ir87_eq : ir87 = (.seq s87_0 (.seq s87_1 (.seq s87_2 (.seq s87_3 (.seq s87_4 (.seq s87_5 (.seq s87_6 s87_7))))))) := rfl
theorem g87_fn : g87.fn = run df con 3 13 := rfl
theorem i87_0 (c : Cell) : evS g87 s87_0 (v87 none none none none none none) [c] = some (.nx (v87 (some (.d zone)) (some (.d zother)) none none none none) [c]) := by kernel_rfl
theorem i87_1 (c : Cell) : evS g87 s87_1 (v87 (some (.d zone)) (some (.d zother)) none none none none) [c] = some (.nx (v87 (some (.d zone)) (some (.d zother)) (some (.d ztwo)) none none none) [c]) := by kernel_rfl
theorem i87_3 (c : Cell) : evS g87 s87_3 (v87 (some (.d zone)) (some (.d zother)) (some (.d ztwo)) none none none) [c] = some (.nx (v87 (some (.d zone)) (some (.d zother)) (some (.d ztwo)) (some (.d ztwice)) none none) [c]) := by kernel_rfl
theorem i87_6 (c : Cell) : evS g87 s87_6 (v87 (some (.d zone)) (some (.d zother)) (some (.d ztwo)) (some (.d ztwice)) none none) [c] = some (.nx (v87 (some (.d zone)) (some (.d zother)) (some (.d ztwo)) (some (.d ztwice)) (some (.d zhere)) (some (.d zthere))) [c]) := by kernel_rfl
theorem lst_two {Γ : Ev} {a b : E} {e : Env} {S : Store} {x y : D} (h1 : evE Γ a e S = some (.ok (.d x) S)) (h2 : evE Γ b e S = some (.ok (.d y) S)) : evE Γ (.lst (.cons a (.cons b .nil))) e S = some (.ok (.d (.lst [x, y])) S) := by
  rw [ev_lst, el_two h1 h2]
  rfl
theorem i87_2 (c : Cell) : evS g87 s87_2 (v87 (some (.d zone)) (some (.d zother)) (some (.d ztwo)) none none none) [c] = some (.nx (v87 (some (.d zone)) (some (.d zother)) (some (.d ztwo)) none none none) [c]) := by
  have c1 : evE g87 (.call 36 (.cons (.var 0) (.cons (.var 1) (.cons (.tup (.cons (.int 2) (.cons (.int 2) .nil))) .nil)))) (v87 (some (.d zone)) (some (.d zother)) (some (.d ztwo)) none none none) [c] = some (.ok (.d (.tup [.int 3, .int 2])) [c]) := ev_callD (us := [.d zone, .d zother, .d zl22]) (S1 := [c]) (by kernel_rfl) (by rw [g87_fn]; exact t87a c)
  have c2 : evE g87 (.call 50 (.cons (.var 2) (.cons (.tup (.cons (.tup (.cons (.str "short") (.cons (.int 2) .nil))) .nil)) (.cons (.tup (.cons (.int 3) (.cons (.int 2) .nil))) .nil)))) (v87 (some (.d zone)) (some (.d zother)) (some (.d ztwo)) none none none) [c] = some (.ok (.d (.tup [.int 3, .int 2])) [c]) := ev_callD (us := [.d ztwo, .d zm2, .d zl32]) (S1 := [c]) (by kernel_rfl) (by rw [g87_fn]; exact t87b c)
  unfold s87_2
  rw [es_ite, et_cmp, lst_two c1 c2, bnD_ok]
  kernel_rfl
theorem i87_4 (c : Cell) : evS g87 s87_4 (v87 (some (.d zone)) (some (.d zother)) (some (.d ztwo)) (some (.d ztwice)) none none) [c] = some (.nx (v87 (some (.d zone)) (some (.d zother)) (some (.d ztwo)) (some (.d ztwice)) none none) [c]) := by
  have c1 : evE g87 (.call 50 (.cons (.var 2) (.cons (.tup (.cons (.tup (.cons (.str "short") (.cons (.int 2) .nil))) .nil)) (.cons (.tup (.cons (.int 4) (.cons (.int 2) .nil))) .nil)))) (v87 (some (.d zone)) (some (.d zother)) (some (.d ztwo)) (some (.d ztwice)) none none) [c] = some (.ok (.d .non) [c]) := ev_callD (us := [.d ztwo, .d zm2, .d zl42]) (S1 := [c]) (by kernel_rfl) (by rw [g87_fn]; exact t87c c)
  have c2 : evE g87 (.call 58 (.cons (.var 3) (.cons (.tup (.cons (.int 2) (.cons (.int 2) .nil))) .nil))) (v87 (some (.d zone)) (some (.d zother)) (some (.d ztwo)) (some (.d ztwice)) none none) [c] = some (.ok (.d (.lst [.int 0])) [c]) := ev_callD (us := [.d ztwice, .d zl22]) (S1 := [c]) (by kernel_rfl) (by rw [g87_fn]; exact t87d c)
  have t1 : evT g87 (.cmp .isn (.call 50 (.cons (.var 2) (.cons (.tup (.cons (.tup (.cons (.str "short") (.cons (.int 2) .nil))) .nil)) (.cons (.tup (.cons (.int 4) (.cons (.int 2) .nil))) .nil)))) .non) (v87 (some (.d zone)) (some (.d zother)) (some (.d ztwo)) (some (.d ztwice)) none none) [c] = some (.ok false [c]) := by
    rw [et_cmp, c1, bnD_ok]
    kernel_rfl
  have t2 : evT g87 (.cmp .ne (.call 58 (.cons (.var 3) (.cons (.tup (.cons (.int 2) (.cons (.int 2) .nil))) .nil))) (.lst (.cons (.int 0) .nil))) (v87 (some (.d zone)) (some (.d zother)) (some (.d ztwo)) (some (.d ztwice)) none none) [c] = some (.ok false [c]) := by
    rw [et_cmp, c2, bnD_ok]
    kernel_rfl
  unfold s87_4
  rw [es_ite, et_or, t1, bnd_ok]
  show inS (evT g87 _ _ _) _ _ = _
  rw [t2]
  rfl
theorem i87_5 (c : Cell) : evS g87 s87_5 (v87 (some (.d zone)) (some (.d zother)) (some (.d ztwo)) (some (.d ztwice)) none none) [c] = some (.nx (v87 (some (.d zone)) (some (.d zother)) (some (.d ztwo)) (some (.d ztwice)) none none) [c]) := by
  have c1 : evE g87 (.call 57 (.cons (.var 3) (.cons (.tup (.cons (.int 2) (.cons (.int 2) .nil))) .nil))) (v87 (some (.d zone)) (some (.d zother)) (some (.d ztwo)) (some (.d ztwice)) none none) [c] = some (.ok (.d (.lst [])) [c]) := ev_callD (us := [.d ztwice, .d zl22]) (S1 := [c]) (by kernel_rfl) (by rw [g87_fn]; exact t87e c)
  have c2 : evE g87 (.call 57 (.cons (.var 3) (.cons (.tup (.cons (.int 3) (.cons (.int 2) .nil))) .nil))) (v87 (some (.d zone)) (some (.d zother)) (some (.d ztwo)) (some (.d ztwice)) none none) [c] = some (.ok (.d (.lst [.int 0])) [c]) := ev_callD (us := [.d ztwice, .d zl32]) (S1 := [c]) (by kernel_rfl) (by rw [g87_fn]; exact t87f c)
  unfold s87_5
  rw [es_ite, et_cmp, lst_two c1 c2, bnD_ok]
  kernel_rfl
theorem i87_7 (c : Cell) : evS g87 s87_7 (v87 (some (.d zone)) (some (.d zother)) (some (.d ztwo)) (some (.d ztwice)) (some (.d zhere)) (some (.d zthere))) [c] = some (.rt (.d (.bl true)) [c]) := by
  have c1 : evE g87 (.call 53 (.cons (.var 4) (.cons (.var 5) (.cons (.tup (.cons (.int 2) (.cons (.int 2) .nil))) .nil)))) (v87 (some (.d zone)) (some (.d zother)) (some (.d ztwo)) (some (.d ztwice)) (some (.d zhere)) (some (.d zthere))) [c] = some (.ok (.d (.tup [.tup [.int 2, .int 2], .non])) [c]) := ev_callD (us := [.d zhere, .d zthere, .d zl22]) (S1 := [c]) (by kernel_rfl) (by rw [g87_fn]; exact t87g c)
  unfold s87_7
  rw [es_ret, ev_cmp, c1, bnD_ok]
  kernel_rfl
theorem t87 (c : Cell) : run df con 3 14 87 [] [c] = some (.ok (.d (.bl true)) [c]) := by
  have hb : evS g87 ir87 (v87 none none none none none none) [c] = some (.rt (.d (.bl true)) [c]) := by
    rw [ir87_eq, es_seq, i87_0, bndS_nx, es_seq, i87_1, bndS_nx, es_seq, i87_2, bndS_nx, es_seq, i87_3, bndS_nx, es_seq, i87_4, bndS_nx, es_seq, i87_5, bndS_nx, es_seq, i87_6, bndS_nx, i87_7]
  exact (run_at (d := ⟨0, 6, ir87⟩) (us := []) rfl rfl hb).trans (fin_d _ _ _ (by simp))
/-! ### the law -/
def v85 (u0 x2 : Option U) : Env := [u0, some (.loc 0), x2]
theorem k16 (l : List Int) (hl : l.length ≤ 63) : run df con 3 15 85 [.d (.scr (l.map D.int))] [] = some (.ok (.d (.bl true)) []) := by
  obtain ⟨s, e1⟩ := r_random 13 l hl 966
  obtain ⟨a, s1, e2, a0, a1⟩ := r_below 13 4 (by omega) (by omega) s []
  obtain ⟨u0, hu⟩ : ∃ u0 : Option U, u0 = some (.d (.scr (l.map D.int))) := ⟨_, rfl⟩
  have h6 := t86 s1.c
  have h7 := t87 s1.c
  have h8 := t88 s1.c
  have h9 := t89 s1.c
  have hb : evS ⟨run df con 3 14, con, 3⟩ ir85 [u0, none, none] [] = some (.rt (.d (.bl true)) [s1.c]) := by
    obtain ⟨Γ, hΓ⟩ : ∃ Γ : Ev, Γ = ⟨run df con 3 14, con, 3⟩ := ⟨_, rfl⟩
    have hf : Γ.fn = run df con 3 14 := by rw [hΓ]
    rw [← hf] at e1 e2 h6 h7 h8 h9
    rw [← hΓ]
    have i1 : evS Γ (.asg [1] (.call 1 (.cons (.var 0) (.cons (.int 966) .nil)))) [u0, none, none] [] = some (.nx (v85 u0 none) [s.c]) := by
      rw [es_asg, ev_callD (el_two (S1 := []) (S2 := []) (u := .d (.scr (l.map D.int))) (v := .d (.int 966)) (by rw [hu]; rfl) rfl) e1, inS_ok]
      rfl
    have i2 : evS Γ (.asg [2] (.call 6 (.cons (.var 1) (.cons (.int 4) .nil)))) (v85 u0 none) [s.c] = some (.nx (v85 u0 (some (.d (.int a)))) [s1.c]) := by
      rw [es_asg, ev_callD (el_two (u := .loc 0) (v := .d (.int 4)) rfl rfl) e2, inS_ok]
      rfl
    have c : ∀ (f : Nat), Γ.fn f [] [s1.c] = some (.ok (.d (.bl true)) [s1.c]) → evE Γ (.call f .nil) (v85 u0 (some (.d (.int a)))) [s1.c] = some (.ok (.d (.bl true)) [s1.c]) := fun f h => ev_callD (us := []) rfl h
    have r : ∀ (f : Nat), Γ.fn f [] [s1.c] = some (.ok (.d (.bl true)) [s1.c]) → evS Γ (.ret (.call f .nil)) (v85 u0 (some (.d (.int a)))) [s1.c] = some (.rt (.d (.bl true)) [s1.c]) := fun f h => by
      rw [es_ret, c f h]
      rfl
    have t : ∀ (j : Int), evT Γ (.cmp .eq (.var 2) (.int j)) (v85 u0 (some (.d (.int a)))) [s1.c] = some (.ok (a == j) [s1.c]) := fun j => rfl
    unfold ir85
    rw [es_seq, i1, bndS_nx, es_seq, i2, bndS_nx, es_seq, es_ite, t, inS_ok]
    unfold kIf
    by_cases q0 : a = 0
    · rw [show (a == 0) = true from by simp [q0], pick_t, r 86 h6]
      rfl
    · rw [show (a == 0) = false from by simp [q0]]
      show bndS (some (RS.nx (v85 u0 (some (.d (.int a)))) [s1.c])) _ = _
      rw [bndS_nx, es_seq, es_ite, t, inS_ok]
      unfold kIf
      by_cases q1 : a = 1
      · rw [show (a == 1) = true from by simp [q1], pick_t, r 87 h7]
        rfl
      · rw [show (a == 1) = false from by simp [q1]]
        show bndS (some (RS.nx (v85 u0 (some (.d (.int a)))) [s1.c])) _ = _
        rw [bndS_nx, es_ret, ev_ite, t, bnd_ok]
        unfold kIf
        by_cases q2 : a = 2
        · rw [show (a == 2) = true from by simp [q2], pick_t, c 88 h8]
          rfl
        · rw [show (a == 2) = false from by simp [q2], pick_f, c 89 h9]
          rfl
  rw [hu] at hb
  exact (run_at (d := ⟨1, 3, ir85⟩) (us := [.d (.scr (l.map D.int))]) rfl rfl hb).trans (by simp [fin])
end GP

namespace K16
open PySem PySem.Spec L2 DL GI
set_option autoImplicit false
def tb : Tb := ⟨[⟨some 99, ""⟩, ⟨none, "_law_random"⟩, ⟨some 99, ""⟩, ⟨some 99, ""⟩, ⟨some 99, ""⟩, ⟨some 0, "__init__"⟩, ⟨none, "_law_below"⟩, ⟨some 99, ""⟩, ⟨some 99, ""⟩, ⟨none, "place"⟩, ⟨none, "trace"⟩, ⟨none, "passed"⟩, ⟨some 99, ""⟩, ⟨some 99, ""⟩, ⟨none, "need_begin"⟩, ⟨none, "need_steps"⟩, ⟨some 99, ""⟩, ⟨none, "need_land"⟩, ⟨none, "places_of"⟩, ⟨some 99, "steps"⟩, ⟨some 99, "start"⟩, ⟨some 99, "side"⟩, ⟨none, "passed_by"⟩, ⟨none, "is_one_of"⟩, ⟨none, "is_from"⟩, ⟨none, "is_step"⟩, ⟨none, "begun"⟩, ⟨none, "gone"⟩, ⟨none, "ahead"⟩, ⟨some 99, ""⟩, ⟨some 99, ""⟩, ⟨some 99, ""⟩, ⟨some 99, ""⟩, ⟨some 99, ""⟩, ⟨some 99, ""⟩, ⟨some 99, ""⟩, ⟨none, "parting"⟩, ⟨some 99, ""⟩, ⟨some 99, ""⟩, ⟨some 99, ""⟩, ⟨some 99, ""⟩, ⟨none, "need_fact"⟩, ⟨none, "first_unlike"⟩, ⟨none, "lands_from"⟩, ⟨none, "reach"⟩, ⟨none, "end_of"⟩, ⟨none, "far"⟩, ⟨some 99, ""⟩, ⟨some 99, ""⟩, ⟨some 99, ""⟩, ⟨none, "undone"⟩, ⟨some 99, ""⟩, ⟨some 99, ""⟩, ⟨none, "meeting"⟩, ⟨some 99, ""⟩, ⟨some 99, ""⟩, ⟨some 99, ""⟩, ⟨none, "swaps"⟩, ⟨none, "needless"⟩, ⟨some 99, ""⟩, ⟨some 99, ""⟩, ⟨none, "form"⟩, ⟨some 99, ""⟩, ⟨none, "home"⟩, ⟨some 99, ""⟩, ⟨some 99, ""⟩, ⟨some 99, ""⟩, ⟨none, "fitting"⟩, ⟨none, "asking"⟩, ⟨some 99, ""⟩, ⟨none, "is_seen"⟩, ⟨some 99, ""⟩, ⟨some 1, "__init__"⟩, ⟨some 99, ""⟩, ⟨some 99, ""⟩, ⟨some 99, ""⟩, ⟨some 99, ""⟩, ⟨some 99, ""⟩, ⟨some 99, ""⟩, ⟨some 99, ""⟩, ⟨some 99, ""⟩, ⟨some 99, ""⟩, ⟨some 99, ""⟩, ⟨none, "read"⟩, ⟨some 99, ""⟩, ⟨none, "law"⟩, ⟨none, "_law_driven"⟩, ⟨none, "_law_decided"⟩, ⟨none, "_law_found"⟩, ⟨none, "_law_car"⟩, ⟨some 1, "__len__"⟩, ⟨some 99, ""⟩, ⟨some 0, "__eq__"⟩, ⟨none, "do_meet"⟩, ⟨some 1, "undo"⟩, ⟨some 1, "go"⟩, ⟨some 1, "arms"⟩, ⟨some 1, "where"⟩, ⟨some 99, ""⟩, ⟨some 1, "drive"⟩, ⟨none, "write"⟩, ⟨some 2, "__init__"⟩, ⟨some 2, "take"⟩, ⟨some 2, "take_number"⟩, ⟨some 2, "end"⟩, ⟨none, "step_in"⟩], [some "GREATEST", some "ROUNDS", some "SIDES", some "FARTHEST", some "MOST_STEPS", some "MOST_BY", some "MOST_FACT", some "BEYOND", some "MOST_HOME"], ["Drive", "Car", "Line"], ["int", "abs", "len", "zip", "range", "enumerate", "set", "tuple", "str", "isinstance", "list", "all", "sum", "sorted", "any", "bool"], ["told", "origin", "noted", "spots", "number", "row", "spot"], [("steps", 19), ("start", 20), ("side", 21)], ["ROUNDS"], [none, none, none, none, none, none, none, none], [(6, "TooLong"), (0, "BadSide"), (1, "BadStart"), (3, "BadLand"), (4, "BadFact")], [(5, "BadSeen", ["index"]), (2, "BadSteps", ["index"]), (7, "BadText", ["line", "word"])], []⟩
def N1 : List Str := ["_law_script", "_law_salt", "_law_seed", "_law_cell"]
theorem b1 {G : Gx} {Γ : Ev} {X : Cx} {W : WX} {j : Nat} (C : Ct G Γ tb ⟨N1, sc1, true⟩ X W j) (O : Ow X) : PSs X bd1 (rdS G Γ W ir1) :=
  (ds_cons (ds_set C (by decide +kernel) (de_var C (by decide +kernel)) (by rfl))
  (ds_cons (ds_for O.po C.calm (di_seq C (de_var C (by decide +kernel))) (dg_name C (by decide +kernel))
  (ds_one (ds_set C (by decide +kernel) (de_bop C (o := .mod) (de_bi C (b := .int) (by decide +kernel) (by decide +kernel) (da_cons (de_bop C (o := .add) (de_bop C (o := .mul) (de_var C (by decide +kernel)) de_int) (de_bi C (b := .abs) (by decide +kernel) (by decide +kernel) (da_cons (de_var C (by decide +kernel)) da_nil (by rfl)) (by rfl))) da_nil (by rfl)) (by rfl)) de_int) (by rfl))) (by rfl))
  (ds_one (ds_ret (de_catc (de_lst (da_cons (de_var C (by decide +kernel)) (da_cons de_int da_nil (by rfl)) (by rfl))) (de_lc C (own := [("_law_cell", 3)]) (by decide +kernel) (by decide) (by rfl) (di_seq C (de_var C (by decide +kernel))) (fun C1 => (dg_name C1 (by decide +kernel))) (fun C1 => (dts_one (dt_cmp C1 (o := .ge) (de_var C1 (by decide +kernel)) (de_bop C1 (o := .pow) de_int de_int) (by rfl)))) (fun C1 => (de_var C1 (by decide +kernel)))))))))
def N5 : List Str := ["self", "side", "start", "steps"]
theorem b5 {G : Gx} {Γ : Ev} {X : Cx} {W : WX} {j : Nat} (C : Ct G Γ tb ⟨N5, sc5, true⟩ X W j) (O : Ow X) : PSs X bd5 (rdS G Γ W ir5) :=
  (ds_cons (ds_ex (de_call C (by rfl) (by decide +kernel) (da_cons (de_var C (by decide +kernel)) (da_cons (de_var C (by decide +kernel)) da_nil (by rfl)) (by rfl)) (by rfl)) (by rfl))
  (ds_cons (ds_ex (de_call C (by rfl) (by decide +kernel) (da_cons (de_var C (by decide +kernel)) da_nil (by rfl)) (by rfl)) (by rfl))
  (ds_one (ds_setf C (by decide +kernel) (de_var C (by decide +kernel)) (de_tup (da_cons (de_var C (by decide +kernel)) (da_cons (de_var C (by decide +kernel)) (da_cons (de_var C (by decide +kernel)) da_nil (by rfl)) (by rfl)) (by rfl))) (by rfl)))))
def N6 : List Str := ["_law_d", "_law_size", "_law_result"]
theorem b6 {G : Gx} {Γ : Ev} {X : Cx} {W : WX} {j : Nat} (C : Ct G Γ tb ⟨N6, sc6, true⟩ X W j) (O : Ow X) : PSs X bd6 (rdS G Γ W ir6) :=
  (ds_cons (ds_if (PW.pt (dt_and (dt_cmp C (o := .eq) (de_ix C (de_var C (by decide +kernel)) de_int (by rfl)) de_int (by rfl)) (pw_and1 (dt_cmp C (o := .gt) (de_bi C (b := .len) (by decide +kernel) (by decide +kernel) (da_cons (de_var C (by decide +kernel)) da_nil (by rfl)) (by rfl)) de_int (by rfl)))))
  (ds_one (ds_seti C (de_var C (by decide +kernel)) de_int (de_popa C (de_var C (by decide +kernel)) de_int (by rfl) (by rfl) (by rfl)) (by rfl) (by rfl) (by rfl) (by intro _; rfl)))
  ds_nil)
  (ds_cons (ds_if (dt_cmp C (o := .gt) (de_ix C (de_var C (by decide +kernel)) de_int (by rfl)) de_int (by rfl))
  (ds_cons (ds_set C (by decide +kernel) (de_bop C (o := .mod) (de_bi C (b := .int) (by decide +kernel) (by decide +kernel) (da_cons (de_ix C (de_var C (by decide +kernel)) de_int (by rfl)) da_nil (by rfl)) (by rfl)) (de_var C (by decide +kernel))) (by rfl))
  (ds_cons (ds_seti C (de_var C (by decide +kernel)) de_int (de_bop C (o := .fdiv) (de_ix C (de_var C (by decide +kernel)) de_int (by rfl)) (de_var C (by decide +kernel))) (by rfl) (by rfl) (by rfl) (by intro _; rfl))
  (ds_one (ds_ret (de_var C (by decide +kernel))))))
  ds_nil)
  (ds_cons (ds_seti C (de_var C (by decide +kernel)) de_int (de_bop C (o := .mod) (de_bi C (b := .int) (by decide +kernel) (by decide +kernel) (da_cons (de_bop C (o := .add) (de_bop C (o := .mul) (de_ix C (de_var C (by decide +kernel)) de_int (by rfl)) de_int) de_int) da_nil (by rfl)) (by rfl)) de_int) (by rfl) (by rfl) (by rfl) (by intro _; rfl))
  (ds_one (ds_ret (de_bop C (o := .mod) (de_bi C (b := .int) (by decide +kernel) (by decide +kernel) (da_cons (de_bop C (o := .fdiv) (de_ix C (de_var C (by decide +kernel)) de_int (by rfl)) de_int) da_nil (by rfl)) (by rfl)) (de_var C (by decide +kernel))))))))
def N9 : List Str := ["drive", "land"]
theorem b9 {G : Gx} {Γ : Ev} {X : Cx} {W : WX} {j : Nat} (C : Ct G Γ tb ⟨N9, sc9, true⟩ X W j) (O : Ow X) : PSs X bd9 (rdS G Γ W ir9) :=
  (ds_one (ds_ret (de_ix C (de_call C (by rfl) (by decide +kernel) (da_cons (de_var C (by decide +kernel)) (da_cons (de_var C (by decide +kernel)) da_nil (by rfl)) (by rfl)) (by rfl)) (de_neg de_int) (by rfl))))
def N10 : List Str := ["drive", "land"]
theorem b10 {G : Gx} {Γ : Ev} {X : Cx} {W : WX} {j : Nat} (C : Ct G Γ tb ⟨N10, sc10, true⟩ X W j) (O : Ow X) : PSs X bd10 (rdS G Γ W ir10) :=
  (ds_cons (ds_ex (de_call C (by rfl) (by decide +kernel) (da_cons (de_var C (by decide +kernel)) (da_cons (de_con C (by decide +kernel) (by rfl)) da_nil (by rfl)) (by rfl)) (by rfl)) (by rfl))
  (ds_one (ds_ret (de_call C (by rfl) (by decide +kernel) (da_cons (de_prop C (by decide) (by decide +kernel) (de_var C (by decide +kernel)) (by rfl)) (da_cons (de_prop C (by decide) (by decide +kernel) (de_var C (by decide +kernel)) (by rfl)) (da_cons (de_prop C (by decide) (by decide +kernel) (de_var C (by decide +kernel)) (by rfl)) (da_cons (de_var C (by decide +kernel)) da_nil (by rfl)) (by rfl)) (by rfl)) (by rfl)) (by rfl)))))
def N11 : List Str := ["drive", "land", "total", "here", "step"]
theorem b11 {G : Gx} {Γ : Ev} {X : Cx} {W : WX} {j : Nat} (C : Ct G Γ tb ⟨N11, sc11, true⟩ X W j) (O : Ow X) : PSs X bd11 (rdS G Γ W ir11) :=
  (ds_cons (ds_set C (by decide +kernel) de_int (by rfl))
  (ds_cons (ds_for O.po C.calm (di_zip C (by decide +kernel) (by decide +kernel) (de_call C (by rfl) (by decide +kernel) (da_cons (de_var C (by decide +kernel)) (da_cons (de_var C (by decide +kernel)) da_nil (by rfl)) (by rfl)) (by rfl)) (by rfl) (de_prop C (by decide) (by decide +kernel) (de_var C (by decide +kernel)) (by rfl)) (by rfl)) (dg_tup C (dgs_cons C (by decide +kernel) (dgs_cons C (by decide +kernel) dgs_nil)) (by decide) (by rfl) (by rfl))
  (ds_one (ds_aug C (o := .add) (by decide +kernel) (de_call C (by rfl) (by decide +kernel) (da_cons (de_var C (by decide +kernel)) (da_cons (de_ix C (de_var C (by decide +kernel)) (de_cix C (by decide +kernel) (by rfl) (by decide +kernel) (de_ix C (de_var C (by decide +kernel)) de_int (by rfl)) (by rfl) (by rfl)) (by rfl)) da_nil (by rfl)) (by rfl)) (by rfl)) (by decide))) (by rfl))
  (ds_one (ds_ret (de_var C (by decide +kernel))))))
def N14 : List Str := ["side", "start"]
theorem b14 {G : Gx} {Γ : Ev} {X : Cx} {W : WX} {j : Nat} (C : Ct G Γ tb ⟨N14, sc14, true⟩ X W j) (O : Ow X) : PSs X bd14 (rdS G Γ W ir14) :=
  (ds_cons (ds_if (dt_not (dt_v (de_call C (by rfl) (by decide +kernel) (da_cons (de_var C (by decide +kernel)) (da_cons (de_con C (by decide +kernel) (by rfl)) da_nil (by rfl)) (by rfl)) (by rfl)) (by rfl) he_call))
  (ds_one (ds_rais0 C (by decide +kernel) (by decide +kernel)))
  ds_nil)
  (ds_cons (ds_if (PW.pt (dt_or (dt_not (dt_v (de_isi C (t := .tup) (by decide) (.inr (by decide)) (by decide +kernel) (by decide +kernel) (by decide +kernel) (by decide +kernel) (de_var C (by decide +kernel)) (by rfl) (by decide)) (by rfl) he_isi)) (dt_or (dt_cmp C (o := .ne) (de_bi C (b := .len) (by decide +kernel) (by decide +kernel) (da_cons (de_var C (by decide +kernel)) da_nil (by rfl)) (by rfl)) de_int (by rfl)) (pw_or1 (dt_not (dt_v (de_call C (by rfl) (by decide +kernel) (da_cons (de_ix C (de_var C (by decide +kernel)) de_int (by rfl)) (da_cons (de_con C (by decide +kernel) (by rfl)) da_nil (by rfl)) (by rfl)) (by rfl)) (by rfl) he_call))))))
  (ds_one (ds_rais0 C (by decide +kernel) (by decide +kernel)))
  ds_nil)
  (ds_one (ds_if (dt_not (dt_v (de_call C (by rfl) (by decide +kernel) (da_cons (de_ix C (de_var C (by decide +kernel)) de_int (by rfl)) (da_cons (de_neg (de_con C (by decide +kernel) (by rfl))) (da_cons (de_con C (by decide +kernel) (by rfl)) da_nil (by rfl)) (by rfl)) (by rfl)) (by rfl)) (by rfl) he_call))
  (ds_one (ds_rais0 C (by decide +kernel) (by decide +kernel)))
  ds_nil))))
def N15 : List Str := ["value", "index", "step"]
theorem b15 {G : Gx} {Γ : Ev} {X : Cx} {W : WX} {j : Nat} (C : Ct G Γ tb ⟨N15, sc15, true⟩ X W j) (O : Ow X) : PSs X bd15 (rdS G Γ W ir15) :=
  (ds_cons (ds_if (PW.pt (dt_or (dt_not (dt_v (de_isi C (t := .tup) (by decide) (.inr (by decide)) (by decide +kernel) (by decide +kernel) (by decide +kernel) (by decide +kernel) (de_var C (by decide +kernel)) (by rfl) (by decide)) (by rfl) he_isi)) (pw_or1 (dt_cmp C (o := .gt) (de_bi C (b := .len) (by decide +kernel) (by decide +kernel) (da_cons (de_var C (by decide +kernel)) da_nil (by rfl)) (by rfl)) (de_con C (by decide +kernel) (by rfl)) (by rfl)))))
  (ds_one (ds_rais1 C (by decide +kernel) (by decide +kernel) (da_cons (de_neg de_int) da_nil (by rfl)) (by rfl)))
  ds_nil)
  (ds_one (ds_for O.po C.calm (di_enum C (by decide +kernel) (by decide +kernel) (de_var C (by decide +kernel)) (by rfl)) (dg_tup C (dgs_cons C (by decide +kernel) (dgs_cons C (by decide +kernel) dgs_nil)) (by decide) (by rfl) (by rfl))
  (ds_one (ds_if (dt_not (dt_v (de_call C (by rfl) (by decide +kernel) (da_cons (de_var C (by decide +kernel)) da_nil (by rfl)) (by rfl)) (by rfl) he_call))
  (ds_one (ds_rais1 C (by decide +kernel) (by decide +kernel) (da_cons (de_var C (by decide +kernel)) da_nil (by rfl)) (by rfl)))
  ds_nil)) (by rfl))))
def N17 : List Str := ["value", "most", "arms"]
theorem b17 {G : Gx} {Γ : Ev} {X : Cx} {W : WX} {j : Nat} (C : Ct G Γ tb ⟨N17, sc17, true⟩ X W j) (O : Ow X) : PSs X bd17 (rdS G Γ W ir17) :=
  (ds_one (ds_if (PW.pt (dt_or (dt_not (dt_v (de_isi C (t := .tup) (by decide) (.inr (by decide)) (by decide +kernel) (by decide +kernel) (by decide +kernel) (by decide +kernel) (de_var C (by decide +kernel)) (by rfl) (by decide)) (by rfl) he_isi)) (dt_or (dt_cmp C (o := .ne) (de_bi C (b := .len) (by decide +kernel) (by decide +kernel) (da_cons (de_var C (by decide +kernel)) da_nil (by rfl)) (by rfl)) de_int (by rfl)) (pw_or1 (dt_not (dt_v (de_bi C (b := .all) (by decide +kernel) (by decide +kernel) (da_cons (de_lc C (own := [("arms", 2)]) (by decide +kernel) (by decide) (by rfl) (di_seq C (de_var C (by decide +kernel))) (fun C1 => (dg_name C1 (by decide +kernel))) (fun C1 => dts_nil) (fun C1 => (de_call C1 (by rfl) (by decide +kernel) (da_cons (de_var C1 (by decide +kernel)) (da_cons de_int (da_cons (de_var C1 (by decide +kernel)) da_nil (by rfl)) (by rfl)) (by rfl)) (by rfl)))) da_nil (by rfl)) (by rfl)) (by rfl) he_bi))))))
  (ds_one (ds_rais0 C (by decide +kernel) (by decide +kernel)))
  ds_nil))
def N18 : List Str := ["side", "start", "steps", "land", "found", "step"]
theorem b18 {G : Gx} {Γ : Ev} {X : Cx} {W : WX} {j : Nat} (C : Ct G Γ tb ⟨N18, sc18, true⟩ X W j) (O : Ow X) : PSs X bd18 (rdS G Γ W ir18) :=
  (ds_cons (ds_set C (by decide +kernel) (de_cel (da_cons (de_call C (by rfl) (by decide +kernel) (da_cons (de_var C (by decide +kernel)) (da_cons (de_var C (by decide +kernel)) da_nil (by rfl)) (by rfl)) (by rfl)) da_nil (by rfl))) (by rfl))
  (ds_cons (ds_for O.po C.calm (di_seq C (de_var C (by decide +kernel))) (dg_name C (by decide +kernel))
  (ds_one (ds_ex (de_app C (de_var C (by decide +kernel)) (de_call C (by rfl) (by decide +kernel) (da_cons (de_var C (by decide +kernel)) (da_cons (de_var C (by decide +kernel)) (da_cons (de_var C (by decide +kernel)) (da_cons (de_ix C (de_var C (by decide +kernel)) (de_neg de_int) (by rfl)) da_nil (by rfl)) (by rfl)) (by rfl)) (by rfl)) (by rfl)) (by rfl) (by rfl) (by rfl)) (by rfl))) (by rfl))
  (dss_frz (ds_one (ds_ret (de_var C (by decide +kernel)))))))
def N19 : List Str := ["self"]
theorem b19 {G : Gx} {Γ : Ev} {X : Cx} {W : WX} {j : Nat} (C : Ct G Γ tb ⟨N19, sc19, true⟩ X W j) (O : Ow X) : PSs X bd19 (rdS G Γ W ir19) :=
  (ds_one (ds_ret (de_ix C (de_fld C (by decide +kernel) (de_var C (by decide +kernel)) (by rfl)) de_int (by rfl))))
def N20 : List Str := ["self"]
theorem b20 {G : Gx} {Γ : Ev} {X : Cx} {W : WX} {j : Nat} (C : Ct G Γ tb ⟨N20, sc20, true⟩ X W j) (O : Ow X) : PSs X bd20 (rdS G Γ W ir20) :=
  (ds_one (ds_ret (de_ix C (de_fld C (by decide +kernel) (de_var C (by decide +kernel)) (by rfl)) de_int (by rfl))))
def N21 : List Str := ["self"]
theorem b21 {G : Gx} {Γ : Ev} {X : Cx} {W : WX} {j : Nat} (C : Ct G Γ tb ⟨N21, sc21, true⟩ X W j) (O : Ow X) : PSs X bd21 (rdS G Γ W ir21) :=
  (ds_one (ds_ret (de_ix C (de_fld C (by decide +kernel) (de_var C (by decide +kernel)) (by rfl)) de_int (by rfl))))
def N22 : List Str := ["step", "arms", "left"]
theorem b22 {G : Gx} {Γ : Ev} {X : Cx} {W : WX} {j : Nat} (C : Ct G Γ tb ⟨N22, sc22, true⟩ X W j) (O : Ow X) : PSs X bd22 (rdS G Γ W ir22) :=
  (ds_cons (ds_if (dt_cmp C (o := .eq) (de_ix C (de_var C (by decide +kernel)) de_int (by rfl)) de_str (by rfl))
  (ds_one (ds_ret (de_bop C (o := .sub) (de_ix C (de_var C (by decide +kernel)) de_int (by rfl)) de_int)))
  ds_nil)
  (ds_cons (ds_set C (by decide +kernel) (de_ite (dt_cmp C (o := .eq) (de_ix C (de_var C (by decide +kernel)) de_int (by rfl)) de_str (by rfl)) (de_bop C (o := .mod) (de_neg (de_ix C (de_var C (by decide +kernel)) de_int (by rfl))) (de_var C (by decide +kernel))) de_int) (by rfl))
  (ds_one (ds_ret (de_ite (dt_cmp C (o := .gt) (de_var C (by decide +kernel)) de_int (by rfl)) (de_bop C (o := .sub) (de_var C (by decide +kernel)) de_int) (de_bop C (o := .sub) (de_var C (by decide +kernel)) de_int))))))
def N23 : List Str := ["value", "some"]
theorem b23 {G : Gx} {Γ : Ev} {X : Cx} {W : WX} {j : Nat} (C : Ct G Γ tb ⟨N23, sc23, true⟩ X W j) (O : Ow X) : PSs X bd23 (rdS G Γ W ir23) :=
  (ds_one (ds_ret (de_and (de_isi C (t := .str) (by decide) (.inr (by decide)) (by decide +kernel) (by decide +kernel) (by decide +kernel) (by decide +kernel) (de_var C (by decide +kernel)) (by rfl) (by decide)) (pe_one (de_cmp C (o := .mem) (de_var C (by decide +kernel)) (de_var C (by decide +kernel)) (by rfl))))))
def N24 : List Str := ["value", "least", "most"]
theorem b24 {G : Gx} {Γ : Ev} {X : Cx} {W : WX} {j : Nat} (C : Ct G Γ tb ⟨N24, sc24, true⟩ X W j) (O : Ow X) : PSs X bd24 (rdS G Γ W ir24) :=
  (ds_one (ds_ret (de_and (de_isi C (t := .int) (by decide) (.inr (by decide)) (by decide +kernel) (by decide +kernel) (by decide +kernel) (by decide +kernel) (de_var C (by decide +kernel)) (by rfl) (by decide)) (de_and (de_not (de_isi C (t := .bool) (by decide) (.inr (by decide)) (by decide +kernel) (by decide +kernel) (by decide +kernel) (by decide +kernel) (de_var C (by decide +kernel)) (by rfl) (by decide))) (pe_one (de_chain C (o := .le) (o' := .le) (de_var C (by decide +kernel)) (de_var C (by decide +kernel)) (de_var C (by decide +kernel)) (by rfl)))))))
def N25 : List Str := ["value"]
theorem b25 {G : Gx} {Γ : Ev} {X : Cx} {W : WX} {j : Nat} (C : Ct G Γ tb ⟨N25, sc25, true⟩ X W j) (O : Ow X) : PSs X bd25 (rdS G Γ W ir25) :=
  (ds_cons (ds_if (PW.pt (dt_or (dt_not (dt_v (de_isi C (t := .tup) (by decide) (.inr (by decide)) (by decide +kernel) (by decide +kernel) (by decide +kernel) (by decide +kernel) (de_var C (by decide +kernel)) (by rfl) (by decide)) (by rfl) he_isi)) (dt_or (dt_cmp C (o := .eq) (de_var C (by decide +kernel)) (de_tup da_nil) (by rfl)) (pw_or1 (dt_not (dt_v (de_isi C (t := .str) (by decide) (.inr (by decide)) (by decide +kernel) (by decide +kernel) (by decide +kernel) (by decide +kernel) (de_ix C (de_var C (by decide +kernel)) de_int (by rfl)) (by rfl) (by decide)) (by rfl) he_isi))))))
  (ds_one (ds_ret de_bl))
  ds_nil)
  (ds_cons (ds_if (dt_cmp C (o := .mem) (de_ix C (de_var C (by decide +kernel)) de_int (by rfl)) (de_con C (by decide +kernel) (by rfl)) (by rfl))
  (ds_one (ds_ret (de_and (de_cmp C (o := .eq) (de_bi C (b := .len) (by decide +kernel) (by decide +kernel) (da_cons (de_var C (by decide +kernel)) da_nil (by rfl)) (by rfl)) de_int (by rfl)) (pe_one (de_call C (by rfl) (by decide +kernel) (da_cons (de_ix C (de_var C (by decide +kernel)) de_int (by rfl)) (da_cons de_int (da_cons (de_ix C (de_con C (by decide +kernel) (by rfl)) (de_ix C (de_var C (by decide +kernel)) de_int (by rfl)) (by rfl)) da_nil (by rfl)) (by rfl)) (by rfl)) (by rfl))))))
  ds_nil)
  (ds_one (ds_ret (de_and (de_cmp C (o := .eq) (de_ix C (de_var C (by decide +kernel)) de_int (by rfl)) de_str (by rfl)) (pe_one (de_cmp C (o := .eq) (de_bi C (b := .len) (by decide +kernel) (by decide +kernel) (da_cons (de_var C (by decide +kernel)) da_nil (by rfl)) (by rfl)) de_int (by rfl))))))))
def N26 : List Str := ["start", "land"]
theorem b26 {G : Gx} {Γ : Ev} {X : Cx} {W : WX} {j : Nat} (C : Ct G Γ tb ⟨N26, sc26, true⟩ X W j) (O : Ow X) : PSs X bd26 (rdS G Γ W ir26) :=
  (ds_one (ds_ret (de_tup (da_cons (de_ix C (de_var C (by decide +kernel)) de_int (by rfl)) (da_cons (de_bop C (o := .mod) (de_ix C (de_var C (by decide +kernel)) de_int (by rfl)) (de_ix C (de_var C (by decide +kernel)) (de_cix C (by decide +kernel) (by rfl) (by decide +kernel) (de_ix C (de_var C (by decide +kernel)) de_int (by rfl)) (by rfl) (by rfl)) (by rfl))) da_nil (by rfl)) (by rfl)))))
def N27 : List Str := ["side", "step", "land", "here", "arm"]
theorem b27 {G : Gx} {Γ : Ev} {X : Cx} {W : WX} {j : Nat} (C : Ct G Γ tb ⟨N27, sc27, true⟩ X W j) (O : Ow X) : PSs X bd27 (rdS G Γ W ir27) :=
  (ds_cons (ds_set C (by decide +kernel) (de_bop C (o := .mod) (de_bop C (o := .add) (de_ix C (de_var C (by decide +kernel)) de_int (by rfl)) (de_call C (by rfl) (by decide +kernel) (da_cons (de_var C (by decide +kernel)) (da_cons (de_var C (by decide +kernel)) da_nil (by rfl)) (by rfl)) (by rfl))) (de_ix C (de_var C (by decide +kernel)) (de_cix C (by decide +kernel) (by rfl) (by decide +kernel) (de_ix C (de_var C (by decide +kernel)) de_int (by rfl)) (by rfl) (by rfl)) (by rfl))) (by rfl))
  (ds_cons (ds_if (dt_cmp C (o := .gt) (de_var C (by decide +kernel)) de_int (by rfl))
  (ds_one (ds_ret (de_tup (da_cons (de_ix C (de_var C (by decide +kernel)) de_int (by rfl)) (da_cons (de_var C (by decide +kernel)) da_nil (by rfl)) (by rfl)))))
  ds_nil)
  (ds_one (ds_ret (de_tup (da_cons (de_ix C (de_con C (by decide +kernel) (by rfl)) (de_bop C (o := .sub) de_int (de_cix C (by decide +kernel) (by rfl) (by decide +kernel) (de_ix C (de_var C (by decide +kernel)) de_int (by rfl)) (by rfl) (by rfl))) (by rfl)) (da_cons de_int da_nil (by rfl)) (by rfl)))))))
def N28 : List Str := ["side", "step", "by"]
theorem b28 {G : Gx} {Γ : Ev} {X : Cx} {W : WX} {j : Nat} (C : Ct G Γ tb ⟨N28, sc28, true⟩ X W j) (O : Ow X) : PSs X bd28 (rdS G Γ W ir28) :=
  (ds_cons (ds_if (dt_cmp C (o := .eq) (de_ix C (de_var C (by decide +kernel)) de_int (by rfl)) de_str (by rfl))
  (ds_one (ds_ret de_int))
  ds_nil)
  (ds_cons (ds_set C (by decide +kernel) (de_ite (dt_cmp C (o := .eq) (de_ix C (de_var C (by decide +kernel)) de_int (by rfl)) de_str (by rfl)) (de_ix C (de_var C (by decide +kernel)) de_int (by rfl)) (de_neg (de_ix C (de_var C (by decide +kernel)) de_int (by rfl)))) (by rfl))
  (ds_one (ds_ret (de_ite (dt_cmp C (o := .eq) (de_var C (by decide +kernel)) de_str (by rfl)) (de_var C (by decide +kernel)) (de_neg (de_var C (by decide +kernel))))))))
def N36 : List Str := ["one", "other", "fact"]
theorem b36 {G : Gx} {Γ : Ev} {X : Cx} {W : WX} {j : Nat} (C : Ct G Γ tb ⟨N36, sc36, true⟩ X W j) (O : Ow X) : PSs X bd36 (rdS G Γ W ir36) :=
  (ds_cons (ds_ex (de_call C (by rfl) (by decide +kernel) (da_cons (de_var C (by decide +kernel)) da_nil (by rfl)) (by rfl)) (by rfl))
  (ds_one (ds_ret (de_call C (by rfl) (by decide +kernel) (da_cons (de_var C (by decide +kernel)) (da_cons (de_var C (by decide +kernel)) (da_cons (de_var C (by decide +kernel)) da_nil (by rfl)) (by rfl)) (by rfl)) (by rfl)))))
def N41 : List Str := ["value", "arms"]
theorem b41 {G : Gx} {Γ : Ev} {X : Cx} {W : WX} {j : Nat} (C : Ct G Γ tb ⟨N41, sc41, true⟩ X W j) (O : Ow X) : PSs X bd41 (rdS G Γ W ir41) :=
  (ds_one (ds_if (PW.pt (dt_or (dt_not (dt_v (de_isi C (t := .tup) (by decide) (.inr (by decide)) (by decide +kernel) (by decide +kernel) (by decide +kernel) (by decide +kernel) (de_var C (by decide +kernel)) (by rfl) (by decide)) (by rfl) he_isi)) (dt_or (dt_cmp C (o := .ne) (de_bi C (b := .len) (by decide +kernel) (by decide +kernel) (da_cons (de_var C (by decide +kernel)) da_nil (by rfl)) (by rfl)) de_int (by rfl)) (pw_or1 (dt_not (dt_v (de_bi C (b := .all) (by decide +kernel) (by decide +kernel) (da_cons (de_lc C (own := [("arms", 1)]) (by decide +kernel) (by decide) (by rfl) (di_seq C (de_var C (by decide +kernel))) (fun C1 => (dg_name C1 (by decide +kernel))) (fun C1 => dts_nil) (fun C1 => (de_call C1 (by rfl) (by decide +kernel) (da_cons (de_var C1 (by decide +kernel)) (da_cons de_int (da_cons (de_con C1 (by decide +kernel) (by rfl)) da_nil (by rfl)) (by rfl)) (by rfl)) (by rfl)))) da_nil (by rfl)) (by rfl)) (by rfl) he_bi))))))
  (ds_one (ds_rais0 C (by decide +kernel) (by decide +kernel)))
  ds_nil))
def N42 : List Str := ["one", "other", "fact", "land"]
theorem b42 {G : Gx} {Γ : Ev} {X : Cx} {W : WX} {j : Nat} (C : Ct G Γ tb ⟨N42, sc42, true⟩ X W j) (O : Ow X) : PSs X bd42 (rdS G Γ W ir42) :=
  (ds_cons (ds_for O.po C.calm (di_seq C (de_call C (by rfl) (by decide +kernel) (da_cons (de_var C (by decide +kernel)) (da_cons (de_bop C (o := .add) (de_bop C (o := .add) (de_con C (by decide +kernel) (by rfl)) (de_call C (by rfl) (by decide +kernel) (da_cons (de_var C (by decide +kernel)) da_nil (by rfl)) (by rfl))) (de_call C (by rfl) (by decide +kernel) (da_cons (de_var C (by decide +kernel)) da_nil (by rfl)) (by rfl))) da_nil (by rfl)) (by rfl)) (by rfl))) (dg_name C (by decide +kernel))
  (ds_one (ds_if (dt_cmp C (o := .ne) (de_call C (by rfl) (by decide +kernel) (da_cons (de_var C (by decide +kernel)) (da_cons (de_var C (by decide +kernel)) da_nil (by rfl)) (by rfl)) (by rfl)) (de_call C (by rfl) (by decide +kernel) (da_cons (de_var C (by decide +kernel)) (da_cons (de_var C (by decide +kernel)) da_nil (by rfl)) (by rfl)) (by rfl)) (by rfl))
  (ds_one (ds_ret (de_var C (by decide +kernel))))
  ds_nil)) (by rfl))
  (ds_one (ds_ret de_non)))
def N43 : List Str := ["fact", "most", "rows", "n", "m"]
theorem b43 {G : Gx} {Γ : Ev} {X : Cx} {W : WX} {j : Nat} (C : Ct G Γ tb ⟨N43, sc43, true⟩ X W j) (O : Ow X) : PSs X bd43 (rdS G Γ W ir43) :=
  (ds_cons (ds_setLc2 C (own := [("n", 3), ("m", 4)]) (by decide +kernel) (by rfl) (by rfl) (by rfl) (by decide +kernel) (by decide) (by decide) (by decide) (by rfl) (by rfl) (di_rng2 C (by decide +kernel) (by decide +kernel) (de_ix C (de_var C (by decide +kernel)) de_int (by rfl)) (by rfl) (de_bop C (o := .add) (de_var C (by decide +kernel)) de_int) (by rfl)) (fun C1 => (dg_name C1 (by decide +kernel))) (fun C1 => dts_nil) (fun C1 => (di_rng2 C1 (by decide +kernel) (by decide +kernel) (de_ix C1 (de_var C1 (by decide +kernel)) de_int (by rfl)) (by rfl) (de_bop C1 (o := .add) (de_var C1 (by decide +kernel)) de_int) (by rfl))) (fun C1 => (dg_name C1 (by decide +kernel))) (fun C1 => dts_nil) (fun C1 => (de_tup (da_cons (de_var C1 (by decide +kernel)) (da_cons (de_var C1 (by decide +kernel)) da_nil (by rfl)) (by rfl)))))
  (ds_one (ds_ret (de_srt C (by decide +kernel) (by decide +kernel) (by decide +kernel) (by decide +kernel) (de_var C (by decide +kernel)) (by rfl)))))
def N44 : List Str := ["drive"]
theorem b44 {G : Gx} {Γ : Ev} {X : Cx} {W : WX} {j : Nat} (C : Ct G Γ tb ⟨N44, sc44, true⟩ X W j) (O : Ow X) : PSs X bd44 (rdS G Γ W ir44) :=
  (ds_one (ds_ret (de_bop C (o := .add) (de_bi C (b := .abs) (by decide +kernel) (by decide +kernel) (da_cons (de_ix C (de_prop C (by decide) (by decide +kernel) (de_var C (by decide +kernel)) (by rfl)) de_int (by rfl)) da_nil (by rfl)) (by rfl)) (de_call C (by rfl) (by decide +kernel) (da_cons (de_prop C (by decide) (by decide +kernel) (de_var C (by decide +kernel)) (by rfl)) da_nil (by rfl)) (by rfl)))))
def N45 : List Str := ["drive", "land"]
theorem b45 {G : Gx} {Γ : Ev} {X : Cx} {W : WX} {j : Nat} (C : Ct G Γ tb ⟨N45, sc45, true⟩ X W j) (O : Ow X) : PSs X bd45 (rdS G Γ W ir45) :=
  (ds_one (ds_ret (de_ix C (de_call C (by rfl) (by decide +kernel) (da_cons (de_prop C (by decide) (by decide +kernel) (de_var C (by decide +kernel)) (by rfl)) (da_cons (de_prop C (by decide) (by decide +kernel) (de_var C (by decide +kernel)) (by rfl)) (da_cons (de_prop C (by decide) (by decide +kernel) (de_var C (by decide +kernel)) (by rfl)) (da_cons (de_var C (by decide +kernel)) da_nil (by rfl)) (by rfl)) (by rfl)) (by rfl)) (by rfl)) (de_neg de_int) (by rfl))))
def N46 : List Str := ["steps", "step"]
theorem b46 {G : Gx} {Γ : Ev} {X : Cx} {W : WX} {j : Nat} (C : Ct G Γ tb ⟨N46, sc46, true⟩ X W j) (O : Ow X) : PSs X bd46 (rdS G Γ W ir46) :=
  (ds_one (ds_ret (de_bi C (b := .sum) (by decide +kernel) (by decide +kernel) (da_cons (de_lc C (own := [("step", 1)]) (by decide +kernel) (by decide) (by rfl) (di_seq C (de_var C (by decide +kernel))) (fun C1 => (dg_name C1 (by decide +kernel))) (fun C1 => (dts_one (dt_cmp C1 (o := .gt) (de_bi C1 (b := .len) (by decide +kernel) (by decide +kernel) (da_cons (de_var C1 (by decide +kernel)) da_nil (by rfl)) (by rfl)) de_int (by rfl)))) (fun C1 => (de_ix C1 (de_var C1 (by decide +kernel)) de_int (by rfl)))) da_nil (by rfl)) (by rfl))))
def N50 : List Str := ["drive", "steps", "fact", "land"]
theorem b50 {G : Gx} {Γ : Ev} {X : Cx} {W : WX} {j : Nat} (C : Ct G Γ tb ⟨N50, sc50, true⟩ X W j) (O : Ow X) : PSs X bd50 (rdS G Γ W ir50) :=
  (ds_cons (ds_ex (de_call C (by rfl) (by decide +kernel) (da_cons (de_var C (by decide +kernel)) da_nil (by rfl)) (by rfl)) (by rfl))
  (ds_cons (ds_ex (de_call C (by rfl) (by decide +kernel) (da_cons (de_var C (by decide +kernel)) da_nil (by rfl)) (by rfl)) (by rfl))
  (ds_cons (ds_for O.po C.calm (di_seq C (de_call C (by rfl) (by decide +kernel) (da_cons (de_var C (by decide +kernel)) (da_cons (de_bop C (o := .add) (de_bop C (o := .add) (de_con C (by decide +kernel) (by rfl)) (de_call C (by rfl) (by decide +kernel) (da_cons (de_var C (by decide +kernel)) da_nil (by rfl)) (by rfl))) (de_call C (by rfl) (by decide +kernel) (da_cons (de_var C (by decide +kernel)) da_nil (by rfl)) (by rfl))) da_nil (by rfl)) (by rfl)) (by rfl))) (dg_name C (by decide +kernel))
  (ds_one (ds_if (dt_cmp C (o := .ne) (de_ix C (de_call C (by rfl) (by decide +kernel) (da_cons (de_prop C (by decide) (by decide +kernel) (de_var C (by decide +kernel)) (by rfl)) (da_cons (de_prop C (by decide) (by decide +kernel) (de_var C (by decide +kernel)) (by rfl)) (da_cons (de_bop C (o := .add) (de_prop C (by decide) (by decide +kernel) (de_var C (by decide +kernel)) (by rfl)) (de_var C (by decide +kernel))) (da_cons (de_var C (by decide +kernel)) da_nil (by rfl)) (by rfl)) (by rfl)) (by rfl)) (by rfl)) (de_neg de_int) (by rfl)) (de_call C (by rfl) (by decide +kernel) (da_cons (de_prop C (by decide) (by decide +kernel) (de_var C (by decide +kernel)) (by rfl)) (da_cons (de_var C (by decide +kernel)) da_nil (by rfl)) (by rfl)) (by rfl)) (by rfl))
  (ds_one (ds_ret (de_var C (by decide +kernel))))
  ds_nil)) (by rfl))
  (ds_one (ds_ret de_non)))))
def N53 : List Str := ["one", "other", "fact", "found", "land"]
theorem b53 {G : Gx} {Γ : Ev} {X : Cx} {W : WX} {j : Nat} (C : Ct G Γ tb ⟨N53, sc53, true⟩ X W j) (O : Ow X) : PSs X bd53 (rdS G Γ W ir53) :=
  (ds_cons (ds_ex (de_call C (by rfl) (by decide +kernel) (da_cons (de_var C (by decide +kernel)) da_nil (by rfl)) (by rfl)) (by rfl))
  (ds_cons (ds_set C (by decide +kernel) de_bdn (by rfl))
  (ds_cons (ds_for O.po C.calm (di_seq C (de_call C (by rfl) (by decide +kernel) (da_cons (de_var C (by decide +kernel)) (da_cons (de_bop C (o := .add) (de_bop C (o := .add) (de_con C (by decide +kernel) (by rfl)) (de_call C (by rfl) (by decide +kernel) (da_cons (de_var C (by decide +kernel)) da_nil (by rfl)) (by rfl))) (de_call C (by rfl) (by decide +kernel) (da_cons (de_var C (by decide +kernel)) da_nil (by rfl)) (by rfl))) da_nil (by rfl)) (by rfl)) (by rfl))) (dg_name C (by decide +kernel))
  (ds_one (ds_ex (de_sdef (de_var C (by decide +kernel)) (de_call C (by rfl) (by decide +kernel) (da_cons (de_var C (by decide +kernel)) (da_cons (de_var C (by decide +kernel)) (da_cons (de_var C (by decide +kernel)) da_nil (by rfl)) (by rfl)) (by rfl)) (by rfl)) (de_var C (by decide +kernel)) ⟨(by rfl), (by rfl), (by rfl), (by rfl)⟩) (by rfl))) (by rfl))
  (ds_one (ds_ret (de_tup (da_cons (de_bget (de_var C (by decide +kernel)) de_bl de_non ⟨(by rfl), (by rfl), (by rfl), (by rfl)⟩) (da_cons (de_bget (de_var C (by decide +kernel)) de_bl de_non ⟨(by rfl), (by rfl), (by rfl), (by rfl)⟩) da_nil (by rfl)) (by rfl))))))))
def N57 : List Str := ["drive", "fact", "rows", "found", "index", "steps"]
theorem b57 {G : Gx} {Γ : Ev} {X : Cx} {W : WX} {j : Nat} (C : Ct G Γ tb ⟨N57, sc57, true⟩ X W j) (O : Ow X) : PSs X bd57 (rdS G Γ W ir57) :=
  (ds_cons (ds_ex (de_call C (by rfl) (by decide +kernel) (da_cons (de_var C (by decide +kernel)) da_nil (by rfl)) (by rfl)) (by rfl))
  (ds_cons (ds_set C (by decide +kernel) (de_prop C (by decide) (by decide +kernel) (de_var C (by decide +kernel)) (by rfl)) (by rfl))
  (ds_cons (ds_set C (by decide +kernel) (de_cel da_nil) (by rfl))
  (ds_cons (ds_for O.po C.calm (di_rng1 C (by decide +kernel) (by decide +kernel) (de_bop C (o := .sub) (de_bi C (b := .len) (by decide +kernel) (by decide +kernel) (da_cons (de_var C (by decide +kernel)) da_nil (by rfl)) (by rfl)) de_int) (by rfl)) (dg_name C (by decide +kernel))
  (ds_cons (ds_set C (by decide +kernel) (de_tup (da_star C (de_sl C (de_var C (by decide +kernel)) do_nil (do_some (de_var C (by decide +kernel)))) (da_cons (de_ix C (de_var C (by decide +kernel)) (de_bop C (o := .add) (de_var C (by decide +kernel)) de_int) (by rfl)) (da_cons (de_ix C (de_var C (by decide +kernel)) (de_var C (by decide +kernel)) (by rfl)) (da_star C (de_sl C (de_var C (by decide +kernel)) (do_some (de_bop C (o := .add) (de_var C (by decide +kernel)) de_int)) do_nil) da_nil) (by rfl)) (by rfl)))) (by rfl))
  (ds_one (ds_if (dt_cmp C (o := .is) (de_call C (by rfl) (by decide +kernel) (da_cons (de_var C (by decide +kernel)) (da_cons (de_mkd C (by rfl) (by rfl) (by decide +kernel) (da_cons (de_prop C (by decide) (by decide +kernel) (de_var C (by decide +kernel)) (by rfl)) (da_cons (de_prop C (by decide) (by decide +kernel) (de_var C (by decide +kernel)) (by rfl)) (da_cons (de_var C (by decide +kernel)) da_nil (by rfl)) (by rfl)) (by rfl)) (by rfl)) (da_cons (de_var C (by decide +kernel)) da_nil (by rfl)) (by rfl)) (by rfl)) (by rfl)) de_non (by rfl))
  (ds_one (ds_ex (de_app C (de_var C (by decide +kernel)) (de_var C (by decide +kernel)) (by rfl) (by rfl) (by rfl)) (by rfl)))
  ds_nil))) (by rfl))
  (dss_frz (ds_one (ds_ret (de_var C (by decide +kernel)))))))))
def N58 : List Str := ["drive", "fact", "rows", "found", "index", "other"]
theorem b58 {G : Gx} {Γ : Ev} {X : Cx} {W : WX} {j : Nat} (C : Ct G Γ tb ⟨N58, sc58, true⟩ X W j) (O : Ow X) : PSs X bd58 (rdS G Γ W ir58) :=
  (ds_cons (ds_ex (de_call C (by rfl) (by decide +kernel) (da_cons (de_var C (by decide +kernel)) da_nil (by rfl)) (by rfl)) (by rfl))
  (ds_cons (ds_set C (by decide +kernel) (de_prop C (by decide) (by decide +kernel) (de_var C (by decide +kernel)) (by rfl)) (by rfl))
  (ds_cons (ds_set C (by decide +kernel) (de_cel da_nil) (by rfl))
  (ds_cons (ds_for O.po C.calm (di_rng1 C (by decide +kernel) (by decide +kernel) (de_bi C (b := .len) (by decide +kernel) (by decide +kernel) (da_cons (de_var C (by decide +kernel)) da_nil (by rfl)) (by rfl)) (by rfl)) (dg_name C (by decide +kernel))
  (ds_cons (ds_set C (by decide +kernel) (de_mkd C (by rfl) (by rfl) (by decide +kernel) (da_cons (de_prop C (by decide) (by decide +kernel) (de_var C (by decide +kernel)) (by rfl)) (da_cons (de_prop C (by decide) (by decide +kernel) (de_var C (by decide +kernel)) (by rfl)) (da_cons (de_bop C (o := .add) (de_sl C (de_var C (by decide +kernel)) do_nil (do_some (de_var C (by decide +kernel)))) (de_sl C (de_var C (by decide +kernel)) (do_some (de_bop C (o := .add) (de_var C (by decide +kernel)) de_int)) do_nil)) da_nil (by rfl)) (by rfl)) (by rfl)) (by rfl)) (by rfl))
  (ds_one (ds_if (dt_cmp C (o := .is) (de_call C (by rfl) (by decide +kernel) (da_cons (de_var C (by decide +kernel)) (da_cons (de_var C (by decide +kernel)) (da_cons (de_var C (by decide +kernel)) da_nil (by rfl)) (by rfl)) (by rfl)) (by rfl)) de_non (by rfl))
  (ds_one (ds_ex (de_app C (de_var C (by decide +kernel)) (de_var C (by decide +kernel)) (by rfl) (by rfl) (by rfl)) (by rfl)))
  ds_nil))) (by rfl))
  (dss_frz (ds_one (ds_ret (de_var C (by decide +kernel)))))))))
def N61 : List Str := ["drive", "here", "arm", "plain", "rounds", "step"]
theorem b61 {G : Gx} {Γ : Ev} {X : Cx} {W : WX} {j : Nat} (C : Ct G Γ tb ⟨N61, sc61, true⟩ X W j) (O : Ow X) : PSs X bd61 (rdS G Γ W ir61) :=
  (ds_cons (ds_par2 C (by decide +kernel) (by decide +kernel) (by decide) (da_cons (de_cix C (by decide +kernel) (by rfl) (by decide +kernel) (de_ix C (de_prop C (by decide) (by decide +kernel) (de_var C (by decide +kernel)) (by rfl)) de_int (by rfl)) (by rfl) (by rfl)) (da_cons (de_ix C (de_prop C (by decide) (by decide +kernel) (de_var C (by decide +kernel)) (by rfl)) de_int (by rfl)) da_nil (by rfl)) (by rfl)) (by rw [sw_env C]; rfl) (by rfl))
  (ds_cons (ds_par2 C (by decide +kernel) (by decide +kernel) (by decide) (da_cons de_int (da_cons (de_cel (da_cons de_int (da_cons de_int da_nil (by rfl)) (by rfl))) da_nil (by rfl)) (by rfl)) (by rw [sw_env C]; rfl) (by rfl))
  (ds_cons (ds_for O.po C.calm (di_seq C (de_prop C (by decide) (by decide +kernel) (de_var C (by decide +kernel)) (by rfl))) (dg_name C (by decide +kernel))
  (ds_cons (ds_aug C (o := .add) (by decide +kernel) (de_call C (by rfl) (by decide +kernel) (da_cons (de_prop C (by decide) (by decide +kernel) (de_var C (by decide +kernel)) (by rfl)) (da_cons (de_var C (by decide +kernel)) da_nil (by rfl)) (by rfl)) (by rfl)) (by decide))
  (ds_cons (ds_if (dt_cmp C (o := .eq) (de_ix C (de_var C (by decide +kernel)) de_int (by rfl)) de_str (by rfl))
  (ds_one (ds_aug C (o := .add) (by decide +kernel) (de_bop C (o := .sub) (de_ix C (de_var C (by decide +kernel)) de_int (by rfl)) de_int) (by decide)))
  (ds_cons (ds_aug C (o := .sub) (by decide +kernel) (de_bop C (o := .add) de_int (de_ite (dt_cmp C (o := .eq) (de_ix C (de_var C (by decide +kernel)) de_int (by rfl)) de_str (by rfl)) (de_ix C (de_var C (by decide +kernel)) de_int (by rfl)) de_int)) (by decide))
  (ds_one (ds_augi C (b := .add) (de_var C (by decide +kernel)) (de_var C (by decide +kernel)) de_int (by decide) (by intro _ _ _; rfl)))))
  (ds_one (ds_if (dt_cmp C (o := .eq) (de_var C (by decide +kernel)) de_int (by rfl))
  (ds_one (ds_set C (by decide +kernel) (de_bop C (o := .sub) de_int (de_var C (by decide +kernel))) (by rfl)))
  ds_nil)))) (by rfl))
  (dss_frz (ds_one (ds_ret (de_tup (da_cons (de_ix C (de_con C (by decide +kernel) (by rfl)) (de_var C (by decide +kernel)) (by rfl)) (da_cons (de_var C (by decide +kernel)) (da_cons (de_tup (da_cons (de_var C (by decide +kernel)) (da_cons (de_ix C (de_var C (by decide +kernel)) de_int (by rfl)) (da_cons (de_ix C (de_var C (by decide +kernel)) de_int (by rfl)) da_nil (by rfl)) (by rfl)) (by rfl))) da_nil (by rfl)) (by rfl)) (by rfl)))))))))
def N63 : List Str := ["drive", "land", "first", "here", "found", "step"]
theorem b63 {G : Gx} {Γ : Ev} {X : Cx} {W : WX} {j : Nat} (C : Ct G Γ tb ⟨N63, sc63, true⟩ X W j) (O : Ow X) : PSs X bd63 (rdS G Γ W ir63) :=
  (ds_cons (ds_ex (de_call C (by rfl) (by decide +kernel) (da_cons (de_var C (by decide +kernel)) (da_cons (de_con C (by decide +kernel) (by rfl)) da_nil (by rfl)) (by rfl)) (by rfl)) (by rfl))
  (ds_cons (ds_set C (by decide +kernel) (de_call C (by rfl) (by decide +kernel) (da_cons (de_prop C (by decide) (by decide +kernel) (de_var C (by decide +kernel)) (by rfl)) (da_cons (de_var C (by decide +kernel)) da_nil (by rfl)) (by rfl)) (by rfl)) (by rfl))
  (ds_cons (ds_par2 C (by decide +kernel) (by decide +kernel) (by decide) (da_cons (de_var C (by decide +kernel)) (da_cons de_int da_nil (by rfl)) (by rfl)) (by rw [sw_env C]; rfl) (by rfl))
  (ds_cons (ds_while O.po (PW.pt (dt_or (dt_cmp C (o := .eq) (de_var C (by decide +kernel)) de_int (by rfl)) (pw_or1 (dt_cmp C (o := .ne) (de_var C (by decide +kernel)) (de_var C (by decide +kernel)) (by rfl)))))
  (ds_cons (ds_for O.po C.calm (di_seq C (de_prop C (by decide) (by decide +kernel) (de_var C (by decide +kernel)) (by rfl))) (dg_name C (by decide +kernel))
  (ds_one (ds_set C (by decide +kernel) (de_call C (by rfl) (by decide +kernel) (da_cons (de_prop C (by decide) (by decide +kernel) (de_var C (by decide +kernel)) (by rfl)) (da_cons (de_var C (by decide +kernel)) (da_cons (de_var C (by decide +kernel)) (da_cons (de_var C (by decide +kernel)) da_nil (by rfl)) (by rfl)) (by rfl)) (by rfl)) (by rfl)) (by rfl))) (by rfl))
  (ds_one (ds_aug C (o := .add) (by decide +kernel) de_int (by decide)))))
  (ds_one (ds_ret (de_var C (by decide +kernel))))))))
def N67 : List Str := ["seen", "most", "index", "one", "found", "drive", "told", "land"]
theorem b67 {G : Gx} {Γ : Ev} {X : Cx} {W : WX} {j : Nat} (C : Ct G Γ tb ⟨N67, sc67, true⟩ X W j) (O : Ow X) : PSs X bd67 (rdS G Γ W ir67) :=
  (ds_cons (ds_for O.po C.calm (di_enum C (by decide +kernel) (by decide +kernel) (de_var C (by decide +kernel)) (by rfl)) (dg_tup C (dgs_cons C (by decide +kernel) (dgs_cons C (by decide +kernel) dgs_nil)) (by decide) (by rfl) (by rfl))
  (ds_one (ds_if (dt_not (dt_v (de_call C (by rfl) (by decide +kernel) (da_cons (de_var C (by decide +kernel)) da_nil (by rfl)) (by rfl)) (by rfl) he_call))
  (ds_one (ds_rais1 C (by decide +kernel) (by decide +kernel) (da_cons (de_var C (by decide +kernel)) da_nil (by rfl)) (by rfl)))
  ds_nil)) (by rfl))
  (ds_cons (ds_set C (by decide +kernel) (de_call C (by rfl) (by decide +kernel) (da_cons (de_tup (da_cons de_int (da_cons de_int da_nil (by rfl)) (by rfl))) (da_cons (de_var C (by decide +kernel)) da_nil (by rfl)) (by rfl)) (by rfl)) (by rfl))
  (ds_cons (ds_for O.po C.calm (di_seq C (de_var C (by decide +kernel))) (dg_tup C (dgs_cons C (by decide +kernel) (dgs_cons C (by decide +kernel) dgs_nil)) (by decide) (by rfl) (by rfl))
  (ds_one (ds_setLc C (own := [("land", 7)]) (by decide +kernel) (by rfl) (by rfl) (by rfl) (by decide +kernel) (by decide) (by rfl) (di_seq C (de_var C (by decide +kernel))) (fun C1 => (dg_name C1 (by decide +kernel))) (fun C1 => (dts_one (dt_cmp C1 (o := .eq) (de_call C1 (by rfl) (by decide +kernel) (da_cons (de_var C1 (by decide +kernel)) (da_cons (de_var C1 (by decide +kernel)) da_nil (by rfl)) (by rfl)) (by rfl)) (de_var C1 (by decide +kernel)) (by rfl)))) (fun C1 => (de_var C1 (by decide +kernel))))) (by rfl))
  (ds_one (ds_ret (de_var C (by decide +kernel)))))))
def N68 : List Str := ["seen", "drives", "most", "lands", "index", "drive", "land"]
theorem b68 {G : Gx} {Γ : Ev} {X : Cx} {W : WX} {j : Nat} (C : Ct G Γ tb ⟨N68, sc68, true⟩ X W j) (O : Ow X) : PSs X bd68 (rdS G Γ W ir68) :=
  (ds_cons (ds_set C (by decide +kernel) (de_call C (by rfl) (by decide +kernel) (da_cons (de_var C (by decide +kernel)) (da_cons (de_var C (by decide +kernel)) da_nil (by rfl)) (by rfl)) (by rfl)) (by rfl))
  (ds_cons (ds_for O.po C.calm (di_enum C (by decide +kernel) (by decide +kernel) (de_var C (by decide +kernel)) (by rfl)) (dg_tup C (dgs_cons C (by decide +kernel) (dgs_cons C (by decide +kernel) dgs_nil)) (by decide) (by rfl) (by rfl))
  (ds_one (ds_if (dt_cmp C (o := .gt) (de_nset C (by decide +kernel) (by decide +kernel) (by decide +kernel) (by decide +kernel) (de_lc C (own := [("land", 6)]) (by decide +kernel) (by decide) (by rfl) (di_seq C (de_var C (by decide +kernel))) (fun C1 => (dg_name C1 (by decide +kernel))) (fun C1 => dts_nil) (fun C1 => (de_call C1 (by rfl) (by decide +kernel) (da_cons (de_var C1 (by decide +kernel)) (da_cons (de_var C1 (by decide +kernel)) da_nil (by rfl)) (by rfl)) (by rfl)))) (by rfl)) de_int (by rfl))
  (ds_one (ds_ret (de_var C (by decide +kernel))))
  ds_nil)) (by rfl))
  (ds_one (ds_ret de_non))))
def N70 : List Str := ["value", "told"]
theorem b70 {G : Gx} {Γ : Ev} {X : Cx} {W : WX} {j : Nat} (C : Ct G Γ tb ⟨N70, sc70, true⟩ X W j) (O : Ow X) : PSs X bd70 (rdS G Γ W ir70) :=
  (ds_cons (ds_if (PW.pt (dt_or (dt_not (dt_v (de_isi C (t := .tup) (by decide) (.inr (by decide)) (by decide +kernel) (by decide +kernel) (by decide +kernel) (by decide +kernel) (de_var C (by decide +kernel)) (by rfl) (by decide)) (by rfl) he_isi)) (dt_or (dt_cmp C (o := .ne) (de_bi C (b := .len) (by decide +kernel) (by decide +kernel) (da_cons (de_var C (by decide +kernel)) da_nil (by rfl)) (by rfl)) de_int (by rfl)) (pw_or1 (dt_not (dt_v (de_isv C (by rfl) (by decide +kernel) (by decide +kernel) (by decide +kernel) (de_ix C (de_var C (by decide +kernel)) de_int (by rfl)) (by rfl)) (by rfl) he_isi))))))
  (ds_one (ds_ret de_bl))
  ds_nil)
  (ds_cons (ds_set C (by decide +kernel) (de_ix C (de_var C (by decide +kernel)) de_int (by rfl)) (by rfl))
  (ds_cons (ds_if (PW.pt (dt_or (dt_not (dt_v (de_isi C (t := .tup) (by decide) (.inr (by decide)) (by decide +kernel) (by decide +kernel) (by decide +kernel) (by decide +kernel) (de_var C (by decide +kernel)) (by rfl) (by decide)) (by rfl) he_isi)) (dt_or (dt_cmp C (o := .ne) (de_bi C (b := .len) (by decide +kernel) (by decide +kernel) (da_cons (de_var C (by decide +kernel)) da_nil (by rfl)) (by rfl)) de_int (by rfl)) (pw_or1 (dt_not (dt_v (de_call C (by rfl) (by decide +kernel) (da_cons (de_ix C (de_var C (by decide +kernel)) de_int (by rfl)) (da_cons (de_con C (by decide +kernel) (by rfl)) da_nil (by rfl)) (by rfl)) (by rfl)) (by rfl) he_call))))))
  (ds_one (ds_ret de_bl))
  ds_nil)
  (ds_one (ds_ret (de_and (de_isi C (t := .int) (by decide) (.inr (by decide)) (by decide +kernel) (by decide +kernel) (by decide +kernel) (by decide +kernel) (de_ix C (de_var C (by decide +kernel)) de_int (by rfl)) (by rfl) (by decide)) (de_and (de_not (de_isi C (t := .bool) (by decide) (.inr (by decide)) (by decide +kernel) (by decide +kernel) (by decide +kernel) (by decide +kernel) (de_ix C (de_var C (by decide +kernel)) de_int (by rfl)) (by rfl) (by decide))) (pe_one (de_cmp C (o := .ge) (de_ix C (de_var C (by decide +kernel)) de_int (by rfl)) de_int (by rfl))))))))))
def N72 : List Str := ["self", "side", "start", "land"]
theorem b72 {G : Gx} {Γ : Ev} {X : Cx} {W : WX} {j : Nat} (C : Ct G Γ tb ⟨N72, sc72, true⟩ X W j) (O : Ow X) : PSs X bd72 (rdS G Γ W ir72) :=
  (ds_cons (ds_ex (de_call C (by rfl) (by decide +kernel) (da_cons (de_var C (by decide +kernel)) (da_cons (de_var C (by decide +kernel)) da_nil (by rfl)) (by rfl)) (by rfl)) (by rfl))
  (ds_cons (ds_ex (de_call C (by rfl) (by decide +kernel) (da_cons (de_var C (by decide +kernel)) (da_cons (de_con C (by decide +kernel) (by rfl)) da_nil (by rfl)) (by rfl)) (by rfl)) (by rfl))
  (ds_cons (ds_setf C (by decide +kernel) (de_var C (by decide +kernel)) (de_tup (da_cons (de_var C (by decide +kernel)) (da_cons (de_var C (by decide +kernel)) (da_cons (de_var C (by decide +kernel)) da_nil (by rfl)) (by rfl)) (by rfl))) (by rfl))
  (ds_cons (ds_seto C (by decide +kernel) (de_var C (by decide +kernel)) da_nil (by rfl))
  (ds_one (ds_seto C (by decide +kernel) (de_var C (by decide +kernel)) (da_cons (de_tup (da_cons (de_call C (by rfl) (by decide +kernel) (da_cons (de_var C (by decide +kernel)) (da_cons (de_var C (by decide +kernel)) da_nil (by rfl)) (by rfl)) (by rfl)) (da_cons de_int da_nil (by rfl)) (by rfl))) da_nil (by rfl)) (by rfl)))))))
def N83 : List Str := ["text", "lines", "head", "side", "start", "steps", "at", "row"]
theorem b83 {G : Gx} {Γ : Ev} {X : Cx} {W : WX} {j : Nat} (C : Ct G Γ tb ⟨N83, sc83, true⟩ X W j) (O : Ow X) : PSs X bd83 (rdS G Γ W ir83) :=
  (ds_cons (ds_set C (by decide +kernel) (de_split C (de_var C (by decide +kernel)) de_str (by rfl) (by rfl) (by rfl)) (by rfl))
  (ds_cons (ds_if (dt_cmp C (o := .eq) (de_bi C (b := .len) (by decide +kernel) (by decide +kernel) (da_cons (de_var C (by decide +kernel)) da_nil (by rfl)) (by rfl)) de_int (by rfl))
  (ds_one (ds_rais1 C (by decide +kernel) (by decide +kernel) (da_cons de_int (da_cons de_int da_nil (by rfl)) (by rfl)) (by rfl)))
  ds_nil)
  (ds_cons (ds_set C (by decide +kernel) (de_mkc C (by rfl) (by rfl) (by decide +kernel) (da_cons de_int (da_cons (de_ix C (de_var C (by decide +kernel)) de_int (by rfl)) da_nil (by rfl)) (by rfl)) (by rfl)) (by rfl))
  (ds_cons (ds_set C (by decide +kernel) (de_meth C (by rfl) (by rfl) (de_var C (by decide +kernel)) (da_cons (de_bi C (b := .list) (by decide +kernel) (by decide +kernel) (da_cons (de_con C (by decide +kernel) (by rfl)) da_nil (by rfl)) (by rfl)) da_nil (by rfl)) (by rfl) (by rfl)) (by rfl))
  (ds_cons (ds_set C (by decide +kernel) (de_tup (da_cons (de_meth C (by rfl) (by rfl) (de_var C (by decide +kernel)) (da_cons (de_bi C (b := .list) (by decide +kernel) (by decide +kernel) (da_cons (de_con C (by decide +kernel) (by rfl)) da_nil (by rfl)) (by rfl)) da_nil (by rfl)) (by rfl) (by rfl)) (da_cons (de_meth C (by rfl) (by rfl) (de_var C (by decide +kernel)) (da_cons (de_neg (de_con C (by decide +kernel) (by rfl))) (da_cons (de_con C (by decide +kernel) (by rfl)) da_nil (by rfl)) (by rfl)) (by rfl) (by rfl)) da_nil (by rfl)) (by rfl))) (by rfl))
  (ds_cons (ds_ex (de_meth0 C (by rfl) (by rfl) (de_var C (by decide +kernel)) (by rfl)) (by rfl))
  (ds_cons (ds_set C (by decide +kernel) (de_cel da_nil) (by rfl))
  (ds_cons (ds_for O.po C.calm (di_enum C (by decide +kernel) (by decide +kernel) (de_sl C (de_var C (by decide +kernel)) (do_some de_int) (do_some (de_neg de_int))) (by rfl)) (dg_tup C (dgs_cons C (by decide +kernel) (dgs_cons C (by decide +kernel) dgs_nil)) (by decide) (by rfl) (by rfl))
  (ds_cons (ds_if (dt_cmp C (o := .eq) (de_var C (by decide +kernel)) (de_con C (by decide +kernel) (by rfl)) (by rfl))
  (ds_one (ds_rais1 C (by decide +kernel) (by decide +kernel) (da_cons (de_bop C (o := .add) (de_var C (by decide +kernel)) de_int) (da_cons de_int da_nil (by rfl)) (by rfl)) (by rfl)))
  ds_nil)
  (ds_one (ds_ex (de_app C (de_var C (by decide +kernel)) (de_call C (by rfl) (by decide +kernel) (da_cons (de_mkc C (by rfl) (by rfl) (by decide +kernel) (da_cons (de_bop C (o := .add) (de_var C (by decide +kernel)) de_int) (da_cons (de_var C (by decide +kernel)) da_nil (by rfl)) (by rfl)) (by rfl)) da_nil (by rfl)) (by rfl)) (by rfl) (by rfl) (by rfl)) (by rfl)))) (by rfl))
  (ds_cons (ds_if (dt_cmp C (o := .ne) (de_ix C (de_var C (by decide +kernel)) (de_neg de_int) (by rfl)) de_str (by rfl))
  (ds_one (ds_rais1 C (by decide +kernel) (by decide +kernel) (da_cons (de_bi C (b := .len) (by decide +kernel) (by decide +kernel) (da_cons (de_var C (by decide +kernel)) da_nil (by rfl)) (by rfl)) (da_cons de_int da_nil (by rfl)) (by rfl)) (by rfl)))
  ds_nil)
  (dss_frz (ds_one (ds_ret (de_mkd C (by rfl) (by rfl) (by decide +kernel) (da_cons (de_var C (by decide +kernel)) (da_cons (de_var C (by decide +kernel)) (da_cons (de_bi C (b := .tuple) (by decide +kernel) (by decide +kernel) (da_cons (de_var C (by decide +kernel)) da_nil (by rfl)) (by rfl)) da_nil (by rfl)) (by rfl)) (by rfl)) (by rfl))))))))))))))
def N85 : List Str := ["_law_script", "_law_d", "_law_known"]
theorem b85 {G : Gx} {Γ : Ev} {X : Cx} {W : WX} {j : Nat} (C : Ct G Γ tb ⟨N85, sc85, true⟩ X W j) (O : Ow X) : PSs X bd85 (rdS G Γ W ir85) :=
  (ds_cons (ds_set C (by decide +kernel) (de_call C (by rfl) (by decide +kernel) (da_cons (de_var C (by decide +kernel)) (da_cons de_int da_nil (by rfl)) (by rfl)) (by rfl)) (by rfl))
  (ds_cons (ds_set C (by decide +kernel) (de_call C (by rfl) (by decide +kernel) (da_cons (de_var C (by decide +kernel)) (da_cons de_int da_nil (by rfl)) (by rfl)) (by rfl)) (by rfl))
  (ds_cons (ds_if (dt_cmp C (o := .eq) (de_var C (by decide +kernel)) de_int (by rfl))
  (ds_one (ds_ret (de_call0 C (by rfl) (by decide +kernel))))
  ds_nil)
  (ds_cons (ds_if (dt_cmp C (o := .eq) (de_var C (by decide +kernel)) de_int (by rfl))
  (ds_one (ds_ret (de_call0 C (by rfl) (by decide +kernel))))
  ds_nil)
  (ds_one (ds_ret (de_ite (dt_cmp C (o := .eq) (de_var C (by decide +kernel)) de_int (by rfl)) (de_call0 C (by rfl) (by decide +kernel)) (de_call0 C (by rfl) (by decide +kernel)))))))))
def N86 : List Str := ["_law_drive", "_law_many", "_law_over", "_law_told"]
theorem b86 {G : Gx} {Γ : Ev} {X : Cx} {W : WX} {j : Nat} (C : Ct G Γ tb ⟨N86, sc86, true⟩ X W j) (O : Ow X) : PSs X bd86 (rdS G Γ W ir86) :=
  (ds_cons (ds_set C (by decide +kernel) (de_mkd C (by rfl) (by rfl) (by decide +kernel) (da_cons de_str (da_cons (de_tup (da_cons de_str (da_cons de_int da_nil (by rfl)) (by rfl))) (da_cons (de_tup (da_cons (de_tup (da_cons de_str (da_cons de_int da_nil (by rfl)) (by rfl))) (da_cons (de_tup (da_cons de_str (da_cons de_int da_nil (by rfl)) (by rfl))) (da_cons (de_tup (da_cons de_str da_nil (by rfl))) da_nil (by rfl)) (by rfl)) (by rfl))) da_nil (by rfl)) (by rfl)) (by rfl)) (by rfl)) (by rfl))
  (ds_cons (ds_set C (by decide +kernel) (de_bop C (o := .pow) de_int de_int) (by rfl))
  (ds_cons (ds_if (PW.pt (dt_or (dt_cmp C (o := .ne) (de_call C (by rfl) (by decide +kernel) (da_cons (de_var C (by decide +kernel)) (da_cons (de_tup (da_cons de_int (da_cons de_int da_nil (by rfl)) (by rfl))) da_nil (by rfl)) (by rfl)) (by rfl)) (de_lst (da_cons (de_tup (da_cons de_str (da_cons de_int da_nil (by rfl)) (by rfl))) (da_cons (de_tup (da_cons de_str (da_cons de_int da_nil (by rfl)) (by rfl))) (da_cons (de_tup (da_cons de_str (da_cons de_int da_nil (by rfl)) (by rfl))) (da_cons (de_tup (da_cons de_str (da_cons de_int da_nil (by rfl)) (by rfl))) da_nil (by rfl)) (by rfl)) (by rfl)) (by rfl))) (by rfl)) (pw_or1 (dt_cmp C (o := .ne) (de_call C (by rfl) (by decide +kernel) (da_cons (de_var C (by decide +kernel)) (da_cons (de_tup (da_cons de_int (da_cons de_int da_nil (by rfl)) (by rfl))) da_nil (by rfl)) (by rfl)) (by rfl)) de_int (by rfl)))))
  (ds_one (ds_ret de_bl))
  ds_nil)
  (ds_cons (ds_if (PW.pt (dt_or (dt_cmp C (o := .ne) (de_call C (by rfl) (by decide +kernel) (da_cons (de_var C (by decide +kernel)) (da_cons (de_tup (da_cons (de_var C (by decide +kernel)) (da_cons de_int da_nil (by rfl)) (by rfl))) da_nil (by rfl)) (by rfl)) (by rfl)) (de_tup (da_cons de_str (da_cons de_int da_nil (by rfl)) (by rfl))) (by rfl)) (pw_or1 (dt_cmp C (o := .ne) (de_call C (by rfl) (by decide +kernel) (da_cons (de_var C (by decide +kernel)) (da_cons (de_tup (da_cons (de_var C (by decide +kernel)) (da_cons de_int da_nil (by rfl)) (by rfl))) da_nil (by rfl)) (by rfl)) (by rfl)) (de_bop C (o := .sub) (de_bop C (o := .mul) de_int (de_var C (by decide +kernel))) de_int) (by rfl)))))
  (ds_one (ds_ret de_bl))
  ds_nil)
  (ds_cons (ds_set C (by decide +kernel) (de_mkd C (by rfl) (by rfl) (by decide +kernel) (da_cons de_str (da_cons (de_tup (da_cons de_str (da_cons (de_neg de_int) da_nil (by rfl)) (by rfl))) (da_cons (de_tup (da_cons (de_tup (da_cons de_str (da_cons de_int da_nil (by rfl)) (by rfl))) (da_cons (de_tup (da_cons de_str (da_cons de_int da_nil (by rfl)) (by rfl))) da_nil (by rfl)) (by rfl))) da_nil (by rfl)) (by rfl)) (by rfl)) (by rfl)) (by rfl))
  (ds_cons (ds_if (PW.pt (dt_or (dt_cmp C (o := .ne) (de_call C (by rfl) (by decide +kernel) (da_cons (de_var C (by decide +kernel)) (da_cons (de_tup (da_cons de_int (da_cons de_int da_nil (by rfl)) (by rfl))) da_nil (by rfl)) (by rfl)) (by rfl)) (de_lst (da_cons (de_tup (da_cons de_str (da_cons de_int da_nil (by rfl)) (by rfl))) (da_cons (de_tup (da_cons de_str (da_cons de_int da_nil (by rfl)) (by rfl))) (da_cons (de_tup (da_cons de_str (da_cons de_int da_nil (by rfl)) (by rfl))) da_nil (by rfl)) (by rfl)) (by rfl))) (by rfl)) (pw_or1 (dt_cmp C (o := .ne) (de_call C (by rfl) (by decide +kernel) (da_cons (de_var C (by decide +kernel)) (da_cons (de_tup (da_cons de_int (da_cons de_int da_nil (by rfl)) (by rfl))) da_nil (by rfl)) (by rfl)) (by rfl)) (de_tup (da_cons de_str (da_cons de_int da_nil (by rfl)) (by rfl))) (by rfl)))))
  (ds_one (ds_ret de_bl))
  ds_nil)
  (ds_cons (ds_if (dt_cmp C (o := .ne) (de_call C (by rfl) (by decide +kernel) (da_cons (de_mkd C (by rfl) (by rfl) (by decide +kernel) (da_cons de_str (da_cons (de_tup (da_cons de_str (da_cons de_int da_nil (by rfl)) (by rfl))) (da_cons (de_tup (da_cons (de_tup (da_cons de_str (da_cons de_int da_nil (by rfl)) (by rfl))) (da_cons (de_tup (da_cons de_str (da_cons de_int da_nil (by rfl)) (by rfl))) da_nil (by rfl)) (by rfl))) da_nil (by rfl)) (by rfl)) (by rfl)) (by rfl)) (da_cons (de_tup (da_cons de_int (da_cons de_int da_nil (by rfl)) (by rfl))) da_nil (by rfl)) (by rfl)) (by rfl)) (de_tup (da_cons de_str (da_cons de_int da_nil (by rfl)) (by rfl))) (by rfl))
  (ds_one (ds_ret de_bl))
  ds_nil)
  (ds_cons (ds_set C (by decide +kernel) (de_lst (da_cons (de_call C (by rfl) (by decide +kernel) (da_cons (de_var C (by decide +kernel)) da_nil (by rfl)) (by rfl)) (da_cons (de_call C (by rfl) (by decide +kernel) (da_cons (de_var C (by decide +kernel)) da_nil (by rfl)) (by rfl)) (da_cons (de_call C (by rfl) (by decide +kernel) (da_cons (de_mkd C (by rfl) (by rfl) (by decide +kernel) (da_cons de_str (da_cons (de_tup (da_cons de_str (da_cons de_int da_nil (by rfl)) (by rfl))) (da_cons (de_tup (da_cons (de_tup (da_cons de_str (da_cons de_int da_nil (by rfl)) (by rfl))) (da_cons (de_tup (da_cons de_str (da_cons de_int da_nil (by rfl)) (by rfl))) da_nil (by rfl)) (by rfl))) da_nil (by rfl)) (by rfl)) (by rfl)) (by rfl)) da_nil (by rfl)) (by rfl)) da_nil (by rfl)) (by rfl)) (by rfl))) (by rfl))
  (ds_one (ds_ret (de_cmp C (o := .eq) (de_var C (by decide +kernel)) (de_lst (da_cons de_int (da_cons (de_tup (da_cons de_str (da_cons de_int (da_cons (de_tup (da_cons (de_neg de_int) (da_cons de_int (da_cons de_int da_nil (by rfl)) (by rfl)) (by rfl))) da_nil (by rfl)) (by rfl)) (by rfl))) (da_cons (de_tup (da_cons de_str (da_cons (de_neg de_int) (da_cons (de_tup (da_cons de_int (da_cons de_int (da_cons de_int da_nil (by rfl)) (by rfl)) (by rfl))) da_nil (by rfl)) (by rfl)) (by rfl))) da_nil (by rfl)) (by rfl)) (by rfl))) (by rfl))))))))))))
def N87 : List Str := ["_law_one", "_law_other", "_law_two", "_law_twice", "_law_here", "_law_there"]
theorem b87 {G : Gx} {Γ : Ev} {X : Cx} {W : WX} {j : Nat} (C : Ct G Γ tb ⟨N87, sc87, true⟩ X W j) (O : Ow X) : PSs X bd87 (rdS G Γ W ir87) :=
  (ds_cons (ds_par2 C (by decide +kernel) (by decide +kernel) (by decide) (da_cons (de_mkd C (by rfl) (by rfl) (by decide +kernel) (da_cons de_str (da_cons (de_tup (da_cons de_str (da_cons de_int da_nil (by rfl)) (by rfl))) (da_cons (de_tup (da_cons (de_tup (da_cons de_str (da_cons de_int da_nil (by rfl)) (by rfl))) da_nil (by rfl))) da_nil (by rfl)) (by rfl)) (by rfl)) (by rfl)) (da_cons (de_mkd C (by rfl) (by rfl) (by decide +kernel) (da_cons de_str (da_cons (de_tup (da_cons de_str (da_cons de_int da_nil (by rfl)) (by rfl))) (da_cons (de_tup (da_cons (de_tup (da_cons de_str (da_cons de_int da_nil (by rfl)) (by rfl))) da_nil (by rfl))) da_nil (by rfl)) (by rfl)) (by rfl)) (by rfl)) da_nil (by rfl)) (by rfl)) (by rw [sw_env C]; rfl) (by rfl))
  (ds_cons (ds_set C (by decide +kernel) (de_mkd C (by rfl) (by rfl) (by decide +kernel) (da_cons de_str (da_cons (de_tup (da_cons de_str (da_cons de_int da_nil (by rfl)) (by rfl))) (da_cons (de_tup (da_cons (de_tup (da_cons de_str (da_cons de_int da_nil (by rfl)) (by rfl))) da_nil (by rfl))) da_nil (by rfl)) (by rfl)) (by rfl)) (by rfl)) (by rfl))
  (ds_cons (ds_if (dt_cmp C (o := .ne) (de_lst (da_cons (de_call C (by rfl) (by decide +kernel) (da_cons (de_var C (by decide +kernel)) (da_cons (de_var C (by decide +kernel)) (da_cons (de_tup (da_cons de_int (da_cons de_int da_nil (by rfl)) (by rfl))) da_nil (by rfl)) (by rfl)) (by rfl)) (by rfl)) (da_cons (de_call C (by rfl) (by decide +kernel) (da_cons (de_var C (by decide +kernel)) (da_cons (de_tup (da_cons (de_tup (da_cons de_str (da_cons de_int da_nil (by rfl)) (by rfl))) da_nil (by rfl))) (da_cons (de_tup (da_cons de_int (da_cons de_int da_nil (by rfl)) (by rfl))) da_nil (by rfl)) (by rfl)) (by rfl)) (by rfl)) da_nil (by rfl)) (by rfl))) (de_lst (da_cons (de_tup (da_cons de_int (da_cons de_int da_nil (by rfl)) (by rfl))) (da_cons (de_tup (da_cons de_int (da_cons de_int da_nil (by rfl)) (by rfl))) da_nil (by rfl)) (by rfl))) (by rfl))
  (ds_one (ds_ret de_bl))
  ds_nil)
  (ds_cons (ds_set C (by decide +kernel) (de_mkd C (by rfl) (by rfl) (by decide +kernel) (da_cons de_str (da_cons (de_tup (da_cons de_str (da_cons de_int da_nil (by rfl)) (by rfl))) (da_cons (de_tup (da_cons (de_tup (da_cons de_str da_nil (by rfl))) (da_cons (de_tup (da_cons de_str (da_cons de_int da_nil (by rfl)) (by rfl))) da_nil (by rfl)) (by rfl))) da_nil (by rfl)) (by rfl)) (by rfl)) (by rfl)) (by rfl))
  (ds_cons (ds_if (PW.pt (dt_or (dt_cmp C (o := .isn) (de_call C (by rfl) (by decide +kernel) (da_cons (de_var C (by decide +kernel)) (da_cons (de_tup (da_cons (de_tup (da_cons de_str (da_cons de_int da_nil (by rfl)) (by rfl))) da_nil (by rfl))) (da_cons (de_tup (da_cons de_int (da_cons de_int da_nil (by rfl)) (by rfl))) da_nil (by rfl)) (by rfl)) (by rfl)) (by rfl)) de_non (by rfl)) (pw_or1 (dt_cmp C (o := .ne) (de_call C (by rfl) (by decide +kernel) (da_cons (de_var C (by decide +kernel)) (da_cons (de_tup (da_cons de_int (da_cons de_int da_nil (by rfl)) (by rfl))) da_nil (by rfl)) (by rfl)) (by rfl)) (de_lst (da_cons de_int da_nil (by rfl))) (by rfl)))))
  (ds_one (ds_ret de_bl))
  ds_nil)
  (ds_cons (ds_if (dt_cmp C (o := .ne) (de_lst (da_cons (de_call C (by rfl) (by decide +kernel) (da_cons (de_var C (by decide +kernel)) (da_cons (de_tup (da_cons de_int (da_cons de_int da_nil (by rfl)) (by rfl))) da_nil (by rfl)) (by rfl)) (by rfl)) (da_cons (de_call C (by rfl) (by decide +kernel) (da_cons (de_var C (by decide +kernel)) (da_cons (de_tup (da_cons de_int (da_cons de_int da_nil (by rfl)) (by rfl))) da_nil (by rfl)) (by rfl)) (by rfl)) da_nil (by rfl)) (by rfl))) (de_lst (da_cons (de_lst da_nil) (da_cons (de_lst (da_cons de_int da_nil (by rfl))) da_nil (by rfl)) (by rfl))) (by rfl))
  (ds_one (ds_ret de_bl))
  ds_nil)
  (ds_cons (ds_par2 C (by decide +kernel) (by decide +kernel) (by decide) (da_cons (de_mkd C (by rfl) (by rfl) (by decide +kernel) (da_cons de_str (da_cons (de_tup (da_cons de_str (da_cons de_int da_nil (by rfl)) (by rfl))) (da_cons (de_tup (da_cons (de_tup (da_cons de_str (da_cons de_int da_nil (by rfl)) (by rfl))) da_nil (by rfl))) da_nil (by rfl)) (by rfl)) (by rfl)) (by rfl)) (da_cons (de_mkd C (by rfl) (by rfl) (by decide +kernel) (da_cons de_str (da_cons (de_tup (da_cons de_str (da_cons de_int da_nil (by rfl)) (by rfl))) (da_cons (de_tup (da_cons (de_tup (da_cons de_str da_nil (by rfl))) da_nil (by rfl))) da_nil (by rfl)) (by rfl)) (by rfl)) (by rfl)) da_nil (by rfl)) (by rfl)) (by rw [sw_env C]; rfl) (by rfl))
  (ds_one (ds_ret (de_cmp C (o := .eq) (de_call C (by rfl) (by decide +kernel) (da_cons (de_var C (by decide +kernel)) (da_cons (de_var C (by decide +kernel)) (da_cons (de_tup (da_cons de_int (da_cons de_int da_nil (by rfl)) (by rfl))) da_nil (by rfl)) (by rfl)) (by rfl)) (by rfl)) (de_tup (da_cons (de_tup (da_cons de_int (da_cons de_int da_nil (by rfl)) (by rfl))) (da_cons de_non da_nil (by rfl)) (by rfl))) (by rfl)))))))))))
def N88 : List Str := ["_law_one", "_law_two"]
theorem b88 {G : Gx} {Γ : Ev} {X : Cx} {W : WX} {j : Nat} (C : Ct G Γ tb ⟨N88, sc88, true⟩ X W j) (O : Ow X) : PSs X bd88 (rdS G Γ W ir88) :=
  (ds_cons (ds_set C (by decide +kernel) (de_mkd C (by rfl) (by rfl) (by decide +kernel) (da_cons de_str (da_cons (de_tup (da_cons de_str (da_cons de_int da_nil (by rfl)) (by rfl))) (da_cons (de_tup (da_cons (de_tup (da_cons de_str (da_cons de_int da_nil (by rfl)) (by rfl))) da_nil (by rfl))) da_nil (by rfl)) (by rfl)) (by rfl)) (by rfl)) (by rfl))
  (ds_cons (ds_if (dt_cmp C (o := .ne) (de_lst (da_cons (de_call C (by rfl) (by decide +kernel) (da_cons (de_var C (by decide +kernel)) (da_cons (de_tup (da_cons de_int (da_cons de_int da_nil (by rfl)) (by rfl))) da_nil (by rfl)) (by rfl)) (by rfl)) (da_cons (de_call C (by rfl) (by decide +kernel) (da_cons (de_var C (by decide +kernel)) (da_cons (de_tup (da_cons de_int (da_cons de_int da_nil (by rfl)) (by rfl))) da_nil (by rfl)) (by rfl)) (by rfl)) (da_cons (de_call C (by rfl) (by decide +kernel) (da_cons (de_mkd C (by rfl) (by rfl) (by decide +kernel) (da_cons de_str (da_cons (de_tup (da_cons de_str (da_cons de_int da_nil (by rfl)) (by rfl))) (da_cons (de_tup da_nil) da_nil (by rfl)) (by rfl)) (by rfl)) (by rfl)) (da_cons (de_tup (da_cons de_int (da_cons de_int da_nil (by rfl)) (by rfl))) da_nil (by rfl)) (by rfl)) (by rfl)) da_nil (by rfl)) (by rfl)) (by rfl))) (de_lst (da_cons de_int (da_cons de_int (da_cons de_int da_nil (by rfl)) (by rfl)) (by rfl))) (by rfl))
  (ds_one (ds_ret de_bl))
  ds_nil)
  (ds_cons (ds_set C (by decide +kernel) (de_mkd C (by rfl) (by rfl) (by decide +kernel) (da_cons de_str (da_cons (de_tup (da_cons de_str (da_cons de_int da_nil (by rfl)) (by rfl))) (da_cons (de_tup (da_cons (de_tup (da_cons de_str (da_cons de_int da_nil (by rfl)) (by rfl))) da_nil (by rfl))) da_nil (by rfl)) (by rfl)) (by rfl)) (by rfl)) (by rfl))
  (ds_cons (ds_if (dt_cmp C (o := .ne) (de_call C (by rfl) (by decide +kernel) (da_cons (de_lst (da_cons (de_tup (da_cons (de_var C (by decide +kernel)) (da_cons (de_tup (da_cons de_str (da_cons de_int da_nil (by rfl)) (by rfl))) da_nil (by rfl)) (by rfl))) da_nil (by rfl))) (da_cons de_int da_nil (by rfl)) (by rfl)) (by rfl)) (de_lst (da_cons (de_tup (da_cons de_int (da_cons de_int da_nil (by rfl)) (by rfl))) (da_cons (de_tup (da_cons de_int (da_cons de_int da_nil (by rfl)) (by rfl))) (da_cons (de_tup (da_cons de_int (da_cons de_int da_nil (by rfl)) (by rfl))) da_nil (by rfl)) (by rfl)) (by rfl))) (by rfl))
  (ds_one (ds_ret de_bl))
  ds_nil)
  (ds_one (ds_ret (de_cmp C (o := .eq) (de_call C (by rfl) (by decide +kernel) (da_cons (de_lst da_nil) (da_cons (de_lst (da_cons (de_mkd C (by rfl) (by rfl) (by decide +kernel) (da_cons de_str (da_cons (de_tup (da_cons de_str (da_cons de_int da_nil (by rfl)) (by rfl))) (da_cons (de_tup da_nil) da_nil (by rfl)) (by rfl)) (by rfl)) (by rfl)) (da_cons (de_mkd C (by rfl) (by rfl) (by decide +kernel) (da_cons de_str (da_cons (de_tup (da_cons de_str (da_cons de_int da_nil (by rfl)) (by rfl))) (da_cons (de_tup (da_cons (de_tup (da_cons de_str (da_cons de_int da_nil (by rfl)) (by rfl))) da_nil (by rfl))) da_nil (by rfl)) (by rfl)) (by rfl)) (by rfl)) da_nil (by rfl)) (by rfl))) (da_cons de_int da_nil (by rfl)) (by rfl)) (by rfl)) (by rfl)) de_int (by rfl))))))))
def N89 : List Str := ["_law_car_here", "_law_drive"]
theorem b89 {G : Gx} {Γ : Ev} {X : Cx} {W : WX} {j : Nat} (C : Ct G Γ tb ⟨N89, sc89, true⟩ X W j) (O : Ow X) : PSs X bd89 (rdS G Γ W ir89) :=
  (ds_cons (ds_set C (by decide +kernel) (de_mkc C (by rfl) (by rfl) (by decide +kernel) (da_cons de_str (da_cons (de_tup (da_cons de_str (da_cons de_int da_nil (by rfl)) (by rfl))) (da_cons (de_tup (da_cons de_int (da_cons de_int da_nil (by rfl)) (by rfl))) da_nil (by rfl)) (by rfl)) (by rfl)) (by rfl)) (by rfl))
  (ds_cons (ds_if (dt_cmp C (o := .ne) (de_lst (da_cons (de_meth C (by rfl) (by rfl) (de_var C (by decide +kernel)) (da_cons (de_tup (da_cons de_str (da_cons de_int da_nil (by rfl)) (by rfl))) da_nil (by rfl)) (by rfl) (by rfl)) (da_cons (de_meth C (by rfl) (by rfl) (de_var C (by decide +kernel)) (da_cons (de_tup (da_cons de_str (da_cons de_int da_nil (by rfl)) (by rfl))) da_nil (by rfl)) (by rfl) (by rfl)) (da_cons (de_meth0 C (by rfl) (by rfl) (de_var C (by decide +kernel)) (by rfl)) (da_cons (de_meth0 C (by rfl) (by rfl) (de_var C (by decide +kernel)) (by rfl)) da_nil (by rfl)) (by rfl)) (by rfl)) (by rfl))) (de_lst (da_cons (de_tup (da_cons de_str (da_cons de_int da_nil (by rfl)) (by rfl))) (da_cons (de_tup (da_cons de_str (da_cons de_int da_nil (by rfl)) (by rfl))) (da_cons de_int (da_cons de_bl da_nil (by rfl)) (by rfl)) (by rfl)) (by rfl))) (by rfl))
  (ds_one (ds_ret de_bl))
  ds_nil)
  (ds_cons (ds_if (dt_cmp C (o := .ne) (de_lst (da_cons (de_meth0 C (by rfl) (by rfl) (de_var C (by decide +kernel)) (by rfl)) (da_cons (de_leno C (by rfl) (by rfl) (by decide +kernel) (by decide +kernel) (de_var C (by decide +kernel)) (by rfl)) (da_cons (de_prop C (by decide) (by decide +kernel) (de_meth0 C (by rfl) (by rfl) (de_var C (by decide +kernel)) (by rfl)) (by rfl)) da_nil (by rfl)) (by rfl)) (by rfl))) (de_lst (da_cons (de_tup (da_cons de_str (da_cons de_int da_nil (by rfl)) (by rfl))) (da_cons de_int (da_cons (de_tup (da_cons (de_tup (da_cons de_str (da_cons de_int da_nil (by rfl)) (by rfl))) da_nil (by rfl))) da_nil (by rfl)) (by rfl)) (by rfl))) (by rfl))
  (ds_one (ds_ret de_bl))
  ds_nil)
  (ds_cons (ds_set C (by decide +kernel) (de_mkd C (by rfl) (by rfl) (by decide +kernel) (da_cons de_str (da_cons (de_tup (da_cons de_str (da_cons (de_neg de_int) da_nil (by rfl)) (by rfl))) (da_cons (de_tup (da_cons (de_tup (da_cons de_str (da_cons de_int da_nil (by rfl)) (by rfl))) (da_cons (de_tup (da_cons de_str da_nil (by rfl))) da_nil (by rfl)) (by rfl))) da_nil (by rfl)) (by rfl)) (by rfl)) (by rfl)) (by rfl))
  (ds_one (ds_ret (de_and (de_cmp C (o := .eq) (de_call C (by rfl) (by decide +kernel) (da_cons (de_var C (by decide +kernel)) da_nil (by rfl)) (by rfl)) de_str (by rfl)) (pe_one (de_eqo C (by rfl) (by rfl) (de_call C (by rfl) (by decide +kernel) (da_cons (de_call C (by rfl) (by decide +kernel) (da_cons (de_var C (by decide +kernel)) da_nil (by rfl)) (by rfl)) da_nil (by rfl)) (by rfl)) (de_var C (by decide +kernel)) (by rfl))))))))))
def N90 : List Str := ["self"]
theorem b90 {G : Gx} {Γ : Ev} {X : Cx} {W : WX} {j : Nat} (C : Ct G Γ tb ⟨N90, sc90, true⟩ X W j) (O : Ow X) : PSs X bd90 (rdS G Γ W ir90) :=
  (ds_one (ds_ret (de_flen C (by decide +kernel) (by decide +kernel) (by decide +kernel) (de_var C (by decide +kernel)) (by rfl))))
def N92 : List Str := ["self", "other"]
theorem b92 {G : Gx} {Γ : Ev} {X : Cx} {W : WX} {j : Nat} (C : Ct G Γ tb ⟨N92, sc92, true⟩ X W j) (O : Ow X) : PSs X bd92 (rdS G Γ W ir92) :=
  (ds_one (ds_ret (de_and (de_isv C (by rfl) (by decide +kernel) (by decide +kernel) (by decide +kernel) (de_var C (by decide +kernel)) (by rfl)) (pe_one (de_cmp C (o := .eq) (de_fld C (by decide +kernel) (de_var C (by decide +kernel)) (by rfl)) (de_fld C (by decide +kernel) (de_var C (by decide +kernel)) (by rfl)) (by rfl))))))
def N93 : List Str := ["one", "other", "land", "here", "there", "left", "right"]
theorem b93 {G : Gx} {Γ : Ev} {X : Cx} {W : WX} {j : Nat} (C : Ct G Γ tb ⟨N93, sc93, true⟩ X W j) (O : Ow X) : PSs X bd93 (rdS G Γ W ir93) :=
  (ds_cons (ds_set C (by decide +kernel) (de_call C (by rfl) (by decide +kernel) (da_cons (de_prop C (by decide) (by decide +kernel) (de_var C (by decide +kernel)) (by rfl)) (da_cons (de_prop C (by decide) (by decide +kernel) (de_var C (by decide +kernel)) (by rfl)) (da_cons (de_prop C (by decide) (by decide +kernel) (de_var C (by decide +kernel)) (by rfl)) (da_cons (de_var C (by decide +kernel)) da_nil (by rfl)) (by rfl)) (by rfl)) (by rfl)) (by rfl)) (by rfl))
  (ds_cons (ds_set C (by decide +kernel) (de_call C (by rfl) (by decide +kernel) (da_cons (de_prop C (by decide) (by decide +kernel) (de_var C (by decide +kernel)) (by rfl)) (da_cons (de_prop C (by decide) (by decide +kernel) (de_var C (by decide +kernel)) (by rfl)) (da_cons (de_prop C (by decide) (by decide +kernel) (de_var C (by decide +kernel)) (by rfl)) (da_cons (de_var C (by decide +kernel)) da_nil (by rfl)) (by rfl)) (by rfl)) (by rfl)) (by rfl)) (by rfl))
  (ds_one (ds_ret (de_bi C (b := .any) (by decide +kernel) (by decide +kernel) (da_cons (de_lc C (own := [("left", 5), ("right", 6)]) (by decide +kernel) (by decide) (by rfl) (di_zip C (by decide +kernel) (by decide +kernel) (de_var C (by decide +kernel)) (by rfl) (de_var C (by decide +kernel)) (by rfl)) (fun C1 => (dg_tup C1 (dgs_cons C1 (by decide +kernel) (dgs_cons C1 (by decide +kernel) dgs_nil)) (by decide) (by rfl) (by rfl))) (fun C1 => dts_nil) (fun C1 => (de_cmp C1 (o := .eq) (de_var C1 (by decide +kernel)) (de_var C1 (by decide +kernel)) (by rfl)))) da_nil (by rfl)) (by rfl))))))
def N94 : List Str := ["self"]
theorem b94 {G : Gx} {Γ : Ev} {X : Cx} {W : WX} {j : Nat} (C : Ct G Γ tb ⟨N94, sc94, true⟩ X W j) (O : Ow X) : PSs X bd94 (rdS G Γ W ir94) :=
  (ds_cons (ds_if (dt_feq0 C (by decide +kernel) (de_var C (by decide +kernel)) (by rfl))
  (ds_one (ds_ret de_bl))
  ds_nil)
  (ds_cons (ds_ex (de_fpop C (by decide +kernel) (de_var C (by decide +kernel)) (by rfl) (by rfl) (by rfl)) (by rfl))
  (ds_cons (ds_ex (de_fpop C (by decide +kernel) (de_var C (by decide +kernel)) (by rfl) (by rfl) (by rfl)) (by rfl))
  (ds_one (ds_ret de_bl)))))
def N95 : List Str := ["self", "step", "side", "start", "land", "here", "many"]
theorem b95 {G : Gx} {Γ : Ev} {X : Cx} {W : WX} {j : Nat} (C : Ct G Γ tb ⟨N95, sc95, true⟩ X W j) (O : Ow X) : PSs X bd95 (rdS G Γ W ir95) :=
  (ds_cons (ds_if (dt_not (dt_v (de_call C (by rfl) (by decide +kernel) (da_cons (de_var C (by decide +kernel)) da_nil (by rfl)) (by rfl)) (by rfl) he_call))
  (ds_one (ds_rais1 C (by decide +kernel) (by decide +kernel) (da_cons de_int da_nil (by rfl)) (by rfl)))
  ds_nil)
  (ds_cons (ds_asg (dg_tup C (dgs_cons C (by decide +kernel) (dgs_cons C (by decide +kernel) (dgs_cons C (by decide +kernel) dgs_nil))) (by decide) (by rfl) (by rfl)) (de_fld C (by decide +kernel) (de_var C (by decide +kernel)) (by rfl)) (by rfl) (by rw [sw_env C]; rfl) (by rfl))
  (ds_cons (ds_asg (dg_tup C (dgs_cons C (by decide +kernel) (dgs_cons C (by decide +kernel) dgs_nil)) (by decide) (by rfl) (by rfl)) (de_fix C (by decide +kernel) (de_var C (by decide +kernel)) (de_neg de_int) (by rfl) (by rfl)) (by rfl) (by rw [sw_env C]; rfl) (by rfl))
  (ds_cons (ds_ex (de_fapp C (by decide +kernel) (de_var C (by decide +kernel)) (de_tup (da_cons (de_call C (by rfl) (by decide +kernel) (da_cons (de_var C (by decide +kernel)) (da_cons (de_var C (by decide +kernel)) (da_cons (de_var C (by decide +kernel)) (da_cons (de_var C (by decide +kernel)) da_nil (by rfl)) (by rfl)) (by rfl)) (by rfl)) (by rfl)) (da_cons (de_bop C (o := .add) (de_var C (by decide +kernel)) (de_call C (by rfl) (by decide +kernel) (da_cons (de_var C (by decide +kernel)) (da_cons (de_ix C (de_var C (by decide +kernel)) (de_cix C (by decide +kernel) (by rfl) (by decide +kernel) (de_ix C (de_var C (by decide +kernel)) de_int (by rfl)) (by rfl) (by rfl)) (by rfl)) da_nil (by rfl)) (by rfl)) (by rfl))) da_nil (by rfl)) (by rfl))) (by rfl) (by rfl) (by rfl) (by rfl)) (by rfl))
  (ds_cons (ds_ex (de_fapp C (by decide +kernel) (de_var C (by decide +kernel)) (de_var C (by decide +kernel)) (by rfl) (by rfl) (by rfl) (by rfl)) (by rfl))
  (ds_one (ds_ret (de_ix C (de_fix C (by decide +kernel) (de_var C (by decide +kernel)) (de_neg de_int) (by rfl) (by rfl)) de_int (by rfl)))))))))
def N96 : List Str := ["self"]
theorem b96 {G : Gx} {Γ : Ev} {X : Cx} {W : WX} {j : Nat} (C : Ct G Γ tb ⟨N96, sc96, true⟩ X W j) (O : Ow X) : PSs X bd96 (rdS G Γ W ir96) :=
  (ds_one (ds_ret (de_ix C (de_fix C (by decide +kernel) (de_var C (by decide +kernel)) (de_neg de_int) (by rfl) (by rfl)) de_int (by rfl))))
def N97 : List Str := ["self"]
theorem b97 {G : Gx} {Γ : Ev} {X : Cx} {W : WX} {j : Nat} (C : Ct G Γ tb ⟨N97, sc97, true⟩ X W j) (O : Ow X) : PSs X bd97 (rdS G Γ W ir97) :=
  (ds_one (ds_ret (de_ix C (de_fix C (by decide +kernel) (de_var C (by decide +kernel)) (de_neg de_int) (by rfl) (by rfl)) de_int (by rfl))))
def N99 : List Str := ["self"]
theorem b99 {G : Gx} {Γ : Ev} {X : Cx} {W : WX} {j : Nat} (C : Ct G Γ tb ⟨N99, sc99, true⟩ X W j) (O : Ow X) : PSs X bd99 (rdS G Γ W ir99) :=
  (ds_cons (ds_if (dt_cmp C (o := .gt) (de_flen C (by decide +kernel) (by decide +kernel) (by decide +kernel) (de_var C (by decide +kernel)) (by rfl)) (de_con C (by decide +kernel) (by rfl)) (by rfl))
  (ds_one (ds_rais0 C (by decide +kernel) (by decide +kernel)))
  ds_nil)
  (ds_one (ds_ret (de_mkd C (by rfl) (by rfl) (by decide +kernel) (da_cons (de_ix C (de_fld C (by decide +kernel) (de_var C (by decide +kernel)) (by rfl)) de_int (by rfl)) (da_cons (de_ix C (de_fld C (by decide +kernel) (de_var C (by decide +kernel)) (by rfl)) de_int (by rfl)) (da_cons (de_ftup C (by decide +kernel) (by decide +kernel) (by decide +kernel) (de_var C (by decide +kernel)) (by rfl)) da_nil (by rfl)) (by rfl)) (by rfl)) (by rfl)))))
def N100 : List Str := ["drive", "rows", "row", "part"]
theorem b100 {G : Gx} {Γ : Ev} {X : Cx} {W : WX} {j : Nat} (C : Ct G Γ tb ⟨N100, sc100, true⟩ X W j) (O : Ow X) : PSs X bd100 (rdS G Γ W ir100) :=
  (ds_cons (ds_set C (by decide +kernel) (de_lst (da_cons (de_tup (da_cons (de_prop C (by decide) (by decide +kernel) (de_var C (by decide +kernel)) (by rfl)) (da_star C (de_prop C (by decide) (by decide +kernel) (de_var C (by decide +kernel)) (by rfl)) da_nil) (by rfl))) (da_star C (de_prop C (by decide) (by decide +kernel) (de_var C (by decide +kernel)) (by rfl)) da_nil) (by rfl))) (by rfl))
  (ds_one (ds_ret (de_join C de_str (de_lc C (own := [("row", 2)]) (by decide +kernel) (by decide) (by rfl) (di_seq C (de_var C (by decide +kernel))) (fun C1 => (dg_name C1 (by decide +kernel))) (fun C1 => dts_nil) (fun C1 => (de_bop C1 (o := .add) (de_join C1 de_str (de_lc C1 (own := [("part", 3)]) (by decide +kernel) (by decide) (by rfl) (di_seq C1 (de_var C1 (by decide +kernel))) (fun C2 => (dg_name C2 (by decide +kernel))) (fun C2 => dts_nil) (fun C2 => (de_bi C2 (b := .str) (by decide +kernel) (by decide +kernel) (da_cons (de_var C2 (by decide +kernel)) da_nil (by rfl)) (by rfl)))) (by rfl) (by rfl) (by rfl)) de_str))) (by rfl) (by rfl) (by rfl)))))
def N101 : List Str := ["self", "number", "text"]
theorem b101 {G : Gx} {Γ : Ev} {X : Cx} {W : WX} {j : Nat} (C : Ct G Γ tb ⟨N101, sc101, true⟩ X W j) (O : Ow X) : PSs X bd101 (rdS G Γ W ir101) :=
  (ds_cons (ds_setf C (by decide +kernel) (de_var C (by decide +kernel)) (de_var C (by decide +kernel)) (by rfl))
  (ds_cons (ds_setf C (by decide +kernel) (de_var C (by decide +kernel)) (de_split C (de_var C (by decide +kernel)) de_str (by rfl) (by rfl) (by rfl)) (by rfl))
  (ds_one (ds_setf C (by decide +kernel) (de_var C (by decide +kernel)) de_int (by rfl)))))
def N102 : List Str := ["self", "some"]
theorem b102 {G : Gx} {Γ : Ev} {X : Cx} {W : WX} {j : Nat} (C : Ct G Γ tb ⟨N102, sc102, true⟩ X W j) (O : Ow X) : PSs X bd102 (rdS G Γ W ir102) :=
  (ds_cons (ds_if (PW.pt (dt_or (dt_cmp C (o := .eq) (de_fld C (by decide +kernel) (de_var C (by decide +kernel)) (by rfl)) (de_bi C (b := .len) (by decide +kernel) (by decide +kernel) (da_cons (de_fld C (by decide +kernel) (de_var C (by decide +kernel)) (by rfl)) da_nil (by rfl)) (by rfl)) (by rfl)) (pw_or1 (dt_cmp C (o := .nmem) (de_ix C (de_fld C (by decide +kernel) (de_var C (by decide +kernel)) (by rfl)) (de_fld C (by decide +kernel) (de_var C (by decide +kernel)) (by rfl)) (by rfl)) (de_var C (by decide +kernel)) (by rfl)))))
  (ds_one (ds_rais1 C (by decide +kernel) (by decide +kernel) (da_cons (de_fld C (by decide +kernel) (de_var C (by decide +kernel)) (by rfl)) (da_cons (de_bop C (o := .add) (de_fld C (by decide +kernel) (de_var C (by decide +kernel)) (by rfl)) de_int) da_nil (by rfl)) (by rfl)) (by rfl)))
  ds_nil)
  (ds_cons (ds_augf C (b := .add) (by decide +kernel) (de_var C (by decide +kernel)) de_int (by rfl))
  (ds_one (ds_ret (de_ix C (de_fld C (by decide +kernel) (de_var C (by decide +kernel)) (by rfl)) (de_bop C (o := .sub) (de_fld C (by decide +kernel) (de_var C (by decide +kernel)) (by rfl)) de_int) (by rfl))))))
def N103 : List Str := ["self", "least", "most", "number"]
theorem b103 {G : Gx} {Γ : Ev} {X : Cx} {W : WX} {j : Nat} (C : Ct G Γ tb ⟨N103, sc103, true⟩ X W j) (O : Ow X) : PSs X bd103 (rdS G Γ W ir103) :=
  (ds_one (ds_ret (de_bi C (b := .int) (by decide +kernel) (by decide +kernel) (da_cons (de_meth C (by rfl) (by rfl) (de_var C (by decide +kernel)) (da_cons (de_lc C (own := [("number", 3)]) (by decide +kernel) (by decide) (by rfl) (di_rng2 C (by decide +kernel) (by decide +kernel) (de_var C (by decide +kernel)) (by rfl) (de_bop C (o := .add) (de_var C (by decide +kernel)) de_int) (by rfl)) (fun C1 => (dg_name C1 (by decide +kernel))) (fun C1 => dts_nil) (fun C1 => (de_bi C1 (b := .str) (by decide +kernel) (by decide +kernel) (da_cons (de_var C1 (by decide +kernel)) da_nil (by rfl)) (by rfl)))) da_nil (by rfl)) (by rfl) (by rfl)) da_nil (by rfl)) (by rfl))))
def N104 : List Str := ["self"]
theorem b104 {G : Gx} {Γ : Ev} {X : Cx} {W : WX} {j : Nat} (C : Ct G Γ tb ⟨N104, sc104, true⟩ X W j) (O : Ow X) : PSs X bd104 (rdS G Γ W ir104) :=
  (ds_one (ds_if (dt_cmp C (o := .lt) (de_fld C (by decide +kernel) (de_var C (by decide +kernel)) (by rfl)) (de_bi C (b := .len) (by decide +kernel) (by decide +kernel) (da_cons (de_fld C (by decide +kernel) (de_var C (by decide +kernel)) (by rfl)) da_nil (by rfl)) (by rfl)) (by rfl))
  (ds_one (ds_rais1 C (by decide +kernel) (by decide +kernel) (da_cons (de_fld C (by decide +kernel) (de_var C (by decide +kernel)) (by rfl)) (da_cons (de_bop C (o := .add) (de_fld C (by decide +kernel) (de_var C (by decide +kernel)) (by rfl)) de_int) da_nil (by rfl)) (by rfl)) (by rfl)))
  ds_nil))
def N105 : List Str := ["line", "word", "step"]
theorem b105 {G : Gx} {Γ : Ev} {X : Cx} {W : WX} {j : Nat} (C : Ct G Γ tb ⟨N105, sc105, true⟩ X W j) (O : Ow X) : PSs X bd105 (rdS G Γ W ir105) :=
  (ds_cons (ds_set C (by decide +kernel) (de_meth C (by rfl) (by rfl) (de_var C (by decide +kernel)) (da_cons (de_lst (da_cons de_str (da_cons de_str (da_cons de_str da_nil (by rfl)) (by rfl)) (by rfl))) da_nil (by rfl)) (by rfl) (by rfl)) (by rfl))
  (ds_cons (ds_set C (by decide +kernel) (de_ite (dt_cmp C (o := .eq) (de_var C (by decide +kernel)) de_str (by rfl)) (de_tup (da_cons (de_var C (by decide +kernel)) da_nil (by rfl))) (de_tup (da_cons (de_var C (by decide +kernel)) (da_cons (de_meth C (by rfl) (by rfl) (de_var C (by decide +kernel)) (da_cons de_int (da_cons (de_ix C (de_con C (by decide +kernel) (by rfl)) (de_var C (by decide +kernel)) (by rfl)) da_nil (by rfl)) (by rfl)) (by rfl) (by rfl)) da_nil (by rfl)) (by rfl)))) (by rfl))
  (ds_cons (ds_ex (de_meth0 C (by rfl) (by rfl) (de_var C (by decide +kernel)) (by rfl)) (by rfl))
  (ds_one (ds_ret (de_var C (by decide +kernel)))))))
end K16

namespace K16
open PySem PySem.Spec L2 DL GI
open PyProof.Rows hiding St
set_option autoImplicit false
def gx (K : PySem.W.Frag) (w : World) : Gx := ⟨K, w, fun c => match c with | 0 => He.ga K "Drive" | 1 => He.ga K "Car" | 2 => He.ga K "Line" | _ => 0, xA K⟩
section
variable {w : World} {K : PySem.W.Frag} {h : Heap} {mg : Str → Option Value} {P : Program}
theorem dk1 (c : SaysY fa fn ts ps xs ex w K) : ∃ fd, FunD K dd1.name dd1.qual dd1.params dd1.body dd1.scope [] [] (He.ga K "_law_random") fd ∧ DefOk (gx K w) tb df con 1 (He.ga K "_law_random") fd ["_law_script", "_law_salt"] := by
  obtain ⟨fd, F⟩ := c.t.d.def_ 0 (d := dd1) rfl
  have F : FunD K dd1.name dd1.qual dd1.params dd1.body dd1.scope [] [] (He.ga K "_law_random") fd := F
  exact ⟨fd, F, ⟨⟨N1, _, _, _, _, _, _, rfl, rfl, rfl, F, C8.fnScope_by (by decide +kernel), fun Γ X W j _ _ C O => b1 C O⟩, F.bindsN fun _ _ _ _ _ _ us hl => match us, hl with | [_, _], _ => rfl⟩⟩
theorem dk5 (c : SaysY fa fn ts ps xs ex w K) : ∃ fd, FunD K dd5.name dd5.qual dd5.params dd5.body dd5.scope [] [] (He.ma K (He.ga K "Drive") "__init__") fd ∧ DefOk (gx K w) tb df con 5 (He.ma K (He.ga K "Drive") "__init__") fd ["self", "side", "start", "steps"] := by
  obtain ⟨fd, F⟩ := c.t.d.def_ 1 (d := dd5) rfl
  have F : FunD K dd5.name dd5.qual dd5.params dd5.body dd5.scope [] [] (He.ma K (He.ga K "Drive") "__init__") fd := F
  exact ⟨fd, F, ⟨⟨N5, _, _, _, _, _, _, rfl, rfl, rfl, F, C8.fnScope_by (by decide +kernel), fun Γ X W j _ _ C O => b5 C O⟩, F.bindsN fun _ _ _ _ _ _ us hl => match us, hl with | [_, _, _, _], _ => rfl⟩⟩
theorem dk6 (c : SaysY fa fn ts ps xs ex w K) : ∃ fd, FunD K dd6.name dd6.qual dd6.params dd6.body dd6.scope [] [] (He.ga K "_law_below") fd ∧ DefOk (gx K w) tb df con 6 (He.ga K "_law_below") fd ["_law_d", "_law_size"] := by
  obtain ⟨fd, F⟩ := c.t.d.def_ 2 (d := dd6) rfl
  have F : FunD K dd6.name dd6.qual dd6.params dd6.body dd6.scope [] [] (He.ga K "_law_below") fd := F
  exact ⟨fd, F, ⟨⟨N6, _, _, _, _, _, _, rfl, rfl, rfl, F, C8.fnScope_by (by decide +kernel), fun Γ X W j _ _ C O => b6 C O⟩, F.bindsN fun _ _ _ _ _ _ us hl => match us, hl with | [_, _], _ => rfl⟩⟩
theorem dk9 (c : SaysY fa fn ts ps xs ex w K) : ∃ fd, FunD K dd9.name dd9.qual dd9.params dd9.body dd9.scope [] [] (He.ga K "place") fd ∧ DefOk (gx K w) tb df con 9 (He.ga K "place") fd ["drive", "land"] := by
  obtain ⟨fd, F⟩ := c.t.d.def_ 3 (d := dd9) rfl
  have F : FunD K dd9.name dd9.qual dd9.params dd9.body dd9.scope [] [] (He.ga K "place") fd := F
  exact ⟨fd, F, ⟨⟨N9, _, _, _, _, _, _, rfl, rfl, rfl, F, C8.fnScope_by (by decide +kernel), fun Γ X W j _ _ C O => b9 C O⟩, F.bindsN fun _ _ _ _ _ _ us hl => match us, hl with | [_, _], _ => rfl⟩⟩
theorem dk10 (c : SaysY fa fn ts ps xs ex w K) : ∃ fd, FunD K dd10.name dd10.qual dd10.params dd10.body dd10.scope [] [] (He.ga K "trace") fd ∧ DefOk (gx K w) tb df con 10 (He.ga K "trace") fd ["drive", "land"] := by
  obtain ⟨fd, F⟩ := c.t.d.def_ 4 (d := dd10) rfl
  have F : FunD K dd10.name dd10.qual dd10.params dd10.body dd10.scope [] [] (He.ga K "trace") fd := F
  exact ⟨fd, F, ⟨⟨N10, _, _, _, _, _, _, rfl, rfl, rfl, F, C8.fnScope_by (by decide +kernel), fun Γ X W j _ _ C O => b10 C O⟩, F.bindsN fun _ _ _ _ _ _ us hl => match us, hl with | [_, _], _ => rfl⟩⟩
theorem dk11 (c : SaysY fa fn ts ps xs ex w K) : ∃ fd, FunD K dd11.name dd11.qual dd11.params dd11.body dd11.scope [] [] (He.ga K "passed") fd ∧ DefOk (gx K w) tb df con 11 (He.ga K "passed") fd ["drive", "land"] := by
  obtain ⟨fd, F⟩ := c.t.d.def_ 5 (d := dd11) rfl
  have F : FunD K dd11.name dd11.qual dd11.params dd11.body dd11.scope [] [] (He.ga K "passed") fd := F
  exact ⟨fd, F, ⟨⟨N11, _, _, _, _, _, _, rfl, rfl, rfl, F, C8.fnScope_by (by decide +kernel), fun Γ X W j _ _ C O => b11 C O⟩, F.bindsN fun _ _ _ _ _ _ us hl => match us, hl with | [_, _], _ => rfl⟩⟩
theorem dk14 (c : SaysY fa fn ts ps xs ex w K) : ∃ fd, FunD K dd14.name dd14.qual dd14.params dd14.body dd14.scope [] [] (He.ga K "need_begin") fd ∧ DefOk (gx K w) tb df con 14 (He.ga K "need_begin") fd ["side", "start"] := by
  obtain ⟨fd, F⟩ := c.t.d.def_ 6 (d := dd14) rfl
  have F : FunD K dd14.name dd14.qual dd14.params dd14.body dd14.scope [] [] (He.ga K "need_begin") fd := F
  exact ⟨fd, F, ⟨⟨N14, _, _, _, _, _, _, rfl, rfl, rfl, F, C8.fnScope_by (by decide +kernel), fun Γ X W j _ _ C O => b14 C O⟩, F.bindsN fun _ _ _ _ _ _ us hl => match us, hl with | [_, _], _ => rfl⟩⟩
theorem dk15 (c : SaysY fa fn ts ps xs ex w K) : ∃ fd, FunD K dd15.name dd15.qual dd15.params dd15.body dd15.scope [] [] (He.ga K "need_steps") fd ∧ DefOk (gx K w) tb df con 15 (He.ga K "need_steps") fd ["value"] := by
  obtain ⟨fd, F⟩ := c.t.d.def_ 7 (d := dd15) rfl
  have F : FunD K dd15.name dd15.qual dd15.params dd15.body dd15.scope [] [] (He.ga K "need_steps") fd := F
  exact ⟨fd, F, ⟨⟨N15, _, _, _, _, _, _, rfl, rfl, rfl, F, C8.fnScope_by (by decide +kernel), fun Γ X W j _ _ C O => b15 C O⟩, F.bindsN fun _ _ _ _ _ _ us hl => match us, hl with | [_], _ => rfl⟩⟩
theorem dk17 (c : SaysY fa fn ts ps xs ex w K) : ∃ fd, FunD K dd17.name dd17.qual dd17.params dd17.body dd17.scope [] [] (He.ga K "need_land") fd ∧ DefOk (gx K w) tb df con 17 (He.ga K "need_land") fd ["value", "most"] := by
  obtain ⟨fd, F⟩ := c.t.d.def_ 8 (d := dd17) rfl
  have F : FunD K dd17.name dd17.qual dd17.params dd17.body dd17.scope [] [] (He.ga K "need_land") fd := F
  exact ⟨fd, F, ⟨⟨N17, _, _, _, _, _, _, rfl, rfl, rfl, F, C8.fnScope_by (by decide +kernel), fun Γ X W j _ _ C O => b17 C O⟩, F.bindsN fun _ _ _ _ _ _ us hl => match us, hl with | [_, _], _ => rfl⟩⟩
theorem dk18 (c : SaysY fa fn ts ps xs ex w K) : ∃ fd, FunD K dd18.name dd18.qual dd18.params dd18.body dd18.scope [] [] (He.ga K "places_of") fd ∧ DefOk (gx K w) tb df con 18 (He.ga K "places_of") fd ["side", "start", "steps", "land"] := by
  obtain ⟨fd, F⟩ := c.t.d.def_ 9 (d := dd18) rfl
  have F : FunD K dd18.name dd18.qual dd18.params dd18.body dd18.scope [] [] (He.ga K "places_of") fd := F
  exact ⟨fd, F, ⟨⟨N18, _, _, _, _, _, _, rfl, rfl, rfl, F, C8.fnScope_by (by decide +kernel), fun Γ X W j _ _ C O => b18 C O⟩, F.bindsN fun _ _ _ _ _ _ us hl => match us, hl with | [_, _, _, _], _ => rfl⟩⟩
theorem dk19 (c : SaysY fa fn ts ps xs ex w K) : ∃ fd, FunD K dd19.name dd19.qual dd19.params dd19.body dd19.scope [] [] (gAd K "Drive" "steps") fd ∧ DefOk (gx K w) tb df con 19 (gAd K "Drive" "steps") fd ["self"] := by
  obtain ⟨fd, F⟩ := (c.prop 0 rfl).2
  have F : FunD K dd19.name dd19.qual dd19.params dd19.body dd19.scope [] [] (gAd K "Drive" "steps") fd := F
  exact ⟨fd, F, ⟨⟨N19, _, _, _, _, _, _, rfl, rfl, rfl, F, C8.fnScope_by (by decide +kernel), fun Γ X W j _ _ C O => b19 C O⟩, F.bindsN fun _ _ _ _ _ _ us hl => match us, hl with | [_], _ => rfl⟩⟩
theorem dk20 (c : SaysY fa fn ts ps xs ex w K) : ∃ fd, FunD K dd20.name dd20.qual dd20.params dd20.body dd20.scope [] [] (gAd K "Drive" "start") fd ∧ DefOk (gx K w) tb df con 20 (gAd K "Drive" "start") fd ["self"] := by
  obtain ⟨fd, F⟩ := (c.prop 1 rfl).2
  have F : FunD K dd20.name dd20.qual dd20.params dd20.body dd20.scope [] [] (gAd K "Drive" "start") fd := F
  exact ⟨fd, F, ⟨⟨N20, _, _, _, _, _, _, rfl, rfl, rfl, F, C8.fnScope_by (by decide +kernel), fun Γ X W j _ _ C O => b20 C O⟩, F.bindsN fun _ _ _ _ _ _ us hl => match us, hl with | [_], _ => rfl⟩⟩
theorem dk21 (c : SaysY fa fn ts ps xs ex w K) : ∃ fd, FunD K dd21.name dd21.qual dd21.params dd21.body dd21.scope [] [] (gAd K "Drive" "side") fd ∧ DefOk (gx K w) tb df con 21 (gAd K "Drive" "side") fd ["self"] := by
  obtain ⟨fd, F⟩ := (c.prop 2 rfl).2
  have F : FunD K dd21.name dd21.qual dd21.params dd21.body dd21.scope [] [] (gAd K "Drive" "side") fd := F
  exact ⟨fd, F, ⟨⟨N21, _, _, _, _, _, _, rfl, rfl, rfl, F, C8.fnScope_by (by decide +kernel), fun Γ X W j _ _ C O => b21 C O⟩, F.bindsN fun _ _ _ _ _ _ us hl => match us, hl with | [_], _ => rfl⟩⟩
theorem dk22 (c : SaysY fa fn ts ps xs ex w K) : ∃ fd, FunD K dd22.name dd22.qual dd22.params dd22.body dd22.scope [] [] (He.ga K "passed_by") fd ∧ DefOk (gx K w) tb df con 22 (He.ga K "passed_by") fd ["step", "arms"] := by
  obtain ⟨fd, F⟩ := c.t.d.def_ 10 (d := dd22) rfl
  have F : FunD K dd22.name dd22.qual dd22.params dd22.body dd22.scope [] [] (He.ga K "passed_by") fd := F
  exact ⟨fd, F, ⟨⟨N22, _, _, _, _, _, _, rfl, rfl, rfl, F, C8.fnScope_by (by decide +kernel), fun Γ X W j _ _ C O => b22 C O⟩, F.bindsN fun _ _ _ _ _ _ us hl => match us, hl with | [_, _], _ => rfl⟩⟩
theorem dk23 (c : SaysY fa fn ts ps xs ex w K) : ∃ fd, FunD K dd23.name dd23.qual dd23.params dd23.body dd23.scope [] [] (He.ga K "is_one_of") fd ∧ DefOk (gx K w) tb df con 23 (He.ga K "is_one_of") fd ["value", "some"] := by
  obtain ⟨fd, F⟩ := c.t.d.def_ 11 (d := dd23) rfl
  have F : FunD K dd23.name dd23.qual dd23.params dd23.body dd23.scope [] [] (He.ga K "is_one_of") fd := F
  exact ⟨fd, F, ⟨⟨N23, _, _, _, _, _, _, rfl, rfl, rfl, F, C8.fnScope_by (by decide +kernel), fun Γ X W j _ _ C O => b23 C O⟩, F.bindsN fun _ _ _ _ _ _ us hl => match us, hl with | [_, _], _ => rfl⟩⟩
theorem dk24 (c : SaysY fa fn ts ps xs ex w K) : ∃ fd, FunD K dd24.name dd24.qual dd24.params dd24.body dd24.scope [] [] (He.ga K "is_from") fd ∧ DefOk (gx K w) tb df con 24 (He.ga K "is_from") fd ["value", "least", "most"] := by
  obtain ⟨fd, F⟩ := c.t.d.def_ 12 (d := dd24) rfl
  have F : FunD K dd24.name dd24.qual dd24.params dd24.body dd24.scope [] [] (He.ga K "is_from") fd := F
  exact ⟨fd, F, ⟨⟨N24, _, _, _, _, _, _, rfl, rfl, rfl, F, C8.fnScope_by (by decide +kernel), fun Γ X W j _ _ C O => b24 C O⟩, F.bindsN fun _ _ _ _ _ _ us hl => match us, hl with | [_, _, _], _ => rfl⟩⟩
theorem dk25 (c : SaysY fa fn ts ps xs ex w K) : ∃ fd, FunD K dd25.name dd25.qual dd25.params dd25.body dd25.scope [] [] (He.ga K "is_step") fd ∧ DefOk (gx K w) tb df con 25 (He.ga K "is_step") fd ["value"] := by
  obtain ⟨fd, F⟩ := c.t.d.def_ 13 (d := dd25) rfl
  have F : FunD K dd25.name dd25.qual dd25.params dd25.body dd25.scope [] [] (He.ga K "is_step") fd := F
  exact ⟨fd, F, ⟨⟨N25, _, _, _, _, _, _, rfl, rfl, rfl, F, C8.fnScope_by (by decide +kernel), fun Γ X W j _ _ C O => b25 C O⟩, F.bindsN fun _ _ _ _ _ _ us hl => match us, hl with | [_], _ => rfl⟩⟩
theorem dk26 (c : SaysY fa fn ts ps xs ex w K) : ∃ fd, FunD K dd26.name dd26.qual dd26.params dd26.body dd26.scope [] [] (He.ga K "begun") fd ∧ DefOk (gx K w) tb df con 26 (He.ga K "begun") fd ["start", "land"] := by
  obtain ⟨fd, F⟩ := c.t.d.def_ 14 (d := dd26) rfl
  have F : FunD K dd26.name dd26.qual dd26.params dd26.body dd26.scope [] [] (He.ga K "begun") fd := F
  exact ⟨fd, F, ⟨⟨N26, _, _, _, _, _, _, rfl, rfl, rfl, F, C8.fnScope_by (by decide +kernel), fun Γ X W j _ _ C O => b26 C O⟩, F.bindsN fun _ _ _ _ _ _ us hl => match us, hl with | [_, _], _ => rfl⟩⟩
theorem dk27 (c : SaysY fa fn ts ps xs ex w K) : ∃ fd, FunD K dd27.name dd27.qual dd27.params dd27.body dd27.scope [] [] (He.ga K "gone") fd ∧ DefOk (gx K w) tb df con 27 (He.ga K "gone") fd ["side", "step", "land", "here"] := by
  obtain ⟨fd, F⟩ := c.t.d.def_ 15 (d := dd27) rfl
  have F : FunD K dd27.name dd27.qual dd27.params dd27.body dd27.scope [] [] (He.ga K "gone") fd := F
  exact ⟨fd, F, ⟨⟨N27, _, _, _, _, _, _, rfl, rfl, rfl, F, C8.fnScope_by (by decide +kernel), fun Γ X W j _ _ C O => b27 C O⟩, F.bindsN fun _ _ _ _ _ _ us hl => match us, hl with | [_, _, _, _], _ => rfl⟩⟩
theorem dk28 (c : SaysY fa fn ts ps xs ex w K) : ∃ fd, FunD K dd28.name dd28.qual dd28.params dd28.body dd28.scope [] [] (He.ga K "ahead") fd ∧ DefOk (gx K w) tb df con 28 (He.ga K "ahead") fd ["side", "step"] := by
  obtain ⟨fd, F⟩ := c.t.d.def_ 16 (d := dd28) rfl
  have F : FunD K dd28.name dd28.qual dd28.params dd28.body dd28.scope [] [] (He.ga K "ahead") fd := F
  exact ⟨fd, F, ⟨⟨N28, _, _, _, _, _, _, rfl, rfl, rfl, F, C8.fnScope_by (by decide +kernel), fun Γ X W j _ _ C O => b28 C O⟩, F.bindsN fun _ _ _ _ _ _ us hl => match us, hl with | [_, _], _ => rfl⟩⟩
theorem dk36 (c : SaysY fa fn ts ps xs ex w K) : ∃ fd, FunD K dd36.name dd36.qual dd36.params dd36.body dd36.scope [] [] (He.ga K "parting") fd ∧ DefOk (gx K w) tb df con 36 (He.ga K "parting") fd ["one", "other", "fact"] := by
  obtain ⟨fd, F⟩ := c.t.d.def_ 17 (d := dd36) rfl
  have F : FunD K dd36.name dd36.qual dd36.params dd36.body dd36.scope [] [] (He.ga K "parting") fd := F
  exact ⟨fd, F, ⟨⟨N36, _, _, _, _, _, _, rfl, rfl, rfl, F, C8.fnScope_by (by decide +kernel), fun Γ X W j _ _ C O => b36 C O⟩, F.bindsN fun _ _ _ _ _ _ us hl => match us, hl with | [_, _, _], _ => rfl⟩⟩
theorem dk41 (c : SaysY fa fn ts ps xs ex w K) : ∃ fd, FunD K dd41.name dd41.qual dd41.params dd41.body dd41.scope [] [] (He.ga K "need_fact") fd ∧ DefOk (gx K w) tb df con 41 (He.ga K "need_fact") fd ["value"] := by
  obtain ⟨fd, F⟩ := c.t.d.def_ 18 (d := dd41) rfl
  have F : FunD K dd41.name dd41.qual dd41.params dd41.body dd41.scope [] [] (He.ga K "need_fact") fd := F
  exact ⟨fd, F, ⟨⟨N41, _, _, _, _, _, _, rfl, rfl, rfl, F, C8.fnScope_by (by decide +kernel), fun Γ X W j _ _ C O => b41 C O⟩, F.bindsN fun _ _ _ _ _ _ us hl => match us, hl with | [_], _ => rfl⟩⟩
theorem dk42 (c : SaysY fa fn ts ps xs ex w K) : ∃ fd, FunD K dd42.name dd42.qual dd42.params dd42.body dd42.scope [] [] (He.ga K "first_unlike") fd ∧ DefOk (gx K w) tb df con 42 (He.ga K "first_unlike") fd ["one", "other", "fact"] := by
  obtain ⟨fd, F⟩ := c.t.d.def_ 19 (d := dd42) rfl
  have F : FunD K dd42.name dd42.qual dd42.params dd42.body dd42.scope [] [] (He.ga K "first_unlike") fd := F
  exact ⟨fd, F, ⟨⟨N42, _, _, _, _, _, _, rfl, rfl, rfl, F, C8.fnScope_by (by decide +kernel), fun Γ X W j _ _ C O => b42 C O⟩, F.bindsN fun _ _ _ _ _ _ us hl => match us, hl with | [_, _, _], _ => rfl⟩⟩
theorem dk43 (c : SaysY fa fn ts ps xs ex w K) : ∃ fd, FunD K dd43.name dd43.qual dd43.params dd43.body dd43.scope [] [] (He.ga K "lands_from") fd ∧ DefOk (gx K w) tb df con 43 (He.ga K "lands_from") fd ["fact", "most"] := by
  obtain ⟨fd, F⟩ := c.t.d.def_ 20 (d := dd43) rfl
  have F : FunD K dd43.name dd43.qual dd43.params dd43.body dd43.scope [] [] (He.ga K "lands_from") fd := F
  exact ⟨fd, F, ⟨⟨N43, _, _, _, _, _, _, rfl, rfl, rfl, F, C8.fnScope_by (by decide +kernel), fun Γ X W j _ _ C O => b43 C O⟩, F.bindsN fun _ _ _ _ _ _ us hl => match us, hl with | [_, _], _ => rfl⟩⟩
theorem dk44 (c : SaysY fa fn ts ps xs ex w K) : ∃ fd, FunD K dd44.name dd44.qual dd44.params dd44.body dd44.scope [] [] (He.ga K "reach") fd ∧ DefOk (gx K w) tb df con 44 (He.ga K "reach") fd ["drive"] := by
  obtain ⟨fd, F⟩ := c.t.d.def_ 21 (d := dd44) rfl
  have F : FunD K dd44.name dd44.qual dd44.params dd44.body dd44.scope [] [] (He.ga K "reach") fd := F
  exact ⟨fd, F, ⟨⟨N44, _, _, _, _, _, _, rfl, rfl, rfl, F, C8.fnScope_by (by decide +kernel), fun Γ X W j _ _ C O => b44 C O⟩, F.bindsN fun _ _ _ _ _ _ us hl => match us, hl with | [_], _ => rfl⟩⟩
theorem dk45 (c : SaysY fa fn ts ps xs ex w K) : ∃ fd, FunD K dd45.name dd45.qual dd45.params dd45.body dd45.scope [] [] (He.ga K "end_of") fd ∧ DefOk (gx K w) tb df con 45 (He.ga K "end_of") fd ["drive", "land"] := by
  obtain ⟨fd, F⟩ := c.t.d.def_ 22 (d := dd45) rfl
  have F : FunD K dd45.name dd45.qual dd45.params dd45.body dd45.scope [] [] (He.ga K "end_of") fd := F
  exact ⟨fd, F, ⟨⟨N45, _, _, _, _, _, _, rfl, rfl, rfl, F, C8.fnScope_by (by decide +kernel), fun Γ X W j _ _ C O => b45 C O⟩, F.bindsN fun _ _ _ _ _ _ us hl => match us, hl with | [_, _], _ => rfl⟩⟩
theorem dk46 (c : SaysY fa fn ts ps xs ex w K) : ∃ fd, FunD K dd46.name dd46.qual dd46.params dd46.body dd46.scope [] [] (He.ga K "far") fd ∧ DefOk (gx K w) tb df con 46 (He.ga K "far") fd ["steps"] := by
  obtain ⟨fd, F⟩ := c.t.d.def_ 23 (d := dd46) rfl
  have F : FunD K dd46.name dd46.qual dd46.params dd46.body dd46.scope [] [] (He.ga K "far") fd := F
  exact ⟨fd, F, ⟨⟨N46, _, _, _, _, _, _, rfl, rfl, rfl, F, C8.fnScope_by (by decide +kernel), fun Γ X W j _ _ C O => b46 C O⟩, F.bindsN fun _ _ _ _ _ _ us hl => match us, hl with | [_], _ => rfl⟩⟩
theorem dk50 (c : SaysY fa fn ts ps xs ex w K) : ∃ fd, FunD K dd50.name dd50.qual dd50.params dd50.body dd50.scope [] [] (He.ga K "undone") fd ∧ DefOk (gx K w) tb df con 50 (He.ga K "undone") fd ["drive", "steps", "fact"] := by
  obtain ⟨fd, F⟩ := c.t.d.def_ 24 (d := dd50) rfl
  have F : FunD K dd50.name dd50.qual dd50.params dd50.body dd50.scope [] [] (He.ga K "undone") fd := F
  exact ⟨fd, F, ⟨⟨N50, _, _, _, _, _, _, rfl, rfl, rfl, F, C8.fnScope_by (by decide +kernel), fun Γ X W j _ _ C O => b50 C O⟩, F.bindsN fun _ _ _ _ _ _ us hl => match us, hl with | [_, _, _], _ => rfl⟩⟩
theorem dk53 (c : SaysY fa fn ts ps xs ex w K) : ∃ fd, FunD K dd53.name dd53.qual dd53.params dd53.body dd53.scope [] [] (He.ga K "meeting") fd ∧ DefOk (gx K w) tb df con 53 (He.ga K "meeting") fd ["one", "other", "fact"] := by
  obtain ⟨fd, F⟩ := c.t.d.def_ 25 (d := dd53) rfl
  have F : FunD K dd53.name dd53.qual dd53.params dd53.body dd53.scope [] [] (He.ga K "meeting") fd := F
  exact ⟨fd, F, ⟨⟨N53, _, _, _, _, _, _, rfl, rfl, rfl, F, C8.fnScope_by (by decide +kernel), fun Γ X W j _ _ C O => b53 C O⟩, F.bindsN fun _ _ _ _ _ _ us hl => match us, hl with | [_, _, _], _ => rfl⟩⟩
theorem dk57 (c : SaysY fa fn ts ps xs ex w K) : ∃ fd, FunD K dd57.name dd57.qual dd57.params dd57.body dd57.scope [] [] (He.ga K "swaps") fd ∧ DefOk (gx K w) tb df con 57 (He.ga K "swaps") fd ["drive", "fact"] := by
  obtain ⟨fd, F⟩ := c.t.d.def_ 26 (d := dd57) rfl
  have F : FunD K dd57.name dd57.qual dd57.params dd57.body dd57.scope [] [] (He.ga K "swaps") fd := F
  exact ⟨fd, F, ⟨⟨N57, _, _, _, _, _, _, rfl, rfl, rfl, F, C8.fnScope_by (by decide +kernel), fun Γ X W j _ _ C O => b57 C O⟩, F.bindsN fun _ _ _ _ _ _ us hl => match us, hl with | [_, _], _ => rfl⟩⟩
theorem dk58 (c : SaysY fa fn ts ps xs ex w K) : ∃ fd, FunD K dd58.name dd58.qual dd58.params dd58.body dd58.scope [] [] (He.ga K "needless") fd ∧ DefOk (gx K w) tb df con 58 (He.ga K "needless") fd ["drive", "fact"] := by
  obtain ⟨fd, F⟩ := c.t.d.def_ 27 (d := dd58) rfl
  have F : FunD K dd58.name dd58.qual dd58.params dd58.body dd58.scope [] [] (He.ga K "needless") fd := F
  exact ⟨fd, F, ⟨⟨N58, _, _, _, _, _, _, rfl, rfl, rfl, F, C8.fnScope_by (by decide +kernel), fun Γ X W j _ _ C O => b58 C O⟩, F.bindsN fun _ _ _ _ _ _ us hl => match us, hl with | [_, _], _ => rfl⟩⟩
theorem dk61 (c : SaysY fa fn ts ps xs ex w K) : ∃ fd, FunD K dd61.name dd61.qual dd61.params dd61.body dd61.scope [] [] (He.ga K "form") fd ∧ DefOk (gx K w) tb df con 61 (He.ga K "form") fd ["drive"] := by
  obtain ⟨fd, F⟩ := c.t.d.def_ 28 (d := dd61) rfl
  have F : FunD K dd61.name dd61.qual dd61.params dd61.body dd61.scope [] [] (He.ga K "form") fd := F
  exact ⟨fd, F, ⟨⟨N61, _, _, _, _, _, _, rfl, rfl, rfl, F, C8.fnScope_by (by decide +kernel), fun Γ X W j _ _ C O => b61 C O⟩, F.bindsN fun _ _ _ _ _ _ us hl => match us, hl with | [_], _ => rfl⟩⟩
theorem dk63 (c : SaysY fa fn ts ps xs ex w K) : ∃ fd, FunD K dd63.name dd63.qual dd63.params dd63.body dd63.scope [] [] (He.ga K "home") fd ∧ DefOk (gx K w) tb df con 63 (He.ga K "home") fd ["drive", "land"] := by
  obtain ⟨fd, F⟩ := c.t.d.def_ 29 (d := dd63) rfl
  have F : FunD K dd63.name dd63.qual dd63.params dd63.body dd63.scope [] [] (He.ga K "home") fd := F
  exact ⟨fd, F, ⟨⟨N63, _, _, _, _, _, _, rfl, rfl, rfl, F, C8.fnScope_by (by decide +kernel), fun Γ X W j _ _ C O => b63 C O⟩, F.bindsN fun _ _ _ _ _ _ us hl => match us, hl with | [_, _], _ => rfl⟩⟩
theorem dk67 (c : SaysY fa fn ts ps xs ex w K) : ∃ fd, FunD K dd67.name dd67.qual dd67.params dd67.body dd67.scope [] [] (He.ga K "fitting") fd ∧ DefOk (gx K w) tb df con 67 (He.ga K "fitting") fd ["seen", "most"] := by
  obtain ⟨fd, F⟩ := c.t.d.def_ 30 (d := dd67) rfl
  have F : FunD K dd67.name dd67.qual dd67.params dd67.body dd67.scope [] [] (He.ga K "fitting") fd := F
  exact ⟨fd, F, ⟨⟨N67, _, _, _, _, _, _, rfl, rfl, rfl, F, C8.fnScope_by (by decide +kernel), fun Γ X W j _ _ C O => b67 C O⟩, F.bindsN fun _ _ _ _ _ _ us hl => match us, hl with | [_, _], _ => rfl⟩⟩
theorem dk68 (c : SaysY fa fn ts ps xs ex w K) : ∃ fd, FunD K dd68.name dd68.qual dd68.params dd68.body dd68.scope [] [] (He.ga K "asking") fd ∧ DefOk (gx K w) tb df con 68 (He.ga K "asking") fd ["seen", "drives", "most"] := by
  obtain ⟨fd, F⟩ := c.t.d.def_ 31 (d := dd68) rfl
  have F : FunD K dd68.name dd68.qual dd68.params dd68.body dd68.scope [] [] (He.ga K "asking") fd := F
  exact ⟨fd, F, ⟨⟨N68, _, _, _, _, _, _, rfl, rfl, rfl, F, C8.fnScope_by (by decide +kernel), fun Γ X W j _ _ C O => b68 C O⟩, F.bindsN fun _ _ _ _ _ _ us hl => match us, hl with | [_, _, _], _ => rfl⟩⟩
theorem dk70 (c : SaysY fa fn ts ps xs ex w K) : ∃ fd, FunD K dd70.name dd70.qual dd70.params dd70.body dd70.scope [] [] (He.ga K "is_seen") fd ∧ DefOk (gx K w) tb df con 70 (He.ga K "is_seen") fd ["value"] := by
  obtain ⟨fd, F⟩ := c.t.d.def_ 32 (d := dd70) rfl
  have F : FunD K dd70.name dd70.qual dd70.params dd70.body dd70.scope [] [] (He.ga K "is_seen") fd := F
  exact ⟨fd, F, ⟨⟨N70, _, _, _, _, _, _, rfl, rfl, rfl, F, C8.fnScope_by (by decide +kernel), fun Γ X W j _ _ C O => b70 C O⟩, F.bindsN fun _ _ _ _ _ _ us hl => match us, hl with | [_], _ => rfl⟩⟩
theorem dk72 (c : SaysY fa fn ts ps xs ex w K) : ∃ fd, FunD K dd72.name dd72.qual dd72.params dd72.body dd72.scope [] [] (He.ma K (He.ga K "Car") "__init__") fd ∧ DefOk (gx K w) tb df con 72 (He.ma K (He.ga K "Car") "__init__") fd ["self", "side", "start", "land"] := by
  obtain ⟨fd, F⟩ := c.t.d.def_ 33 (d := dd72) rfl
  have F : FunD K dd72.name dd72.qual dd72.params dd72.body dd72.scope [] [] (He.ma K (He.ga K "Car") "__init__") fd := F
  exact ⟨fd, F, ⟨⟨N72, _, _, _, _, _, _, rfl, rfl, rfl, F, C8.fnScope_by (by decide +kernel), fun Γ X W j _ _ C O => b72 C O⟩, F.bindsN fun _ _ _ _ _ _ us hl => match us, hl with | [_, _, _, _], _ => rfl⟩⟩
theorem dk83 (c : SaysY fa fn ts ps xs ex w K) : ∃ fd, FunD K dd83.name dd83.qual dd83.params dd83.body dd83.scope [] [] (He.ga K "read") fd ∧ DefOk (gx K w) tb df con 83 (He.ga K "read") fd ["text"] := by
  obtain ⟨fd, F⟩ := c.t.d.def_ 34 (d := dd83) rfl
  have F : FunD K dd83.name dd83.qual dd83.params dd83.body dd83.scope [] [] (He.ga K "read") fd := F
  exact ⟨fd, F, ⟨⟨N83, _, _, _, _, _, _, rfl, rfl, rfl, F, C8.fnScope_by (by decide +kernel), fun Γ X W j _ _ C O => b83 C O⟩, F.bindsN fun _ _ _ _ _ _ us hl => match us, hl with | [_], _ => rfl⟩⟩
theorem dk85 (c : SaysY fa fn ts ps xs ex w K) : ∃ fd, FunD K dd85.name dd85.qual dd85.params dd85.body dd85.scope [] [] (He.ga K "law") fd ∧ DefOk (gx K w) tb df con 85 (He.ga K "law") fd ["_law_script"] := by
  obtain ⟨fd, F⟩ := c.t.d.def_ 35 (d := dd85) rfl
  have F : FunD K dd85.name dd85.qual dd85.params dd85.body dd85.scope [] [] (He.ga K "law") fd := F
  exact ⟨fd, F, ⟨⟨N85, _, _, _, _, _, _, rfl, rfl, rfl, F, C8.fnScope_by (by decide +kernel), fun Γ X W j _ _ C O => b85 C O⟩, F.bindsN fun _ _ _ _ _ _ us hl => match us, hl with | [_], _ => rfl⟩⟩
theorem dk86 (c : SaysY fa fn ts ps xs ex w K) : ∃ fd, FunD K dd86.name dd86.qual dd86.params dd86.body dd86.scope [] [] (He.ga K "_law_driven") fd ∧ DefOk (gx K w) tb df con 86 (He.ga K "_law_driven") fd [] := by
  obtain ⟨fd, F⟩ := c.t.d.def_ 36 (d := dd86) rfl
  have F : FunD K dd86.name dd86.qual dd86.params dd86.body dd86.scope [] [] (He.ga K "_law_driven") fd := F
  exact ⟨fd, F, ⟨⟨N86, _, _, _, _, _, _, rfl, rfl, rfl, F, C8.fnScope_by (by decide +kernel), fun Γ X W j _ _ C O => b86 C O⟩, F.bindsN fun _ _ _ _ _ _ us hl => match us, hl with | [], _ => rfl⟩⟩
theorem dk87 (c : SaysY fa fn ts ps xs ex w K) : ∃ fd, FunD K dd87.name dd87.qual dd87.params dd87.body dd87.scope [] [] (He.ga K "_law_decided") fd ∧ DefOk (gx K w) tb df con 87 (He.ga K "_law_decided") fd [] := by
  obtain ⟨fd, F⟩ := c.t.d.def_ 37 (d := dd87) rfl
  have F : FunD K dd87.name dd87.qual dd87.params dd87.body dd87.scope [] [] (He.ga K "_law_decided") fd := F
  exact ⟨fd, F, ⟨⟨N87, _, _, _, _, _, _, rfl, rfl, rfl, F, C8.fnScope_by (by decide +kernel), fun Γ X W j _ _ C O => b87 C O⟩, F.bindsN fun _ _ _ _ _ _ us hl => match us, hl with | [], _ => rfl⟩⟩
theorem dk88 (c : SaysY fa fn ts ps xs ex w K) : ∃ fd, FunD K dd88.name dd88.qual dd88.params dd88.body dd88.scope [] [] (He.ga K "_law_found") fd ∧ DefOk (gx K w) tb df con 88 (He.ga K "_law_found") fd [] := by
  obtain ⟨fd, F⟩ := c.t.d.def_ 38 (d := dd88) rfl
  have F : FunD K dd88.name dd88.qual dd88.params dd88.body dd88.scope [] [] (He.ga K "_law_found") fd := F
  exact ⟨fd, F, ⟨⟨N88, _, _, _, _, _, _, rfl, rfl, rfl, F, C8.fnScope_by (by decide +kernel), fun Γ X W j _ _ C O => b88 C O⟩, F.bindsN fun _ _ _ _ _ _ us hl => match us, hl with | [], _ => rfl⟩⟩
theorem dk89 (c : SaysY fa fn ts ps xs ex w K) : ∃ fd, FunD K dd89.name dd89.qual dd89.params dd89.body dd89.scope [] [] (He.ga K "_law_car") fd ∧ DefOk (gx K w) tb df con 89 (He.ga K "_law_car") fd [] := by
  obtain ⟨fd, F⟩ := c.t.d.def_ 39 (d := dd89) rfl
  have F : FunD K dd89.name dd89.qual dd89.params dd89.body dd89.scope [] [] (He.ga K "_law_car") fd := F
  exact ⟨fd, F, ⟨⟨N89, _, _, _, _, _, _, rfl, rfl, rfl, F, C8.fnScope_by (by decide +kernel), fun Γ X W j _ _ C O => b89 C O⟩, F.bindsN fun _ _ _ _ _ _ us hl => match us, hl with | [], _ => rfl⟩⟩
theorem dk90 (c : SaysY fa fn ts ps xs ex w K) : ∃ fd, FunD K dd90.name dd90.qual dd90.params dd90.body dd90.scope [] [] (He.ma K (He.ga K "Car") "__len__") fd ∧ DefOk (gx K w) tb df con 90 (He.ma K (He.ga K "Car") "__len__") fd ["self"] := by
  obtain ⟨fd, F⟩ := c.t.d.def_ 40 (d := dd90) rfl
  have F : FunD K dd90.name dd90.qual dd90.params dd90.body dd90.scope [] [] (He.ma K (He.ga K "Car") "__len__") fd := F
  exact ⟨fd, F, ⟨⟨N90, _, _, _, _, _, _, rfl, rfl, rfl, F, C8.fnScope_by (by decide +kernel), fun Γ X W j _ _ C O => b90 C O⟩, F.bindsN fun _ _ _ _ _ _ us hl => match us, hl with | [_], _ => rfl⟩⟩
theorem dk92 (c : SaysY fa fn ts ps xs ex w K) : ∃ fd, FunD K dd92.name dd92.qual dd92.params dd92.body dd92.scope [] [] (He.ma K (He.ga K "Drive") "__eq__") fd ∧ DefOk (gx K w) tb df con 92 (He.ma K (He.ga K "Drive") "__eq__") fd ["self", "other"] := by
  obtain ⟨fd, F⟩ := c.t.d.def_ 41 (d := dd92) rfl
  have F : FunD K dd92.name dd92.qual dd92.params dd92.body dd92.scope [] [] (He.ma K (He.ga K "Drive") "__eq__") fd := F
  exact ⟨fd, F, ⟨⟨N92, _, _, _, _, _, _, rfl, rfl, rfl, F, C8.fnScope_by (by decide +kernel), fun Γ X W j _ _ C O => b92 C O⟩, F.bindsN fun _ _ _ _ _ _ us hl => match us, hl with | [_, _], _ => rfl⟩⟩
theorem dk93 (c : SaysY fa fn ts ps xs ex w K) : ∃ fd, FunD K dd93.name dd93.qual dd93.params dd93.body dd93.scope [] [] (He.ga K "do_meet") fd ∧ DefOk (gx K w) tb df con 93 (He.ga K "do_meet") fd ["one", "other", "land"] := by
  obtain ⟨fd, F⟩ := c.t.d.def_ 42 (d := dd93) rfl
  have F : FunD K dd93.name dd93.qual dd93.params dd93.body dd93.scope [] [] (He.ga K "do_meet") fd := F
  exact ⟨fd, F, ⟨⟨N93, _, _, _, _, _, _, rfl, rfl, rfl, F, C8.fnScope_by (by decide +kernel), fun Γ X W j _ _ C O => b93 C O⟩, F.bindsN fun _ _ _ _ _ _ us hl => match us, hl with | [_, _, _], _ => rfl⟩⟩
theorem dk94 (c : SaysY fa fn ts ps xs ex w K) : ∃ fd, FunD K dd94.name dd94.qual dd94.params dd94.body dd94.scope [] [] (He.ma K (He.ga K "Car") "undo") fd ∧ DefOk (gx K w) tb df con 94 (He.ma K (He.ga K "Car") "undo") fd ["self"] := by
  obtain ⟨fd, F⟩ := c.t.d.def_ 43 (d := dd94) rfl
  have F : FunD K dd94.name dd94.qual dd94.params dd94.body dd94.scope [] [] (He.ma K (He.ga K "Car") "undo") fd := F
  exact ⟨fd, F, ⟨⟨N94, _, _, _, _, _, _, rfl, rfl, rfl, F, C8.fnScope_by (by decide +kernel), fun Γ X W j _ _ C O => b94 C O⟩, F.bindsN fun _ _ _ _ _ _ us hl => match us, hl with | [_], _ => rfl⟩⟩
theorem dk95 (c : SaysY fa fn ts ps xs ex w K) : ∃ fd, FunD K dd95.name dd95.qual dd95.params dd95.body dd95.scope [] [] (He.ma K (He.ga K "Car") "go") fd ∧ DefOk (gx K w) tb df con 95 (He.ma K (He.ga K "Car") "go") fd ["self", "step"] := by
  obtain ⟨fd, F⟩ := c.t.d.def_ 44 (d := dd95) rfl
  have F : FunD K dd95.name dd95.qual dd95.params dd95.body dd95.scope [] [] (He.ma K (He.ga K "Car") "go") fd := F
  exact ⟨fd, F, ⟨⟨N95, _, _, _, _, _, _, rfl, rfl, rfl, F, C8.fnScope_by (by decide +kernel), fun Γ X W j _ _ C O => b95 C O⟩, F.bindsN fun _ _ _ _ _ _ us hl => match us, hl with | [_, _], _ => rfl⟩⟩
theorem dk96 (c : SaysY fa fn ts ps xs ex w K) : ∃ fd, FunD K dd96.name dd96.qual dd96.params dd96.body dd96.scope [] [] (He.ma K (He.ga K "Car") "arms") fd ∧ DefOk (gx K w) tb df con 96 (He.ma K (He.ga K "Car") "arms") fd ["self"] := by
  obtain ⟨fd, F⟩ := c.t.d.def_ 45 (d := dd96) rfl
  have F : FunD K dd96.name dd96.qual dd96.params dd96.body dd96.scope [] [] (He.ma K (He.ga K "Car") "arms") fd := F
  exact ⟨fd, F, ⟨⟨N96, _, _, _, _, _, _, rfl, rfl, rfl, F, C8.fnScope_by (by decide +kernel), fun Γ X W j _ _ C O => b96 C O⟩, F.bindsN fun _ _ _ _ _ _ us hl => match us, hl with | [_], _ => rfl⟩⟩
theorem dk97 (c : SaysY fa fn ts ps xs ex w K) : ∃ fd, FunD K dd97.name dd97.qual dd97.params dd97.body dd97.scope [] [] (He.ma K (He.ga K "Car") "where") fd ∧ DefOk (gx K w) tb df con 97 (He.ma K (He.ga K "Car") "where") fd ["self"] := by
  obtain ⟨fd, F⟩ := c.t.d.def_ 46 (d := dd97) rfl
  have F : FunD K dd97.name dd97.qual dd97.params dd97.body dd97.scope [] [] (He.ma K (He.ga K "Car") "where") fd := F
  exact ⟨fd, F, ⟨⟨N97, _, _, _, _, _, _, rfl, rfl, rfl, F, C8.fnScope_by (by decide +kernel), fun Γ X W j _ _ C O => b97 C O⟩, F.bindsN fun _ _ _ _ _ _ us hl => match us, hl with | [_], _ => rfl⟩⟩
theorem dk99 (c : SaysY fa fn ts ps xs ex w K) : ∃ fd, FunD K dd99.name dd99.qual dd99.params dd99.body dd99.scope [] [] (He.ma K (He.ga K "Car") "drive") fd ∧ DefOk (gx K w) tb df con 99 (He.ma K (He.ga K "Car") "drive") fd ["self"] := by
  obtain ⟨fd, F⟩ := c.t.d.def_ 47 (d := dd99) rfl
  have F : FunD K dd99.name dd99.qual dd99.params dd99.body dd99.scope [] [] (He.ma K (He.ga K "Car") "drive") fd := F
  exact ⟨fd, F, ⟨⟨N99, _, _, _, _, _, _, rfl, rfl, rfl, F, C8.fnScope_by (by decide +kernel), fun Γ X W j _ _ C O => b99 C O⟩, F.bindsN fun _ _ _ _ _ _ us hl => match us, hl with | [_], _ => rfl⟩⟩
theorem dk100 (c : SaysY fa fn ts ps xs ex w K) : ∃ fd, FunD K dd100.name dd100.qual dd100.params dd100.body dd100.scope [] [] (He.ga K "write") fd ∧ DefOk (gx K w) tb df con 100 (He.ga K "write") fd ["drive"] := by
  obtain ⟨fd, F⟩ := c.t.d.def_ 48 (d := dd100) rfl
  have F : FunD K dd100.name dd100.qual dd100.params dd100.body dd100.scope [] [] (He.ga K "write") fd := F
  exact ⟨fd, F, ⟨⟨N100, _, _, _, _, _, _, rfl, rfl, rfl, F, C8.fnScope_by (by decide +kernel), fun Γ X W j _ _ C O => b100 C O⟩, F.bindsN fun _ _ _ _ _ _ us hl => match us, hl with | [_], _ => rfl⟩⟩
theorem dk101 (c : SaysY fa fn ts ps xs ex w K) : ∃ fd, FunD K dd101.name dd101.qual dd101.params dd101.body dd101.scope [] [] (He.ma K (He.ga K "Line") "__init__") fd ∧ DefOk (gx K w) tb df con 101 (He.ma K (He.ga K "Line") "__init__") fd ["self", "number", "text"] := by
  obtain ⟨fd, F⟩ := c.t.d.def_ 49 (d := dd101) rfl
  have F : FunD K dd101.name dd101.qual dd101.params dd101.body dd101.scope [] [] (He.ma K (He.ga K "Line") "__init__") fd := F
  exact ⟨fd, F, ⟨⟨N101, _, _, _, _, _, _, rfl, rfl, rfl, F, C8.fnScope_by (by decide +kernel), fun Γ X W j _ _ C O => b101 C O⟩, F.bindsN fun _ _ _ _ _ _ us hl => match us, hl with | [_, _, _], _ => rfl⟩⟩
theorem dk102 (c : SaysY fa fn ts ps xs ex w K) : ∃ fd, FunD K dd102.name dd102.qual dd102.params dd102.body dd102.scope [] [] (He.ma K (He.ga K "Line") "take") fd ∧ DefOk (gx K w) tb df con 102 (He.ma K (He.ga K "Line") "take") fd ["self", "some"] := by
  obtain ⟨fd, F⟩ := c.t.d.def_ 50 (d := dd102) rfl
  have F : FunD K dd102.name dd102.qual dd102.params dd102.body dd102.scope [] [] (He.ma K (He.ga K "Line") "take") fd := F
  exact ⟨fd, F, ⟨⟨N102, _, _, _, _, _, _, rfl, rfl, rfl, F, C8.fnScope_by (by decide +kernel), fun Γ X W j _ _ C O => b102 C O⟩, F.bindsN fun _ _ _ _ _ _ us hl => match us, hl with | [_, _], _ => rfl⟩⟩
theorem dk103 (c : SaysY fa fn ts ps xs ex w K) : ∃ fd, FunD K dd103.name dd103.qual dd103.params dd103.body dd103.scope [] [] (He.ma K (He.ga K "Line") "take_number") fd ∧ DefOk (gx K w) tb df con 103 (He.ma K (He.ga K "Line") "take_number") fd ["self", "least", "most"] := by
  obtain ⟨fd, F⟩ := c.t.d.def_ 51 (d := dd103) rfl
  have F : FunD K dd103.name dd103.qual dd103.params dd103.body dd103.scope [] [] (He.ma K (He.ga K "Line") "take_number") fd := F
  exact ⟨fd, F, ⟨⟨N103, _, _, _, _, _, _, rfl, rfl, rfl, F, C8.fnScope_by (by decide +kernel), fun Γ X W j _ _ C O => b103 C O⟩, F.bindsN fun _ _ _ _ _ _ us hl => match us, hl with | [_, _, _], _ => rfl⟩⟩
theorem dk104 (c : SaysY fa fn ts ps xs ex w K) : ∃ fd, FunD K dd104.name dd104.qual dd104.params dd104.body dd104.scope [] [] (He.ma K (He.ga K "Line") "end") fd ∧ DefOk (gx K w) tb df con 104 (He.ma K (He.ga K "Line") "end") fd ["self"] := by
  obtain ⟨fd, F⟩ := c.t.d.def_ 52 (d := dd104) rfl
  have F : FunD K dd104.name dd104.qual dd104.params dd104.body dd104.scope [] [] (He.ma K (He.ga K "Line") "end") fd := F
  exact ⟨fd, F, ⟨⟨N104, _, _, _, _, _, _, rfl, rfl, rfl, F, C8.fnScope_by (by decide +kernel), fun Γ X W j _ _ C O => b104 C O⟩, F.bindsN fun _ _ _ _ _ _ us hl => match us, hl with | [_], _ => rfl⟩⟩
theorem dk105 (c : SaysY fa fn ts ps xs ex w K) : ∃ fd, FunD K dd105.name dd105.qual dd105.params dd105.body dd105.scope [] [] (He.ga K "step_in") fd ∧ DefOk (gx K w) tb df con 105 (He.ga K "step_in") fd ["line"] := by
  obtain ⟨fd, F⟩ := c.t.d.def_ 53 (d := dd105) rfl
  have F : FunD K dd105.name dd105.qual dd105.params dd105.body dd105.scope [] [] (He.ga K "step_in") fd := F
  exact ⟨fd, F, ⟨⟨N105, _, _, _, _, _, _, rfl, rfl, rfl, F, C8.fnScope_by (by decide +kernel), fun Γ X W j _ _ C O => b105 C O⟩, F.bindsN fun _ _ _ _ _ _ us hl => match us, hl with | [_], _ => rfl⟩⟩
theorem xm5 (hP : P.main.file = PySem.Challenge.pw_roundarms_k16_known_drives.main.file) (hT : (P.main.scope.names.lookup ("super" : Str)).isSome = false) (c : SaysY fa fn ts ps xs ex w K) : XmOk K P (He.ga K "BadSeen") ["index"] :=
  xm_of (p := xi5) (c.xi 0 xi5 rfl).1 (c.xi 0 xi5 rfl).2 rfl rfl (by decide +kernel) hP hT rfl rfl (fun _ _ _ _ => ⟨_, rfl⟩) (fun _ _ _ _ _ _ _ us hl => match us, hl with | [_, _], _ => rfl) (.inl ⟨_, rfl, by decide +kernel⟩)
theorem xm2 (hP : P.main.file = PySem.Challenge.pw_roundarms_k16_known_drives.main.file) (hT : (P.main.scope.names.lookup ("super" : Str)).isSome = false) (c : SaysY fa fn ts ps xs ex w K) : XmOk K P (He.ga K "BadSteps") ["index"] :=
  xm_of (p := xi2) (c.xi 1 xi2 rfl).1 (c.xi 1 xi2 rfl).2 rfl rfl (by decide +kernel) hP hT rfl rfl (fun _ _ _ _ => ⟨_, rfl⟩) (fun _ _ _ _ _ _ _ us hl => match us, hl with | [_, _], _ => rfl) (.inl ⟨_, rfl, by decide +kernel⟩)
theorem xm7 (hP : P.main.file = PySem.Challenge.pw_roundarms_k16_known_drives.main.file) (hT : (P.main.scope.names.lookup ("super" : Str)).isSome = false) (c : SaysY fa fn ts ps xs ex w K) : XmOk K P (He.ga K "BadText") ["line", "word"] :=
  xm_of (p := xi7) (c.xi 2 xi7 rfl).1 (c.xi 2 xi7 rfl).2 rfl rfl (by decide +kernel) hP hT rfl rfl (fun _ _ _ _ => ⟨_, rfl⟩) (fun _ _ _ _ _ _ _ us hl => match us, hl with | [_, _, _], _ => rfl) (.inr ⟨_, _, rfl, by decide +kernel, by decide +kernel, by decide +kernel⟩)
theorem txt (hP : P.main.file = PySem.Challenge.pw_roundarms_k16_known_drives.main.file) (hT : (P.main.scope.names.lookup ("super" : Str)).isSome = false) (KX : K.In h) (Gn : h.Ns mainGlobals mg) (c : SaysY fa fn ts ps xs ex w K) : Txt P (gx K w) tb df con mg where
  fn := fun f x hx => by
    match f, hx with
    | 0, hx => have e := Option.some.inj hx; cases e
    | 1, hx => have e := Option.some.inj hx; cases e; exact let ⟨fd, _, D⟩ := dk1 c; ⟨_, fd, _, (He.glo_ok KX Gn (c.t.d.fact 0 (f := .glo "_law_random") rfl)), D⟩
    | 2, hx => have e := Option.some.inj hx; cases e
    | 3, hx => have e := Option.some.inj hx; cases e
    | 4, hx => have e := Option.some.inj hx; cases e
    | 5, hx => have e := Option.some.inj hx; cases e
    | 6, hx => have e := Option.some.inj hx; cases e; exact let ⟨fd, _, D⟩ := dk6 c; ⟨_, fd, _, (He.glo_ok KX Gn (c.t.d.fact 2 (f := .glo "_law_below") rfl)), D⟩
    | 7, hx => have e := Option.some.inj hx; cases e
    | 8, hx => have e := Option.some.inj hx; cases e
    | 9, hx => have e := Option.some.inj hx; cases e; exact let ⟨fd, _, D⟩ := dk9 c; ⟨_, fd, _, (He.glo_ok KX Gn (c.t.d.fact 3 (f := .glo "place") rfl)), D⟩
    | 10, hx => have e := Option.some.inj hx; cases e; exact let ⟨fd, _, D⟩ := dk10 c; ⟨_, fd, _, (He.glo_ok KX Gn (c.t.d.fact 4 (f := .glo "trace") rfl)), D⟩
    | 11, hx => have e := Option.some.inj hx; cases e; exact let ⟨fd, _, D⟩ := dk11 c; ⟨_, fd, _, (He.glo_ok KX Gn (c.t.d.fact 5 (f := .glo "passed") rfl)), D⟩
    | 12, hx => have e := Option.some.inj hx; cases e
    | 13, hx => have e := Option.some.inj hx; cases e
    | 14, hx => have e := Option.some.inj hx; cases e; exact let ⟨fd, _, D⟩ := dk14 c; ⟨_, fd, _, (He.glo_ok KX Gn (c.t.d.fact 6 (f := .glo "need_begin") rfl)), D⟩
    | 15, hx => have e := Option.some.inj hx; cases e; exact let ⟨fd, _, D⟩ := dk15 c; ⟨_, fd, _, (He.glo_ok KX Gn (c.t.d.fact 7 (f := .glo "need_steps") rfl)), D⟩
    | 16, hx => have e := Option.some.inj hx; cases e
    | 17, hx => have e := Option.some.inj hx; cases e; exact let ⟨fd, _, D⟩ := dk17 c; ⟨_, fd, _, (He.glo_ok KX Gn (c.t.d.fact 8 (f := .glo "need_land") rfl)), D⟩
    | 18, hx => have e := Option.some.inj hx; cases e; exact let ⟨fd, _, D⟩ := dk18 c; ⟨_, fd, _, (He.glo_ok KX Gn (c.t.d.fact 9 (f := .glo "places_of") rfl)), D⟩
    | 19, hx => have e := Option.some.inj hx; cases e
    | 20, hx => have e := Option.some.inj hx; cases e
    | 21, hx => have e := Option.some.inj hx; cases e
    | 22, hx => have e := Option.some.inj hx; cases e; exact let ⟨fd, _, D⟩ := dk22 c; ⟨_, fd, _, (He.glo_ok KX Gn (c.t.d.fact 10 (f := .glo "passed_by") rfl)), D⟩
    | 23, hx => have e := Option.some.inj hx; cases e; exact let ⟨fd, _, D⟩ := dk23 c; ⟨_, fd, _, (He.glo_ok KX Gn (c.t.d.fact 11 (f := .glo "is_one_of") rfl)), D⟩
    | 24, hx => have e := Option.some.inj hx; cases e; exact let ⟨fd, _, D⟩ := dk24 c; ⟨_, fd, _, (He.glo_ok KX Gn (c.t.d.fact 12 (f := .glo "is_from") rfl)), D⟩
    | 25, hx => have e := Option.some.inj hx; cases e; exact let ⟨fd, _, D⟩ := dk25 c; ⟨_, fd, _, (He.glo_ok KX Gn (c.t.d.fact 13 (f := .glo "is_step") rfl)), D⟩
    | 26, hx => have e := Option.some.inj hx; cases e; exact let ⟨fd, _, D⟩ := dk26 c; ⟨_, fd, _, (He.glo_ok KX Gn (c.t.d.fact 14 (f := .glo "begun") rfl)), D⟩
    | 27, hx => have e := Option.some.inj hx; cases e; exact let ⟨fd, _, D⟩ := dk27 c; ⟨_, fd, _, (He.glo_ok KX Gn (c.t.d.fact 15 (f := .glo "gone") rfl)), D⟩
    | 28, hx => have e := Option.some.inj hx; cases e; exact let ⟨fd, _, D⟩ := dk28 c; ⟨_, fd, _, (He.glo_ok KX Gn (c.t.d.fact 16 (f := .glo "ahead") rfl)), D⟩
    | 29, hx => have e := Option.some.inj hx; cases e
    | 30, hx => have e := Option.some.inj hx; cases e
    | 31, hx => have e := Option.some.inj hx; cases e
    | 32, hx => have e := Option.some.inj hx; cases e
    | 33, hx => have e := Option.some.inj hx; cases e
    | 34, hx => have e := Option.some.inj hx; cases e
    | 35, hx => have e := Option.some.inj hx; cases e
    | 36, hx => have e := Option.some.inj hx; cases e; exact let ⟨fd, _, D⟩ := dk36 c; ⟨_, fd, _, (He.glo_ok KX Gn (c.t.d.fact 17 (f := .glo "parting") rfl)), D⟩
    | 37, hx => have e := Option.some.inj hx; cases e
    | 38, hx => have e := Option.some.inj hx; cases e
    | 39, hx => have e := Option.some.inj hx; cases e
    | 40, hx => have e := Option.some.inj hx; cases e
    | 41, hx => have e := Option.some.inj hx; cases e; exact let ⟨fd, _, D⟩ := dk41 c; ⟨_, fd, _, (He.glo_ok KX Gn (c.t.d.fact 18 (f := .glo "need_fact") rfl)), D⟩
    | 42, hx => have e := Option.some.inj hx; cases e; exact let ⟨fd, _, D⟩ := dk42 c; ⟨_, fd, _, (He.glo_ok KX Gn (c.t.d.fact 19 (f := .glo "first_unlike") rfl)), D⟩
    | 43, hx => have e := Option.some.inj hx; cases e; exact let ⟨fd, _, D⟩ := dk43 c; ⟨_, fd, _, (He.glo_ok KX Gn (c.t.d.fact 20 (f := .glo "lands_from") rfl)), D⟩
    | 44, hx => have e := Option.some.inj hx; cases e; exact let ⟨fd, _, D⟩ := dk44 c; ⟨_, fd, _, (He.glo_ok KX Gn (c.t.d.fact 21 (f := .glo "reach") rfl)), D⟩
    | 45, hx => have e := Option.some.inj hx; cases e; exact let ⟨fd, _, D⟩ := dk45 c; ⟨_, fd, _, (He.glo_ok KX Gn (c.t.d.fact 22 (f := .glo "end_of") rfl)), D⟩
    | 46, hx => have e := Option.some.inj hx; cases e; exact let ⟨fd, _, D⟩ := dk46 c; ⟨_, fd, _, (He.glo_ok KX Gn (c.t.d.fact 23 (f := .glo "far") rfl)), D⟩
    | 47, hx => have e := Option.some.inj hx; cases e
    | 48, hx => have e := Option.some.inj hx; cases e
    | 49, hx => have e := Option.some.inj hx; cases e
    | 50, hx => have e := Option.some.inj hx; cases e; exact let ⟨fd, _, D⟩ := dk50 c; ⟨_, fd, _, (He.glo_ok KX Gn (c.t.d.fact 24 (f := .glo "undone") rfl)), D⟩
    | 51, hx => have e := Option.some.inj hx; cases e
    | 52, hx => have e := Option.some.inj hx; cases e
    | 53, hx => have e := Option.some.inj hx; cases e; exact let ⟨fd, _, D⟩ := dk53 c; ⟨_, fd, _, (He.glo_ok KX Gn (c.t.d.fact 25 (f := .glo "meeting") rfl)), D⟩
    | 54, hx => have e := Option.some.inj hx; cases e
    | 55, hx => have e := Option.some.inj hx; cases e
    | 56, hx => have e := Option.some.inj hx; cases e
    | 57, hx => have e := Option.some.inj hx; cases e; exact let ⟨fd, _, D⟩ := dk57 c; ⟨_, fd, _, (He.glo_ok KX Gn (c.t.d.fact 26 (f := .glo "swaps") rfl)), D⟩
    | 58, hx => have e := Option.some.inj hx; cases e; exact let ⟨fd, _, D⟩ := dk58 c; ⟨_, fd, _, (He.glo_ok KX Gn (c.t.d.fact 27 (f := .glo "needless") rfl)), D⟩
    | 59, hx => have e := Option.some.inj hx; cases e
    | 60, hx => have e := Option.some.inj hx; cases e
    | 61, hx => have e := Option.some.inj hx; cases e; exact let ⟨fd, _, D⟩ := dk61 c; ⟨_, fd, _, (He.glo_ok KX Gn (c.t.d.fact 28 (f := .glo "form") rfl)), D⟩
    | 62, hx => have e := Option.some.inj hx; cases e
    | 63, hx => have e := Option.some.inj hx; cases e; exact let ⟨fd, _, D⟩ := dk63 c; ⟨_, fd, _, (He.glo_ok KX Gn (c.t.d.fact 29 (f := .glo "home") rfl)), D⟩
    | 64, hx => have e := Option.some.inj hx; cases e
    | 65, hx => have e := Option.some.inj hx; cases e
    | 66, hx => have e := Option.some.inj hx; cases e
    | 67, hx => have e := Option.some.inj hx; cases e; exact let ⟨fd, _, D⟩ := dk67 c; ⟨_, fd, _, (He.glo_ok KX Gn (c.t.d.fact 30 (f := .glo "fitting") rfl)), D⟩
    | 68, hx => have e := Option.some.inj hx; cases e; exact let ⟨fd, _, D⟩ := dk68 c; ⟨_, fd, _, (He.glo_ok KX Gn (c.t.d.fact 31 (f := .glo "asking") rfl)), D⟩
    | 69, hx => have e := Option.some.inj hx; cases e
    | 70, hx => have e := Option.some.inj hx; cases e; exact let ⟨fd, _, D⟩ := dk70 c; ⟨_, fd, _, (He.glo_ok KX Gn (c.t.d.fact 32 (f := .glo "is_seen") rfl)), D⟩
    | 71, hx => have e := Option.some.inj hx; cases e
    | 72, hx => have e := Option.some.inj hx; cases e
    | 73, hx => have e := Option.some.inj hx; cases e
    | 74, hx => have e := Option.some.inj hx; cases e
    | 75, hx => have e := Option.some.inj hx; cases e
    | 76, hx => have e := Option.some.inj hx; cases e
    | 77, hx => have e := Option.some.inj hx; cases e
    | 78, hx => have e := Option.some.inj hx; cases e
    | 79, hx => have e := Option.some.inj hx; cases e
    | 80, hx => have e := Option.some.inj hx; cases e
    | 81, hx => have e := Option.some.inj hx; cases e
    | 82, hx => have e := Option.some.inj hx; cases e
    | 83, hx => have e := Option.some.inj hx; cases e; exact let ⟨fd, _, D⟩ := dk83 c; ⟨_, fd, _, (He.glo_ok KX Gn (c.t.d.fact 34 (f := .glo "read") rfl)), D⟩
    | 84, hx => have e := Option.some.inj hx; cases e
    | 85, hx => have e := Option.some.inj hx; cases e; exact let ⟨fd, _, D⟩ := dk85 c; ⟨_, fd, _, (He.glo_ok KX Gn (c.t.d.fact 35 (f := .glo "law") rfl)), D⟩
    | 86, hx => have e := Option.some.inj hx; cases e; exact let ⟨fd, _, D⟩ := dk86 c; ⟨_, fd, _, (He.glo_ok KX Gn (c.t.d.fact 36 (f := .glo "_law_driven") rfl)), D⟩
    | 87, hx => have e := Option.some.inj hx; cases e; exact let ⟨fd, _, D⟩ := dk87 c; ⟨_, fd, _, (He.glo_ok KX Gn (c.t.d.fact 37 (f := .glo "_law_decided") rfl)), D⟩
    | 88, hx => have e := Option.some.inj hx; cases e; exact let ⟨fd, _, D⟩ := dk88 c; ⟨_, fd, _, (He.glo_ok KX Gn (c.t.d.fact 38 (f := .glo "_law_found") rfl)), D⟩
    | 89, hx => have e := Option.some.inj hx; cases e; exact let ⟨fd, _, D⟩ := dk89 c; ⟨_, fd, _, (He.glo_ok KX Gn (c.t.d.fact 39 (f := .glo "_law_car") rfl)), D⟩
    | 90, hx => have e := Option.some.inj hx; cases e
    | 91, hx => have e := Option.some.inj hx; cases e
    | 92, hx => have e := Option.some.inj hx; cases e
    | 93, hx => have e := Option.some.inj hx; cases e; exact let ⟨fd, _, D⟩ := dk93 c; ⟨_, fd, _, (He.glo_ok KX Gn (c.t.d.fact 42 (f := .glo "do_meet") rfl)), D⟩
    | 94, hx => have e := Option.some.inj hx; cases e
    | 95, hx => have e := Option.some.inj hx; cases e
    | 96, hx => have e := Option.some.inj hx; cases e
    | 97, hx => have e := Option.some.inj hx; cases e
    | 98, hx => have e := Option.some.inj hx; cases e
    | 99, hx => have e := Option.some.inj hx; cases e
    | 100, hx => have e := Option.some.inj hx; cases e; exact let ⟨fd, _, D⟩ := dk100 c; ⟨_, fd, _, (He.glo_ok KX Gn (c.t.d.fact 48 (f := .glo "write") rfl)), D⟩
    | 101, hx => have e := Option.some.inj hx; cases e
    | 102, hx => have e := Option.some.inj hx; cases e
    | 103, hx => have e := Option.some.inj hx; cases e
    | 104, hx => have e := Option.some.inj hx; cases e
    | 105, hx => have e := Option.some.inj hx; cases e; exact let ⟨fd, _, D⟩ := dk105 c; ⟨_, fd, _, (He.glo_ok KX Gn (c.t.d.fact 53 (f := .glo "step_in") rfl)), D⟩
    | _ + 106, hx => cases hx
  mt := fun f cc x hx hl => by
    match f, hx with
    | 0, hx => have e := Option.some.inj hx; cases e; exact absurd hl (by decide)
    | 1, hx => have e := Option.some.inj hx; cases e
    | 2, hx => have e := Option.some.inj hx; cases e; exact absurd hl (by decide)
    | 3, hx => have e := Option.some.inj hx; cases e; exact absurd hl (by decide)
    | 4, hx => have e := Option.some.inj hx; cases e; exact absurd hl (by decide)
    | 5, hx => have e := Option.some.inj hx; cases e; exact let ⟨fd, _, D⟩ := dk5 c; ⟨_, fd, _, (He.meth_ok (c.t.d.fact 1 (f := .meth "Drive" "__init__") rfl)).at_, (He.meth_ok (c.t.d.fact 1 (f := .meth "Drive" "__init__") rfl)).fn, D⟩
    | 6, hx => have e := Option.some.inj hx; cases e
    | 7, hx => have e := Option.some.inj hx; cases e; exact absurd hl (by decide)
    | 8, hx => have e := Option.some.inj hx; cases e; exact absurd hl (by decide)
    | 9, hx => have e := Option.some.inj hx; cases e
    | 10, hx => have e := Option.some.inj hx; cases e
    | 11, hx => have e := Option.some.inj hx; cases e
    | 12, hx => have e := Option.some.inj hx; cases e; exact absurd hl (by decide)
    | 13, hx => have e := Option.some.inj hx; cases e; exact absurd hl (by decide)
    | 14, hx => have e := Option.some.inj hx; cases e
    | 15, hx => have e := Option.some.inj hx; cases e
    | 16, hx => have e := Option.some.inj hx; cases e; exact absurd hl (by decide)
    | 17, hx => have e := Option.some.inj hx; cases e
    | 18, hx => have e := Option.some.inj hx; cases e
    | 19, hx => have e := Option.some.inj hx; cases e; exact absurd hl (by decide)
    | 20, hx => have e := Option.some.inj hx; cases e; exact absurd hl (by decide)
    | 21, hx => have e := Option.some.inj hx; cases e; exact absurd hl (by decide)
    | 22, hx => have e := Option.some.inj hx; cases e
    | 23, hx => have e := Option.some.inj hx; cases e
    | 24, hx => have e := Option.some.inj hx; cases e
    | 25, hx => have e := Option.some.inj hx; cases e
    | 26, hx => have e := Option.some.inj hx; cases e
    | 27, hx => have e := Option.some.inj hx; cases e
    | 28, hx => have e := Option.some.inj hx; cases e
    | 29, hx => have e := Option.some.inj hx; cases e; exact absurd hl (by decide)
    | 30, hx => have e := Option.some.inj hx; cases e; exact absurd hl (by decide)
    | 31, hx => have e := Option.some.inj hx; cases e; exact absurd hl (by decide)
    | 32, hx => have e := Option.some.inj hx; cases e; exact absurd hl (by decide)
    | 33, hx => have e := Option.some.inj hx; cases e; exact absurd hl (by decide)
    | 34, hx => have e := Option.some.inj hx; cases e; exact absurd hl (by decide)
    | 35, hx => have e := Option.some.inj hx; cases e; exact absurd hl (by decide)
    | 36, hx => have e := Option.some.inj hx; cases e
    | 37, hx => have e := Option.some.inj hx; cases e; exact absurd hl (by decide)
    | 38, hx => have e := Option.some.inj hx; cases e; exact absurd hl (by decide)
    | 39, hx => have e := Option.some.inj hx; cases e; exact absurd hl (by decide)
    | 40, hx => have e := Option.some.inj hx; cases e; exact absurd hl (by decide)
    | 41, hx => have e := Option.some.inj hx; cases e
    | 42, hx => have e := Option.some.inj hx; cases e
    | 43, hx => have e := Option.some.inj hx; cases e
    | 44, hx => have e := Option.some.inj hx; cases e
    | 45, hx => have e := Option.some.inj hx; cases e
    | 46, hx => have e := Option.some.inj hx; cases e
    | 47, hx => have e := Option.some.inj hx; cases e; exact absurd hl (by decide)
    | 48, hx => have e := Option.some.inj hx; cases e; exact absurd hl (by decide)
    | 49, hx => have e := Option.some.inj hx; cases e; exact absurd hl (by decide)
    | 50, hx => have e := Option.some.inj hx; cases e
    | 51, hx => have e := Option.some.inj hx; cases e; exact absurd hl (by decide)
    | 52, hx => have e := Option.some.inj hx; cases e; exact absurd hl (by decide)
    | 53, hx => have e := Option.some.inj hx; cases e
    | 54, hx => have e := Option.some.inj hx; cases e; exact absurd hl (by decide)
    | 55, hx => have e := Option.some.inj hx; cases e; exact absurd hl (by decide)
    | 56, hx => have e := Option.some.inj hx; cases e; exact absurd hl (by decide)
    | 57, hx => have e := Option.some.inj hx; cases e
    | 58, hx => have e := Option.some.inj hx; cases e
    | 59, hx => have e := Option.some.inj hx; cases e; exact absurd hl (by decide)
    | 60, hx => have e := Option.some.inj hx; cases e; exact absurd hl (by decide)
    | 61, hx => have e := Option.some.inj hx; cases e
    | 62, hx => have e := Option.some.inj hx; cases e; exact absurd hl (by decide)
    | 63, hx => have e := Option.some.inj hx; cases e
    | 64, hx => have e := Option.some.inj hx; cases e; exact absurd hl (by decide)
    | 65, hx => have e := Option.some.inj hx; cases e; exact absurd hl (by decide)
    | 66, hx => have e := Option.some.inj hx; cases e; exact absurd hl (by decide)
    | 67, hx => have e := Option.some.inj hx; cases e
    | 68, hx => have e := Option.some.inj hx; cases e
    | 69, hx => have e := Option.some.inj hx; cases e; exact absurd hl (by decide)
    | 70, hx => have e := Option.some.inj hx; cases e
    | 71, hx => have e := Option.some.inj hx; cases e; exact absurd hl (by decide)
    | 72, hx => have e := Option.some.inj hx; cases e; exact let ⟨fd, _, D⟩ := dk72 c; ⟨_, fd, _, (He.meth_ok (c.t.d.fact 33 (f := .meth "Car" "__init__") rfl)).at_, (He.meth_ok (c.t.d.fact 33 (f := .meth "Car" "__init__") rfl)).fn, D⟩
    | 73, hx => have e := Option.some.inj hx; cases e; exact absurd hl (by decide)
    | 74, hx => have e := Option.some.inj hx; cases e; exact absurd hl (by decide)
    | 75, hx => have e := Option.some.inj hx; cases e; exact absurd hl (by decide)
    | 76, hx => have e := Option.some.inj hx; cases e; exact absurd hl (by decide)
    | 77, hx => have e := Option.some.inj hx; cases e; exact absurd hl (by decide)
    | 78, hx => have e := Option.some.inj hx; cases e; exact absurd hl (by decide)
    | 79, hx => have e := Option.some.inj hx; cases e; exact absurd hl (by decide)
    | 80, hx => have e := Option.some.inj hx; cases e; exact absurd hl (by decide)
    | 81, hx => have e := Option.some.inj hx; cases e; exact absurd hl (by decide)
    | 82, hx => have e := Option.some.inj hx; cases e; exact absurd hl (by decide)
    | 83, hx => have e := Option.some.inj hx; cases e
    | 84, hx => have e := Option.some.inj hx; cases e; exact absurd hl (by decide)
    | 85, hx => have e := Option.some.inj hx; cases e
    | 86, hx => have e := Option.some.inj hx; cases e
    | 87, hx => have e := Option.some.inj hx; cases e
    | 88, hx => have e := Option.some.inj hx; cases e
    | 89, hx => have e := Option.some.inj hx; cases e
    | 90, hx => have e := Option.some.inj hx; cases e; exact let ⟨fd, _, D⟩ := dk90 c; ⟨_, fd, _, (He.meth_ok (c.t.d.fact 40 (f := .meth "Car" "__len__") rfl)).at_, (He.meth_ok (c.t.d.fact 40 (f := .meth "Car" "__len__") rfl)).fn, D⟩
    | 91, hx => have e := Option.some.inj hx; cases e; exact absurd hl (by decide)
    | 92, hx => have e := Option.some.inj hx; cases e; exact let ⟨fd, _, D⟩ := dk92 c; ⟨_, fd, _, (He.meth_ok (c.t.d.fact 41 (f := .meth "Drive" "__eq__") rfl)).at_, (He.meth_ok (c.t.d.fact 41 (f := .meth "Drive" "__eq__") rfl)).fn, D⟩
    | 93, hx => have e := Option.some.inj hx; cases e
    | 94, hx => have e := Option.some.inj hx; cases e; exact let ⟨fd, _, D⟩ := dk94 c; ⟨_, fd, _, (He.meth_ok (c.t.d.fact 43 (f := .meth "Car" "undo") rfl)).at_, (He.meth_ok (c.t.d.fact 43 (f := .meth "Car" "undo") rfl)).fn, D⟩
    | 95, hx => have e := Option.some.inj hx; cases e; exact let ⟨fd, _, D⟩ := dk95 c; ⟨_, fd, _, (He.meth_ok (c.t.d.fact 44 (f := .meth "Car" "go") rfl)).at_, (He.meth_ok (c.t.d.fact 44 (f := .meth "Car" "go") rfl)).fn, D⟩
    | 96, hx => have e := Option.some.inj hx; cases e; exact let ⟨fd, _, D⟩ := dk96 c; ⟨_, fd, _, (He.meth_ok (c.t.d.fact 45 (f := .meth "Car" "arms") rfl)).at_, (He.meth_ok (c.t.d.fact 45 (f := .meth "Car" "arms") rfl)).fn, D⟩
    | 97, hx => have e := Option.some.inj hx; cases e; exact let ⟨fd, _, D⟩ := dk97 c; ⟨_, fd, _, (He.meth_ok (c.t.d.fact 46 (f := .meth "Car" "where") rfl)).at_, (He.meth_ok (c.t.d.fact 46 (f := .meth "Car" "where") rfl)).fn, D⟩
    | 98, hx => have e := Option.some.inj hx; cases e; exact absurd hl (by decide)
    | 99, hx => have e := Option.some.inj hx; cases e; exact let ⟨fd, _, D⟩ := dk99 c; ⟨_, fd, _, (He.meth_ok (c.t.d.fact 47 (f := .meth "Car" "drive") rfl)).at_, (He.meth_ok (c.t.d.fact 47 (f := .meth "Car" "drive") rfl)).fn, D⟩
    | 100, hx => have e := Option.some.inj hx; cases e
    | 101, hx => have e := Option.some.inj hx; cases e; exact let ⟨fd, _, D⟩ := dk101 c; ⟨_, fd, _, (He.meth_ok (c.t.d.fact 49 (f := .meth "Line" "__init__") rfl)).at_, (He.meth_ok (c.t.d.fact 49 (f := .meth "Line" "__init__") rfl)).fn, D⟩
    | 102, hx => have e := Option.some.inj hx; cases e; exact let ⟨fd, _, D⟩ := dk102 c; ⟨_, fd, _, (He.meth_ok (c.t.d.fact 50 (f := .meth "Line" "take") rfl)).at_, (He.meth_ok (c.t.d.fact 50 (f := .meth "Line" "take") rfl)).fn, D⟩
    | 103, hx => have e := Option.some.inj hx; cases e; exact let ⟨fd, _, D⟩ := dk103 c; ⟨_, fd, _, (He.meth_ok (c.t.d.fact 51 (f := .meth "Line" "take_number") rfl)).at_, (He.meth_ok (c.t.d.fact 51 (f := .meth "Line" "take_number") rfl)).fn, D⟩
    | 104, hx => have e := Option.some.inj hx; cases e; exact let ⟨fd, _, D⟩ := dk104 c; ⟨_, fd, _, (He.meth_ok (c.t.d.fact 52 (f := .meth "Line" "end") rfl)).at_, (He.meth_ok (c.t.d.fact 52 (f := .meth "Line" "end") rfl)).fn, D⟩
    | 105, hx => have e := Option.some.inj hx; cases e
    | _ + 106, hx => cases hx
  pr := fun x f hx => by
    simp only [tb, List.mem_cons, List.not_mem_nil, or_false, Prod.mk.injEq] at hx
    rcases hx with hx | hx
    · (obtain ⟨rfl, rfl⟩ := hx; exact let ⟨fd, _, D⟩ := dk19 c; ⟨_, _, fd, _, (c.prop 0 rfl).1, D⟩)
    rcases hx with hx | hx
    · (obtain ⟨rfl, rfl⟩ := hx; exact let ⟨fd, _, D⟩ := dk20 c; ⟨_, _, fd, _, (c.prop 1 rfl).1, D⟩)
    (obtain ⟨rfl, rfl⟩ := hx; exact let ⟨fd, _, D⟩ := dk21 c; ⟨_, _, fd, _, (c.prop 2 rfl).1, D⟩)
  cl := fun cc x hx => by
    match cc, hx with
    | 0, hx => have e := Option.some.inj hx; cases e; exact ⟨(He.glo_ok KX Gn (c.t.d.fact 54 (f := .glo "Drive") rfl)), He.cls_ok (c.t.d.fact 55 (f := .cls "Drive") rfl), (He.mkr_ok (c.t.d.fact 56 (f := .mkr "Drive") rfl)).makes, (He.mkr_ok (c.t.d.fact 56 (f := .mkr "Drive") rfl)).kp⟩
    | 1, hx => have e := Option.some.inj hx; cases e; exact ⟨(He.glo_ok KX Gn (c.t.d.fact 64 (f := .glo "Car") rfl)), He.cls_ok (c.t.d.fact 65 (f := .cls "Car") rfl), (He.mkr_ok (c.t.d.fact 66 (f := .mkr "Car") rfl)).makes, (He.mkr_ok (c.t.d.fact 66 (f := .mkr "Car") rfl)).kp⟩
    | 2, hx => have e := Option.some.inj hx; cases e; exact ⟨(He.glo_ok KX Gn (c.t.d.fact 74 (f := .glo "Line") rfl)), He.cls_ok (c.t.d.fact 75 (f := .cls "Line") rfl), (He.mkr_ok (c.t.d.fact 76 (f := .mkr "Line") rfl)).makes, (He.mkr_ok (c.t.d.fact 76 (f := .mkr "Line") rfl)).kp⟩
    | _ + 3, hx => cases hx
  con := fun k x hx => by
    have E : ex K = true := c.more
    match k, hx with
    | 0, hx => have e := Option.some.inj hx; cases e; exact let ⟨t, ht⟩ := He.int_ok KX Gn (c.t.d.fact 114 (f := .int "GREATEST" 1000000000000000000000000000000) rfl); ⟨_, .int 1000000000000000000000000000000, ht, ⟨t, rfl⟩, fun F => .int _⟩
    | 1, hx => have e := Option.some.inj hx; cases e; exact ⟨_, .ref (He.ga K "ROUNDS"), (He.glo_ok KX Gn (c.t.d.fact 115 (f := .glo "ROUNDS") rfl)), rfl, tup_ok (G := gx K w) (xs := ["first", "second"]) rfl (He.ba E).1⟩
    | 2, hx => have e := Option.some.inj hx; cases e; exact ⟨_, .ref (He.ga K "SIDES"), (He.glo_ok KX Gn (c.t.d.fact 119 (f := .glo "SIDES") rfl)), rfl, tup_ok (G := gx K w) (xs := ["left", "right"]) rfl (He.ba (He.ba (He.ba E).2).2).1⟩
    | 3, hx => have e := Option.some.inj hx; cases e; exact let ⟨t, ht⟩ := He.int_ok KX Gn (c.t.d.fact 120 (f := .int "FARTHEST" 2) rfl); ⟨_, .int 2, ht, ⟨t, rfl⟩, fun F => .int _⟩
    | 4, hx => have e := Option.some.inj hx; cases e; exact let ⟨t, ht⟩ := He.int_ok KX Gn (c.t.d.fact 118 (f := .int "MOST_STEPS" 6) rfl); ⟨_, .int 6, ht, ⟨t, rfl⟩, fun F => .int _⟩
    | 5, hx => have e := Option.some.inj hx; cases e; exact ⟨_, .ref (He.ga K "MOST_BY"), (He.glo_ok KX Gn (c.t.d.fact 122 (f := .glo "MOST_BY") rfl)), rfl, fun F => .kmp (km_ok (G := gx K w) rfl (c.t.tab 0 rfl) (He.ba (He.ba (He.ba (He.ba E).2).2).2).1)⟩
    | 6, hx => have e := Option.some.inj hx; cases e; exact let ⟨t, ht⟩ := He.int_ok KX Gn (c.t.d.fact 121 (f := .int "MOST_FACT" 9) rfl); ⟨_, .int 9, ht, ⟨t, rfl⟩, fun F => .int _⟩
    | 7, hx => have e := Option.some.inj hx; cases e; exact let ⟨t, ht⟩ := He.int_ok KX Gn (c.t.d.fact 116 (f := .int "BEYOND" 10) rfl); ⟨_, .int 10, ht, ⟨t, rfl⟩, fun F => .int _⟩
    | 8, hx => have e := Option.some.inj hx; cases e; exact let ⟨t, ht⟩ := He.int_ok KX Gn (c.t.d.fact 117 (f := .int "MOST_HOME" 200) rfl); ⟨_, .int 200, ht, ⟨t, rfl⟩, fun F => .int _⟩
    | _ + 9, hx => cases hx
  fr := fun x hx => He.free_ok KX Gn (fact_mem c.t.d (f := .free x) (by
    have h1 : ∀ x ∈ tb.free, (He.Fa.free x) ∈ fa := by
      intro x hx
      simp only [tb, List.mem_cons, List.not_mem_nil, or_false] at hx
      rcases hx with rfl | rfl | rfl | rfl | rfl | rfl | rfl | rfl | rfl | rfl | rfl | rfl | rfl | rfl | rfl | rfl <;> simp [fa]
    exact h1 x hx))
  noat := fun cc hc x hx => by
    simp only [tb, List.mem_cons, List.not_mem_nil, or_false] at hx
    match cc, hc with
    | 0, _ => rcases hx with rfl | rfl | rfl | rfl | rfl | rfl | rfl <;> exact He.noat_ok (fact_mem c.t.d (by simp [fa]))
    | 1, _ => rcases hx with rfl | rfl | rfl | rfl | rfl | rfl | rfl <;> exact He.noat_ok (fact_mem c.t.d (by simp [fa]))
    | 2, _ => rcases hx with rfl | rfl | rfl | rfl | rfl | rfl | rfl <;> exact He.noat_ok (fact_mem c.t.d (by simp [fa]))
    | n + 3, hc => exact absurd hc (by simp [tb])
  drv := fun _ => by
    have E : ex K = true := c.more
    exact drv_of (C := "Drive") rfl rfl (He.cls_ok (c.t.d.fact 55 (f := .cls "Drive") rfl)) (He.ba (He.ba (He.ba (He.ba (He.ba E).2).2).2).2).1
  tk := fun x hx => by
    have E : ex K = true := c.more
    simp only [tb, List.mem_cons, List.not_mem_nil, or_false] at hx
    (subst hx; exact tk_of (G := gx K w) rfl (He.glo_ok KX Gn (c.t.d.fact 115 (f := .glo "ROUNDS") rfl)) (He.ba (He.ba E).2).1)
  xc := fun k x hx => by
    have E : ex K = true := c.more
    match k, hx with
    | 0, hx => have e := Option.some.inj hx; cases e
    | 1, hx => have e := Option.some.inj hx; cases e
    | 2, hx => have e := Option.some.inj hx; cases e
    | 3, hx => have e := Option.some.inj hx; cases e
    | 4, hx => have e := Option.some.inj hx; cases e
    | 5, hx => have e := Option.some.inj hx; cases e
    | 6, hx => have e := Option.some.inj hx; cases e
    | 7, hx => have e := Option.some.inj hx; cases e
    | _ + 8, hx => cases hx
  x0 := fun k x hx => by
    simp only [tb, List.mem_cons, List.not_mem_nil, or_false, Prod.mk.injEq] at hx
    rcases hx with hx | hx
    · (obtain ⟨rfl, rfl⟩ := hx; exact ⟨(He.glo_ok KX Gn (c.t.d.fact 102 (f := .glo "TooLong") rfl)), (He.exc_ok (c.t.d.fact 103 (f := .exc "TooLong") rfl))⟩)
    rcases hx with hx | hx
    · (obtain ⟨rfl, rfl⟩ := hx; exact ⟨(He.glo_ok KX Gn (c.t.d.fact 105 (f := .glo "BadSide") rfl)), (He.exc_ok (c.t.d.fact 106 (f := .exc "BadSide") rfl))⟩)
    rcases hx with hx | hx
    · (obtain ⟨rfl, rfl⟩ := hx; exact ⟨(He.glo_ok KX Gn (c.t.d.fact 107 (f := .glo "BadStart") rfl)), (He.exc_ok (c.t.d.fact 108 (f := .exc "BadStart") rfl))⟩)
    rcases hx with hx | hx
    · (obtain ⟨rfl, rfl⟩ := hx; exact ⟨(He.glo_ok KX Gn (c.t.d.fact 109 (f := .glo "BadLand") rfl)), (He.exc_ok (c.t.d.fact 110 (f := .exc "BadLand") rfl))⟩)
    (obtain ⟨rfl, rfl⟩ := hx; exact ⟨(He.glo_ok KX Gn (c.t.d.fact 111 (f := .glo "BadFact") rfl)), (He.exc_ok (c.t.d.fact 112 (f := .exc "BadFact") rfl))⟩)
  x1 := fun k x fs hx => by
    simp only [tb, List.mem_cons, List.not_mem_nil, or_false, Prod.mk.injEq] at hx
    rcases hx with hx | hx
    · (obtain ⟨rfl, rfl, rfl⟩ := hx; exact ⟨(He.glo_ok KX Gn (c.t.d.fact 100 (f := .glo "BadSeen") rfl)), He.free_ok KX Gn (c.t.d.fact 113 (f := .free "super") rfl), xm5 hP hT c⟩)
    rcases hx with hx | hx
    · (obtain ⟨rfl, rfl, rfl⟩ := hx; exact ⟨(He.glo_ok KX Gn (c.t.d.fact 101 (f := .glo "BadSteps") rfl)), He.free_ok KX Gn (c.t.d.fact 113 (f := .free "super") rfl), xm2 hP hT c⟩)
    (obtain ⟨rfl, rfl, rfl⟩ := hx; exact ⟨(He.glo_ok KX Gn (c.t.d.fact 104 (f := .glo "BadText") rfl)), He.free_ok KX Gn (c.t.d.fact 113 (f := .free "super") rfl), xm7 hP hT c⟩)
  xf := fun k f hx => by
    exact absurd hx (by simp [tb])
theorem facts {f : Addr} (hP : P.main.file = PySem.Challenge.pw_roundarms_k16_known_drives.main.file) (hT : (P.main.scope.names.lookup ("super" : Str)).isSome = false) (KX : K.In h) (Gn : h.Ns mainGlobals mg) (hfa : mg ("law" : Str) = some (.ref f)) (c : SaysY fa fn ts ps xs ex w K) (n : Nat) :
    ∃ fd : FuncData, (∀ (s : Shared) (v : Value), BindsTo s fd ⟨[v], []⟩ [(("_law_script" : Str), v)]) ∧ ∀ base : Heap, K.In base → base.Ns mainGlobals mg → FnOk P w K mg base (L2.CX P w) (2 * n + 2) f fd ["_law_script"] (spU (gx K w) (DL.run df con tb.cls.length (n + 1) 85)) := by
  obtain ⟨fd, F, DD⟩ := dk85 c
  have e := hfa.symm.trans (He.glo_ok KX Gn (c.t.d.fact 35 (f := .glo "law") rfl))
  cases e
  have b := FunD.bindsA (ps := ["_law_script"]) F fun _ _ _ _ _ _ us hl => match us, hl with | [_], _ => rfl
  exact ⟨fd, fun s v => b s [v] rfl, fun base _ _ => def_ok DD (wd_of (txt hP hT KX Gn c) n)⟩
end
end K16
section
open PySem PySem.W PySem.Calls PyProof.Rows
theorem K16.head (n : Nat) (hn : n ≤ 60) (pure : ∀ l : List Int, l.length ≤ 63 → DL.run GI.df GI.con 3 (n + 1) 85 [.d (.scr (l.map DL.D.int))] [] = some (.ok (.d (.bl true)) [])) : PySem.Challenge.rw_roundarms_k16_known_drives.Holds := by
  w_on; o_law
  refine HandSHeadRun.head_any (r := OpenLaw.row PySem.Challenge.rw_roundarms_k16_known_drives) (q := view (OpenLaw.row PySem.Challenge.rw_roundarms_k16_known_drives).prog [69]) (H := K16.hk) (ob := K16.ob) (M := 40000) (loose := K16.loose) (d := HandSHeadRun.topDef (OpenLaw.row PySem.Challenge.rw_roundarms_k16_known_drives).prog 69) (kwd := []) K16.ob_eq
    (by kernel_rfl) (fun s => by kernel_rfl) K16.run (by kernel_rfl) (by kernel_rfl) (by kernel_rfl) (by rfl) (by first | assumption | decide +kernel) (by decide +kernel) ⟨rfl, rfl, rfl, rfl, rfl, by decide +kernel⟩ ?hw ?hc
  case hw => w_witness2
  case hc =>
    refine L2.walk_ofE (l := PySem.Challenge.rw_roundarms_k16_known_drives) (n := 63) (k := 122) (x := "_law_script") (CX := L2.CX0) rfl (by decide) (by kernel_rfl) ⟨rfl, by decide, by decide⟩ ?F (fun _ _ _ _ z => z)
    intro w mg fa h Y G hmg0
    obtain ⟨K, KX, c⟩ := Y
    have hmg : mg ("law" : PySem.Str) = some (.ref fa) := by
      have e : (HandSHeadRun.topDef (OpenLaw.row PySem.Challenge.rw_roundarms_k16_known_drives).prog 69).name = ("law" : PySem.Str) := by kernel_rfl
      rw [← e]
      exact hmg0
    obtain ⟨fd, hb, hF⟩ := K16.facts (P := (PySem.Challenge.rw_roundarms_k16_known_drives).prog) (w := w) rfl (by decide +kernel) KX G hmg c n
    exact ⟨K, fd, (fun vs H Q _ => DL.spU (K16.gx K w) (DL.run GI.df GI.con 3 (n + 1) 85) vs H Q fun _ _ _ => False), KX, hb, fun H a l hl _ hS => DL.law_sp (G := K16.gx K w) (pure l hl) hS, fun base h1 h2 => L2.FnOk.mono (j := 2 * n + 2) (k := 122) (DL.fn_calm (hF base h1 h2)) (by omega)⟩
end

theorem PySem.Challenge.cw_roundarms_k16_known_drives_holds : PySem.Challenge.rw_roundarms_k16_known_drives.Holds := by
  exact K16.head 14 (by decide) fun l hl => GP.k16 l hl
