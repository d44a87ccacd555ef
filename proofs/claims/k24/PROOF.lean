import PyProof.Rows.All
import Wide.All
import OpenK.AllK
import Wide.FinOn
import HandS.Base
import HandS.Call
import HandS.List
import HandS.Comp
import HandS.Ends
import HandS.EndBits
import HandS.Dict
import HandS.Iter
import HandS.Text
import HandS.Words
import HandS.Defaults
import HandS.Wide
import HandS.HeadHook1
import HandS.HeadHook2
import PyProof.ReprRoads
import PyProof.ReprLen
import PyProof.ReprBulk
import HandS.Head2
import HandS.HeadEnd
import HandS.HeadHook3
import HandS.IsInst
import HandS.TupLe
import HandS.TupAny
import HandS.Evl
import HandS.Steps
import HandS.WordsList
import HandS.WordsDict
import HandS.Exc
import HandS.WordsExc
import PyProof.StrBlock2
import PyProof.StrLawsRepr
import HandS.Walk
import KE.GoesZip
import KE.GoesMore
import KE.KDictWalk
import HandS.MakeKwOnly
import HandS.More
import HandS.NoneIn
import HandS.Flow
import HandS.ExcInit
import HandS.ExcField
import HandS.ExcIs
import KE.KExcIs
import HandS.ClsMeth
import HandS.TryMany
import HandS.ExcOwn
import HandS.Lambda
import HandS.SuiteRaise
import KE.DataEq
import HandS.Conv
import HandS.Strs
import HandS.SetKeys
import HandS.Style
import KE.GoesEnum
import HandS.DictComp
import HandS.Finally
import HandS.Codes
import HandS.Deep
import KE.KUnpackStar
import KE.DataCmp
import KE.SortData
import KE.KDictLaws
import HandS.TupSets
import PyProof.NeKinds
import KE.DataMinMax
import KE.DataFind
import HandS.CallLocal
import HandS.Zip
import HandS.ListItems
import HandS.SetFor
import PySem.Challenge.RW_trailpost_k24_scans_refused
set_option Elab.async false
set_option linter.all false
set_option maxRecDepth 100000
set_option maxHeartbeats 4000000
namespace TP
open PySem PySem.Spec PyProof.Rows L2

/-! ### defs that are called where no repr is under way -/
structure FnG (P : Program) (w : World) (K : PySem.W.Frag) (mg : Str → Option Value) (base : Heap) (CX : CXT) (k : Nat) (f : Addr) (fd : FuncData) (ps : List Str) (sp : Sp) : Prop where
  len : ∀ vs H Q E, sp vs H Q E → vs.length = ps.length
  run : ∀ (A : Around) (outer : List Env) (s : Shared) (H : Hp) (args : Args) (us : List Value) (vs : List V) (Q : VK) (E : XK), A.guards = some [] → Room k A →
    Env0 P w K mg base A outer s H → BindsTo s fd args (ps.zip us) → Vals vs us → sp vs H Q E → codeAny (model P w) A (.call (.ref f) args) (CR CX outer P w H s Q E) s
theorem FnG.of {P : Program} {w : World} {K : PySem.W.Frag} {mg : Str → Option Value} {base : Heap} {CX : CXT} {k : Nat} {f : Addr} {fd : FuncData} {ps : List Str} {sp : Sp}
    (F : FnOk P w K mg base CX k f fd ps sp) : FnG P w K mg base CX k f fd ps sp :=
  ⟨F.len, fun A outer s H args us vs Q E _ hr => F.run A outer s H args us vs Q E hr⟩

section
variable {P : Program} {w : World} {K : PySem.W.Frag} {mg : Str → Option Value} {base : Heap} {CX : CXT}
/-- a def by its body, called where no repr is under way -/
theorem fnG_of {k : Nat} {f : Addr} {name qual : Str} {params : Arguments} {body : List Stmt} {scope : Scope} {dV kV doc pm cdv ct oc : Value} {an od : Option Addr} {osl : Array (Option Value)} {N ps : List Str} {sp : Sp}
    (lk : K.lookup f = some ⟨oc, od, .func (PySem.W.fnOf name qual params body scope dV kV doc pm an cdv ct), osl⟩)
    (hcd : PySem.W.codeIn K cdv qual = true) (S : FnScope N ps scope) (len : ∀ vs H Q E, sp vs H Q E → vs.length = ps.length)
    (hbody : ∀ (A : Around) (outer : List Env) (s : Shared) (H : Hp) (vs : List V) (Q : VK) (E : XK), A.guards = some [] → Room k (A.deeper (envOfC qual scope s.heap.objs.size f cdv)) → sp vs H Q E →
      ∃ t, PSs (cxOf CX P w K mg base N qual scope f cdv A outer s H E) body t ∧ t { nx := fun _ H' => Q .non H', rt := Q } (start N vs) H) :
    FnG P w K mg base CX (k + 1) f (PySem.W.fnOf name qual params body scope dV kV doc pm an cdv ct) ps sp := by
  refine ⟨len, fun A outer s H args us vs Q E hgd hr e0 hb r hsp => ?_⟩
  have hlen := len _ _ _ _ hsp
  have kx : K.In s.heap := e0.mod.kin.keeps fun b o e => (e0.bs b o e).1
  have lim := e0.mod.nolimit.keeps (h' := s.heap) fun b o e => (e0.bs b o e).1
  have kinds : ∀ y ∈ ps.zip us, scope.names.lookup y.1 = some .local ∨ (scope.names.lookup y.1 = some .cell ∧
      ((cellsFrom (s.heap.objs.size + 1) scope.names []).lookup y.1).isSome = true) := fun ⟨n, v⟩ hy => by
    rcases S.par n (List.of_mem_zip hy).1 with q | q
    · exact .inl q
    · exact .inr ⟨q, PySem.W.cellsFrom_some _ _ _ (.inl q)⟩
  refine codeAny_call_function hr.depth (kx _ _ lk) rfl S.co S.gen rfl (PySem.W.codeRec_of kx hcd) (hb _ _ _ _ ?_)
  refine wpAny_newFunctionEnv_cells S.kind kinds fun env he s1 x => ?_
  subst he
  refine ⟨lim.keeps x.toInCall.keep, codeAny_func ?_⟩
  obtain ⟨t, ht, hq⟩ := hbody A outer s H vs Q E hgd (hr.deeper _) hsp
  have I : Inv (cxOf CX P w K mg base N qual scope f cdv A outer s H E) [] (start N vs) H s1 := inv_start S hr.hd e0 hlen r x
  refine wpAny_mono (ht.run [] s1 (start N vs) H _ I hq) (fun fl s' hs => ?_) fun e s' hs => hs
  cases fl with
  | ret u =>
    obtain ⟨v, σ', H', J, rv, q⟩ := hs
    exact ⟨v, H', J.os, J.bare, J.base, J.hok, rv, q⟩
  | next =>
    obtain ⟨σ', H', J, q⟩ := hs
    exact ⟨V.non, H', J.os, J.bare, J.base, J.hok, rfl, q⟩
  | brk =>
    obtain ⟨_, _, _, q⟩ := hs
    exact q.elim
  | cont =>
    obtain ⟨_, _, _, q⟩ := hs
    exact q.elim
end

section
variable {X : Cx} {CX : CXT} {k : Nat} {f : Addr} {fd : FuncData} {ps : List Str} {sp : Sp} {E : XK} {x : Str} {p pos : Pos} {e : Expr} {es : List Expr} {t : TA}
theorem pe_callG (F : FnG X.prog X.w X.K X.mg X.base CX k f fd ps sp) (hgd : X.A.guards = some []) (hr : Room k X.A) (hg : Gl X x) (hm : X.mg x = some (.ref f))
    (hk : PySem.W.keepIn X.K (.ref f) = true) (hb : Binds X.K fd ps []) (hx : Passes CX X E) (ha : PA X (e :: es) t) (hdb : (x == ("__debug__" : Str)) = false := by decide)
    (he : starEach (e :: es) X.env = (false, eval e X.env) :: starEach es X.env := by rfl) (hpl : (backTo pos (starEach es X.env)).any (·.1) = false := by rfl) :
    PE X (.Call (.Name x p) (e :: es) [] pos) (tCall sp [] E t) := by
  refine ⟨fun pins s σ H Q I h => wpAny_Call_Name_kw (ld_glob I hg hm ?_ hdb)⟩
  refine PySem.W.callWith_K (h₀ := X.base) I.ok.mod.kin hk (thn (ha.run pos pins s σ H _ I h) fun us s1 ⟨vs, H1, I1, r, q⟩ => ⟨I1.kIn, ?_⟩) he hpl
  have q' : sp vs H1 Q E := by
    have q0 : sp (vs ++ []) H1 Q E := q
    rw [List.append_nil] at q0
    exact q0
  have hl : (us ++ []).length = ps.length := by
    rw [List.append_nil, ← r.length]
    exact F.len _ _ _ _ q'
  have hbt := hb s1 us I1.kIn hl
  rw [List.append_nil] at hbt
  refine wpAny_call (codeAny_mono (F.run X.A X.stack s1 H1 ⟨us, []⟩ us vs Q E hgd hr I1.env0 hbt r q') fun r s' hq => ?_)
  cases r with
  | error e => exact hx pins σ H1 s1 e s' I1 hq
  | ok fl =>
    cases fl with
    | ret u => exact I1.after hq
    | next => exact hq.elim
    | brk => exact hq.elim
    | cont => exact hq.elim
end
end TP

namespace TP
open PySem PySem.Spec PyProof.Rows L2

/-! ### data with dicts: what a value shows -/
def kD : Key → PyData
  | .inl i => .int i
  | .inr x => .str x
mutual
inductive Dr (K : PySem.W.Frag) (H : Hp) : V → PyData → Prop
  | non : Dr K H .non .none
  | bl (b : Bool) : Dr K H (.bl b) (.bool b)
  | int (i : Int) : Dr K H (.int i) (.int i)
  | str (x : Str) : Dr K H (.str x) (.str x)
  | lst {a : Addr} {xs : List V} {ds : List PyData} : SqL K H a xs → DrAll K H xs ds → Dr K H (.ref a) (.list ds)
  | tup {a : Addr} {xs : List V} {ds : List PyData} : SqT K H a xs → DrAll K H xs ds → Dr K H (.ref a) (.tuple ds)
  | dct {a : Addr} {kvs : List (Key × V)} {ds : List (PyData × PyData)} : H a = some (.dK kvs) → DrKv K H kvs ds → Dr K H (.ref a) (.dict ds)
inductive DrAll (K : PySem.W.Frag) (H : Hp) : List V → List PyData → Prop
  | nil : DrAll K H [] []
  | cons {v : V} {vs : List V} {d : PyData} {ds : List PyData} : Dr K H v d → DrAll K H vs ds → DrAll K H (v :: vs) (d :: ds)
inductive DrKv (K : PySem.W.Frag) (H : Hp) : List (Key × V) → List (PyData × PyData) → Prop
  | nil : DrKv K H [] []
  | cons {k : Key} {v : V} {vs : List (Key × V)} {d : PyData} {ds : List (PyData × PyData)} : Dr K H v d → DrKv K H vs ds → DrKv K H ((k, v) :: vs) ((kD k, d) :: ds)
end
/-- the modules' dict is known -/
def SysK (K : PySem.W.Frag) : Prop := ∃ o, K.lookup sysModules = some o ∧ o.cls = .type "dict"
theorem keyReads {h : Heap} {k : Key} {u : Value} (e : keyIs k u = true) : Reads h u (kD k) [] := by
  rcases keyIs_shape e with ⟨i, t, rfl, rfl⟩ | ⟨x, t, rfl, rfl⟩
  · exact Reads.int i t
  · exact Reads.str x t
section
variable {X : Cx} {pins : List (Addr × Obj)} {σ : L2.St} {H : Hp} {s : Shared}
theorem sys_ne (hS : SysK X.K) (I : Inv X pins σ H s) {a : Addr} {o : Obj} (ho : s.heap.get? a = some o) (hc : o.cls ≠ .type "dict") : a ≠ sysModules := fun z => by
  obtain ⟨od, hl, hd⟩ := hS
  have q := I.kIn _ _ hl
  rw [← z, ho] at q
  cases q
  exact hc hd
mutual
theorem Dr.reads (hS : SysK X.K) (I : Inv X pins σ H s) : ∀ (d : PyData) (v : V) (u : Value), Dr X.K H v d → RelV v u → ∃ as, Reads s.heap u d as ∧ sysModules ∉ as
  | .none, _, _, h, r => by
    cases h
    cases r
    exact ⟨_, Reads.none, List.not_mem_nil⟩
  | .bool b, _, _, h, r => by
    cases h
    cases r
    exact ⟨_, Reads.bool b, List.not_mem_nil⟩
  | .int i, _, _, h, r => by
    cases h
    obtain ⟨t, rfl⟩ := r
    exact ⟨_, Reads.int i t, List.not_mem_nil⟩
  | .str x, _, _, h, r => by
    cases h
    obtain ⟨t, rfl⟩ := r
    exact ⟨_, Reads.str x t, List.not_mem_nil⟩
  | .list ds, _, _, h, r => by
    cases h with
    | lst hs ha =>
      cases r
      obtain ⟨its, rv, ⟨o, n, ho, hc, _, hd⟩, _⟩ := I.list hs
      obtain ⟨as, hr, hn⟩ := DrAll.reads hS I ds _ its ha rv
      refine ⟨_, Reads.list ho hc hd hr, fun z => ?_⟩
      rcases List.mem_cons.mp z with e | e
      · exact sys_ne hS I ho (by rw [hc]; decide) e.symm
      · exact hn e
  | .tuple ds, _, _, h, r => by
    cases h with
    | tup hs ha =>
      cases r
      obtain ⟨its, rv, ⟨o, ho, hc, n, hd⟩, _⟩ := I.tuple hs
      obtain ⟨as, hr, hn⟩ := DrAll.reads hS I ds _ its ha rv
      exact ⟨_, Reads.tuple ho hc hd hr, hn⟩
  | .dict ds, _, _, h, r => by
    cases h with
    | dct hs ha =>
      cases r
      obtain ⟨_, hy, vs, rel, o, es, ep, ho, hx, hd, _, hp, _⟩ := dk_of I.hok hs
      obtain ⟨bs, h1, h2, hn⟩ := DrKv.reads hS I ds _ vs es.toList ha rel hp
      refine ⟨_, Reads.dict ho hx.1 hd h1 h2, fun z => ?_⟩
      rcases List.mem_cons.mp (show sysModules ∈ _ :: _ from z) with e | e
      · rw [← e] at hy
        exact absurd hy (by decide)
      · exact hn e
theorem DrAll.reads (hS : SysK X.K) (I : Inv X pins σ H s) : ∀ (ds : List PyData) (vs : List V) (us : List Value), DrAll X.K H vs ds → Vals vs us → ∃ as, ReadsAll s.heap us ds as ∧ sysModules ∉ as
  | [], _, _, h, r => by
    cases h
    cases r
    exact ⟨_, ReadsAll.nil, List.not_mem_nil⟩
  | d :: ds, _, _, h, r => by
    cases h with
    | cons h1 h2 =>
      cases r with
      | cons r1 r2 =>
        obtain ⟨as, a1, n1⟩ := Dr.reads hS I d _ _ h1 r1
        obtain ⟨bs, a2, n2⟩ := DrAll.reads hS I ds _ _ h2 r2
        exact ⟨_, ReadsAll.cons a1 a2, fun z => (List.mem_append.mp z).elim n1 n2⟩
theorem DrKv.reads (hS : SysK X.K) (I : Inv X pins σ H s) : ∀ (ds : List (PyData × PyData)) (kvs : List (Key × V)) (vs : List (Key × Value)) (es : List DictEntry), DrKv X.K H kvs ds → KV kvs vs → Pairs (mixKind X.prog X.w) es vs →
    ∃ bs, ReadsAll s.heap (es.map (·.key)) (ds.map (·.1)) [] ∧ ReadsAll s.heap (es.map (·.val)) (ds.map (·.2)) bs ∧ sysModules ∉ bs
  | [], _, _, _, h, r, p => by
    cases h
    cases r
    cases p
    exact ⟨_, ReadsAll.nil, ReadsAll.nil, List.not_mem_nil⟩
  | (a, d) :: ds, _, _, _, h, r, p => by
    cases h with
    | cons h1 h2 =>
      cases r with
      | cons r1 r2 =>
        cases p with
        | cons p1 p2 p3 =>
          obtain ⟨bs, b1, b2, n2⟩ := DrKv.reads hS I ds _ _ _ h2 r2 p3
          obtain ⟨as, a1, n1⟩ := Dr.reads hS I d _ _ h1 r1.2
          refine ⟨as ++ bs, ReadsAll.cons (as := []) (bs := []) (keyReads (by have e := r1.1; dsimp only at e; rw [e]; exact p1)) b1, ReadsAll.cons (by dsimp only; rw [p2]; exact a1) b2, fun z => (List.mem_append.mp z).elim n1 n2⟩
end
/-- repr(x) of data -/
def rRepr (K : PySem.W.Frag) : List V → Hp → VK → Prop := fun xs H Q => ∃ (x : V) (d : PyData), xs = [x] ∧ Dr K H x d ∧ d.showable = true ∧ d.depth ≤ 50 ∧ d.shown.length ≤ sizeLine ∧ Q (.str d.shown) H
theorem call_reprG (hS : SysK X.K) (hg : X.A.guards = some []) (hu : X.A.units + 64 < cLine) : CallR X (.builtin "repr") (rRepr X.K) := by
  intro pins s σ H xs us Q I r h
  obtain ⟨x, d, rfl, hd, sh, dp, sz, q⟩ := h
  obtain ⟨u, rfl, rx⟩ := vals1 r
  cases hd with
  | non =>
    cases rx
    refine PySem.P.repr_of_none ⟨.str _, H, I.tok _, ⟨_, rfl⟩, ?_⟩
    exact q
  | bl b =>
    cases rx
    refine PySem.P.repr_of_bool ⟨.str _, H, I.tok _, ⟨_, rfl⟩, ?_⟩
    rw [PyData.shown_bool] at q
    exact q
  | int i =>
    obtain ⟨t, rfl⟩ := rx
    refine PySem.P.repr_of_int (of_decide_eq_true sh) ⟨.str _, H, I.tok _, ⟨_, rfl⟩, ?_⟩
    rw [PyData.shown_int] at q
    exact q
  | str z =>
    obtain ⟨t, rfl⟩ := rx
    rw [PyData.shown_str] at q sz
    exact PySem.P.repr_of_str ⟨.str _, H, I.tok _, ⟨_, rfl⟩, q⟩ sz
  | lst a b =>
    cases rx
    obtain ⟨as, hr, hn⟩ := Dr.reads hS I _ _ _ (Dr.lst a b) rfl
    exact repr_of_reads' hr sh (fun _ => hn) hg (by omega) (fun _ _ e => e) (fun h' u tk hk => ⟨.str _, H, I.kept (t' := tk) hk, ⟨_, rfl⟩, q⟩) sz
  | tup a b =>
    cases rx
    obtain ⟨as, hr, hn⟩ := Dr.reads hS I _ _ _ (Dr.tup a b) rfl
    exact repr_of_reads' hr sh (fun _ => hn) hg (by omega) (fun _ _ e => e) (fun h' u tk hk => ⟨.str _, H, I.kept (t' := tk) hk, ⟨_, rfl⟩, q⟩) sz
  | dct a b =>
    cases rx
    obtain ⟨as, hr, hn⟩ := Dr.reads hS I _ _ _ (Dr.dct a b) rfl
    exact repr_of_reads' hr sh (fun _ => hn) hg (by omega) (fun _ _ e => e) (fun h' u tk hk => ⟨.str _, H, I.kept (t' := tk) hk, ⟨_, rfl⟩, q⟩) sz
end
end TP

namespace TP
open PySem PySem.Spec PyProof.Rows L2

/-! ### the head: facts by names, one more Bool, the modules' dict among what is known -/
def asM (g : Addr → Option Obj) (n : Nat) : List Addr := cStatics :: sysModules :: He.asD g n
abbrev AlM : Type := He.AlT × Bool
def obsM (n : Nat) (fa : List He.Fa) (fn : List He.DefD) (ts : List He.Tab) (ex : PySem.W.Frag → Bool) (g : Addr → Option Obj) : AlM :=
  (He.obsT fa fn ts (He.frG g (asM g n)), ex (He.frG g (asM g n)))
def hookM (n : Nat) (fa : List He.Fa) (fn : List He.DefD) (ts : List He.Tab) (ex : PySem.W.Frag → Bool) : PySem.W.Hook where
  α := AlM
  obs := fun s => obsM n fa fn ts ex s.heap.get?
  val := fun w => (He.valT fn ts w, true)
  says := fun w h => ∃ K : PySem.W.Frag, K.In h ∧ He.SaysT fa fn ts w K ∧ ex K = true
  of := fun _ _ e => ⟨_, He.frG_in, congrArg (fun z : AlM => z.1) e, congrArg (fun z : AlM => z.2) e⟩
  keeps := fun _ _ _ ⟨K, hK, c⟩ k => ⟨K, PySem.W.Frag.In.keeps hK k, c⟩
theorem obsM_eq {n : Nat} {fa : List He.Fa} {fn : List He.DefD} {ts : List He.Tab} {ex : PySem.W.Frag → Bool} {g : Addr → Option Obj} {s : Shared} (h : ∀ a, g a = s.heap.get? a) :
    obsM n fa fn ts ex g = (hookM n fa fn ts ex).obs s := by
  have e : g = s.heap.get? := funext h
  rw [e] <;> rfl
/-- what is known of the text behind the top -/
structure Tx (fa : List He.Fa) (fn : List He.DefD) (ts : List He.Tab) (ex : PySem.W.Frag → Bool) (w : World) (K : PySem.W.Frag) (mg : Str → Option Value) : Prop where
  t : He.SaysT fa fn ts w K
  ex : ex K = true
  m : ∃ h : Heap, K.In h ∧ h.Ns mainGlobals mg
section
variable {fa : List He.Fa} {fn : List He.DefD} {ts : List He.Tab} {ex : PySem.W.Frag → Bool} {w : World} {K : PySem.W.Frag} {mg : Str → Option Value}
theorem Tx.c (T : Tx fa fn ts ex w K mg) : He.SaysD fa fn K := T.t.d
theorem Tx.glo (T : Tx fa fn ts ex w K mg) {x : Str} (i : Nat) (h : fa[i]? = some (.glo x) := by rfl) : mg x = some (.ref (He.ga K x)) := by
  obtain ⟨_, hk, g⟩ := T.m
  exact He.glo_ok hk g (T.c.fact i h)
theorem Tx.free (T : Tx fa fn ts ex w K mg) {x : Str} (i : Nat) (h : fa[i]? = some (.free x) := by rfl) : mg x = none := by
  obtain ⟨_, hk, g⟩ := T.m
  exact He.free_ok hk g (T.c.fact i h)
theorem Tx.int (T : Tx fa fn ts ex w K mg) {x : Str} {z : Int} (i : Nat) (h : fa[i]? = some (.int x z) := by rfl) : ∃ t, mg x = some (.int z t) := by
  obtain ⟨_, hk, g⟩ := T.m
  exact He.int_ok hk g (T.c.fact i h)
theorem Tx.str (T : Tx fa fn ts ex w K mg) {x z : Str} (i : Nat) (h : fa[i]? = some (.str x z) := by rfl) : ∃ t, mg x = some (.str z t) := by
  obtain ⟨_, hk, g⟩ := T.m
  exact He.str_ok hk g (T.c.fact i h)
/-- a table of the top: its entries, the keys in order -/
theorem Tx.tab (T : Tx fa fn ts ex w K mg) (i : Nat) {t : He.Tab} (h : ts[i]? = some t := by rfl) : ∃ es n, KDict K w (t.1 K) es n ∧ es.toList.map He.keyOf = He.keysIn w.params t.2 := by
  have e : ts.map (fun t => He.dicW K (t.1 K)) = ts.map fun t => some (He.keysIn w.params t.2) := congrArg (fun z : He.AlT => z.2) T.t
  have e2 : (ts.map fun t => He.dicW K (t.1 K))[i]? = (ts.map fun t => some (He.keysIn w.params t.2))[i]? := by rw [e]
  rw [List.getElem?_map, List.getElem?_map, h] at e2
  have e3 : He.dicW K (t.1 K) = some (He.keysIn w.params t.2) := Option.some.inj e2
  obtain ⟨es, n, D⟩ := He.dicW_ok e3
  refine ⟨es, n, D, ?_⟩
  unfold He.dicW at e3
  rw [D.at_] at e3
  have low := D.low
  simp only [low, decide_true, Array.isEmpty_empty, Bool.not_false, Bool.and_true] at e3
  exact Option.some.inj e3
end
def sysB (K : PySem.W.Frag) : Bool := match K.lookup sysModules with
  | some o => decide (o.cls = .type "dict")
  | none => false
theorem sysB_ok {K : PySem.W.Frag} (h : sysB K = true) : SysK K := by
  unfold sysB at h
  cases q : K.lookup sysModules with
  | none =>
    rw [q] at h
    cases h
  | some o =>
    rw [q] at h
    exact ⟨o, q, of_decide_eq_true h⟩

/-! ### the end -/
theorem law_callG {P : Program} {w : World} {K : PySem.W.Frag} {mg mb : Str → Option Value} {CX : CXT} {k : Nat} {fa a : Addr} {fd : FuncData} {x : Str} {sp : Sp} {s₁ : Shared} {vs : List Value} {ns : List Int}
    (KX : K.In s₁.heap) (hns : s₁.heap.Ns mainGlobals mg) (hb : s₁.heap.Ns builtinsNs mb) (hbb : ∀ x : Str, x ≠ "__name__" → mb x = bootBuiltins x) (hlim : s₁.heap.NoLimit) (hg : s₁.gens = #[])
    (ha : s₁.heap.get? a = some { cls := .type "list", data := .seq vs.toArray }) (hi : IntsAre vs ns) (hl : ns.length ≤ sizeLine) (hr : Room k callerA)
    (F : ∀ base : Heap, K.In base → base.Ns mainGlobals mg → FnG P w K mg base CX k fa fd [x] sp)
    (hbind : ∀ (s : Shared) (u : Value), BindsTo s fd ⟨[u], []⟩ [(x, u)])
    (hsp : ∀ H : Hp, Only H → SqL K H a (ns.map V.int) → sp [.ref a] H (fun v _ => v = .bl true) fun _ _ _ => False)
    (hCX : ∀ H e s', CX [] H s₁ (fun _ _ _ => False) e s' → False) :
    codeAny (model P w) callerA (.call (.ref fa) ⟨[.ref a], []⟩) (fun r s' => r = .ok (.ret (.bool true)) ∧ OldK s₁.heap s'.heap ∧ s'.os = s₁.os ∧ AllBare s'.gens) s₁ := by
  have rv := vals_ints hi
  have lv := hi.length
  have core : ∀ H : Hp, Only H → SqL K H a (ns.map V.int) → HOk P w H s₁.heap → (∀ b, H b ≠ none → b = a) → (H a ≠ none → K.lookup a = none) →
      codeAny (model P w) callerA (.call (.ref fa) ⟨[.ref a], []⟩) (fun r s' => r = .ok (.ret (.bool true)) ∧ OldK s₁.heap s'.heap ∧ s'.os = s₁.os ∧ AllBare s'.gens) s₁ := by
    intro H hO hS hok hA hK
    have keepN : ∀ {b : Addr} {o : Obj} {es : Array DictEntry} {ep : Nat}, s₁.heap.get? b = some o → o.data = .dict es ep → H b = none := fun {b o es ep} e d => by
      cases q : H b with
      | none => rfl
      | some u =>
        obtain rfl : b = a := hA b (by rw [q]; simp)
        rw [ha] at e
        cases e
        cases (show Data.seq vs.toArray _ = Data.dict es ep from d)
    have nsK : ∀ {b : Addr} {m : Str → Option Value}, s₁.heap.Ns b m → (hidT s₁.heap H).Ns b m :=
      fun {b m} ⟨o, es, ep, e, d, r⟩ => ⟨o, es, ep, hidT_get e (keepN e d), d, r⟩
    have kb : K.In (hidT s₁.heap H) := fun b o e => hidT_get (KX b o e) (by
      cases q : H b with
      | none => rfl
      | some u =>
        obtain rfl : b = a := hA b (by rw [q]; simp)
        rw [hK (by rw [q]; simp)] at e
        cases e)
    have md : Mod K mg (hidT s₁.heap H) := ⟨kb, nsK hns, ⟨mb, nsK hb, hbb⟩, let ⟨mc, h1, h2⟩ := hlim; ⟨mc, nsK h1, h2⟩⟩
    have e0 : Env0 P w K mg (hidT s₁.heap H) callerA [] s₁ H :=
      ⟨rfl, md, fun b o e => of_hidT e, Nat.le_of_eq (hidT_size _ _), trivial, fun b hb => absurd (show b ∈ ([] : List Addr) from hb) (by simp), hok, .of_eq hg⟩
    refine codeAny_mono ((F _ kb (nsK hns)).run callerA [] s₁ H ⟨[.ref a], []⟩ [.ref a] [.ref a] _ _ rfl hr e0 (hbind s₁ (.ref a)) (.cons rfl .nil) (hsp H hO hS)) fun r s' h => ?_
    cases r with
    | error e => exact (hCX H e s' h).elim
    | ok fl =>
      cases fl with
      | next => exact h.elim
      | brk => exact h.elim
      | cont => exact h.elim
      | ret u =>
        obtain ⟨v, H', os, bare, un, hok', r', q⟩ := h
        obtain rfl : v = .bl true := q
        obtain rfl : u = Value.bool true := r'
        refine ⟨rfl, OldK.of_keep fun b o e => ?_, os, bare⟩
        cases q : H b with
        | none => exact un.keep b o e q (fun z => absurd (show b ∈ ([] : List Addr) from z) (by simp)) (by simp)
        | some u =>
          rcases hO b with z | ⟨ob, xs, z⟩
          · rw [q] at z
            cases z
          · obtain ⟨e1, _⟩ := hok b _ z
            obtain ⟨e2, _⟩ := hok' b _ (un.frzs b ob _ z)
            rw [e] at e1
            cases e1
            exact e2
  cases hk : K.lookup a with
  | some o =>
    have e := KX a o hk
    rw [ha] at e
    cases e
    exact core (fun _ => none) (fun _ => .inl rfl) (.inr ⟨_, vs.toArray, _, hk, rfl, rfl, rfl, by rw [List.size_toArray, lv]; exact hl, by simpa using rv⟩)
      (fun b u z => nomatch (show (none : Option HO) = some u from z)) (fun b z => absurd rfl z) fun z => absurd rfl z
  | none =>
    refine core (fun b => if b = a then some (.frz { cls := .type "list", data := .seq vs.toArray } (.lst (ns.map V.int))) else none) (fun b => ?_)
      (.inl (.inr ⟨{ cls := .type "list", data := .seq vs.toArray }, if_pos rfl⟩)) (fun b u z => ?_) (fun b z => ?_) fun _ => hk
    · by_cases hb : b = a
      · exact .inr ⟨_, _, if_pos hb⟩
      · exact .inl (if_neg hb)
    · by_cases hb : b = a
      · cases (if_pos hb).symm.trans z
        subst hb
        exact ⟨ha, by rw [List.length_map]; exact hl, vs, _, rv, ha⟩
      · cases (if_neg hb).symm.trans z
    · by_cases hb : b = a
      · exact hb
      · exact absurd (if_neg hb) z
/-- the law's promise: a list of at most 63 ints, of at most 2 ^ 20 bits each; True comes back -/
def spLaw (K : PySem.W.Frag) : Sp := fun vs H Q _ => ∃ (a : Addr) (ns : List Int), vs = [.ref a] ∧ SqL K H a (ns.map V.int) ∧ ns.length ≤ 63 ∧ (∀ z ∈ ns, Builtin.Int.intBits z ≤ 1048576) ∧ ∀ H', Q (.bl true) H'
theorem walkM {l : PySem.W.OpenLaw} {k N : Nat} {q : Program} {loose : List Str} {XP : (Str → Option Value) → Heap → Prop} {d : DefRec} {x : Str}
    {fa : List He.Fa} {fn : List He.DefD} {ts : List He.Tab} {ex : PySem.W.Frag → Bool}
    (hn : l.most = some 63) (hdf : d.params.defaults = []) (hr : Room k callerA) (hnm : d.name = ("law" : Str))
    (F : ∀ (w : World) (mg : Str → Option Value) (K : PySem.W.Frag), Tx fa fn ts ex w K mg →
      ∃ fd : FuncData, mg "law" = some (.ref (He.ga K "law")) ∧ (∀ (s : Shared) (u : Value), BindsTo s fd ⟨[u], []⟩ [(x, u)]) ∧ ∀ base : Heap, FnG l.prog w K mg base CX0 k (He.ga K "law") fd [x] (spLaw K)) :
    PySem.W.WalkO q loose XP (hookM N fa fn ts ex).says l.row.toRowW d [] (fun f vs => PySem.call f vs) := by
  refine Att.attach_callB hn hdf fun w s₀ s₁ mg mb fA o pm cd doc a vs ns G Y ho hd hcd hmg hobj hints hlen hbits hg => ?_
  obtain ⟨K, KX, c, e⟩ := Y
  obtain ⟨fd, h0, hb, hF⟩ := F w mg K ⟨c, e, _, KX, G.T.g⟩
  rw [hnm, h0] at hmg
  cases hmg
  exact law_callG KX G.T.g G.T.b G.T.builtins G.T.nolimit hg hobj hints (Nat.le_trans hlen (by decide)) hr (fun base _ _ => hF base) hb
    (fun H hO hS => ⟨a, ns, rfl, hS, hlen, hbits, fun _ => rfl⟩) fun _ _ _ z => z
end TP

namespace TP
open PySem PySem.Spec PyProof.Rows L2

/-! ### a def called by its module's name -/
structure Gt (P : Program) (w : World) (K : PySem.W.Frag) (mg : Str → Option Value) (base : Heap) (CX : CXT) (k : Nat) (x : Str) (ps : List Str) (sp : Sp) : Prop where
  ex : ∃ f fd, mg x = some (.ref f) ∧ PySem.W.keepIn K (.ref f) = true ∧ Binds K fd ps [] ∧ FnOk P w K mg base CX k f fd ps sp
structure GtG (P : Program) (w : World) (K : PySem.W.Frag) (mg : Str → Option Value) (base : Heap) (CX : CXT) (k : Nat) (x : Str) (ps : List Str) (sp : Sp) : Prop where
  ex : ∃ f fd, mg x = some (.ref f) ∧ PySem.W.keepIn K (.ref f) = true ∧ Binds K fd ps [] ∧ FnG P w K mg base CX k f fd ps sp
section
variable {X : Cx} {CX : CXT} {k : Nat} {ps : List Str} {sp : Sp} {E : XK} {x : Str} {p pos : Pos} {e : Expr} {es : List Expr} {t : TA}
theorem Gt.pe (G : Gt X.prog X.w X.K X.mg X.base CX0 k x ps sp) (hr : Room k X.A) (ha : PA X (e :: es) t) (hg : Gl X x := by rfl) (hdb : (x == ("__debug__" : Str)) = false := by decide)
    (he : starEach (e :: es) X.env = (false, eval e X.env) :: starEach es X.env := by rfl) (hpl : (backTo pos (starEach es X.env)).any (·.1) = false := by rfl) :
    PE X (.Call (.Name x p) (e :: es) [] pos) (tCall sp [] E0 t) := by
  obtain ⟨f, fd, hm, hk, hb, F⟩ := G.ex
  exact pe_call F hr hg hm hk hb .nil pass0 ha hdb he hpl
theorem Gt.peX (G : Gt X.prog X.w X.K X.mg X.base CX k x ps sp) (hr : Room k X.A) (hx : Passes CX X E) (ha : PA X (e :: es) t) (hg : Gl X x := by rfl) (hdb : (x == ("__debug__" : Str)) = false := by decide)
    (he : starEach (e :: es) X.env = (false, eval e X.env) :: starEach es X.env := by rfl) (hpl : (backTo pos (starEach es X.env)).any (·.1) = false := by rfl) :
    PE X (.Call (.Name x p) (e :: es) [] pos) (tCall sp [] E t) := by
  obtain ⟨f, fd, hm, hk, hb, F⟩ := G.ex
  exact pe_call F hr hg hm hk hb .nil hx ha hdb he hpl
theorem GtG.pe (G : GtG X.prog X.w X.K X.mg X.base CX0 k x ps sp) (hgd : X.A.guards = some []) (hr : Room k X.A) (ha : PA X (e :: es) t) (hg : Gl X x := by rfl) (hdb : (x == ("__debug__" : Str)) = false := by decide)
    (he : starEach (e :: es) X.env = (false, eval e X.env) :: starEach es X.env := by rfl) (hpl : (backTo pos (starEach es X.env)).any (·.1) = false := by rfl) :
    PE X (.Call (.Name x p) (e :: es) [] pos) (tCall sp [] E0 t) := by
  obtain ⟨f, fd, hm, hk, hb, F⟩ := G.ex
  exact pe_callG F hgd hr hg hm hk hb pass0 ha hdb he hpl
end
section
variable {P : Program} {w : World} {K : PySem.W.Frag} {mg : Str → Option Value} {base : Heap} {CX : CXT} {k : Nat} {x : Str} {ps : List Str} {sp sp' : Sp}
theorem Gt.mono {j : Nat} (G : Gt P w K mg base CX j x ps sp) (h : j ≤ k) : Gt P w K mg base CX k x ps sp := by
  obtain ⟨f, fd, hm, hk, hb, F⟩ := G.ex
  exact ⟨f, fd, hm, hk, hb, F.mono h⟩
theorem Gt.imp (G : Gt P w K mg base CX k x ps sp) (h : ∀ vs H Q E, sp' vs H Q E → sp vs H Q E) : Gt P w K mg base CX k x ps sp' := by
  obtain ⟨f, fd, hm, hk, hb, F⟩ := G.ex
  exact ⟨f, fd, hm, hk, hb, F.imp h⟩
/-- what is to be shown of a def's body -/
abbrev BodyOk (P : Program) (w : World) (K : PySem.W.Frag) (mg : Str → Option Value) (base : Heap) (k : Nat) (N : List Str) (d : He.DefD) (sp : Sp) : Prop :=
  ∀ (f : Addr) (cdv : Value) (A : Around) (outer : List Env) (s : Shared) (H : Hp) (vs : List V) (Q : VK) (E : XK), Room k (A.deeper (envOfC d.qual d.scope s.heap.objs.size f cdv)) → sp vs H Q E →
      ∃ t, PSs (cxOf CX0 P w K mg base N d.qual d.scope f cdv A outer s H E).nox d.body t ∧ t { nx := fun _ H' => Q .non H', rt := Q } (start N vs) H
abbrev BodyOkX (P : Program) (w : World) (K : PySem.W.Frag) (mg : Str → Option Value) (base : Heap) (k : Nat) (N : List Str) (d : He.DefD) (sp : Sp) : Prop :=
  ∀ (f : Addr) (cdv : Value) (A : Around) (outer : List Env) (s : Shared) (H : Hp) (vs : List V) (Q : VK) (E : XK), Room k (A.deeper (envOfC d.qual d.scope s.heap.objs.size f cdv)) → sp vs H Q E →
      ∃ t, PSs (cxOf (L2.CX P w) P w K mg base N d.qual d.scope f cdv A outer s H E) d.body t ∧ t { nx := fun _ H' => Q .non H', rt := Q } (start N vs) H
abbrev BodyOkG (P : Program) (w : World) (K : PySem.W.Frag) (mg : Str → Option Value) (base : Heap) (k : Nat) (N : List Str) (d : He.DefD) (sp : Sp) : Prop :=
  ∀ (f : Addr) (cdv : Value) (A : Around) (outer : List Env) (s : Shared) (H : Hp) (vs : List V) (Q : VK) (E : XK), A.guards = some [] → Room k (A.deeper (envOfC d.qual d.scope s.heap.objs.size f cdv)) → sp vs H Q E →
      ∃ t, PSs (cxOf CX0 P w K mg base N d.qual d.scope f cdv A outer s H E).nox d.body t ∧ t { nx := fun _ H' => Q .non H', rt := Q } (start N vs) H
abbrev IsDef (K : PySem.W.Frag) (d : He.DefD) : Prop := ∃ fd, FunD K d.name d.qual d.params d.body d.scope (d.dvs K) (d.kws K) (He.fAd K d.at_) fd
abbrev BindN (d : He.DefD) (ps : List Str) : Prop := ∀ (kV doc pm : Value) (an : Option Addr) (cdv ct : Value) (us : List Value), us.length = ps.length →
  bindArgs (PySem.W.fnOf d.name d.qual d.params d.body d.scope .none kV doc pm an cdv ct) ⟨us, []⟩ = pure (ps.zip us)
theorem fn_ok0 {N : List Str} {d : He.DefD} {f : Addr} {fd : FuncData} (F : FunD K d.name d.qual d.params d.body d.scope (d.dvs K) (d.kws K) f fd) (S : FnScope N ps d.scope)
    (len : ∀ vs H Q E, sp vs H Q E → vs.length = ps.length) (B : BodyOk P w K mg base k N d sp) : FnOk P w K mg base CX0 (k + 1) f fd ps sp :=
  F.ok S len fun cdv A outer s H vs Q E hr h => by
    obtain ⟨t, h1, h2⟩ := B f cdv A outer s H vs Q E hr h
    exact ⟨t, h1.nox, h2⟩
theorem fn_okX {N : List Str} {d : He.DefD} {f : Addr} {fd : FuncData} (F : FunD K d.name d.qual d.params d.body d.scope (d.dvs K) (d.kws K) f fd) (S : FnScope N ps d.scope)
    (len : ∀ vs H Q E, sp vs H Q E → vs.length = ps.length) (B : BodyOkX P w K mg base k N d sp) : FnOk P w K mg base (L2.CX P w) (k + 1) f fd ps sp :=
  F.ok S len fun cdv A outer s H vs Q E hr h => B f cdv A outer s H vs Q E hr h
theorem fn_okG {N : List Str} {d : He.DefD} {f : Addr} {fd : FuncData} (F : FunD K d.name d.qual d.params d.body d.scope (d.dvs K) (d.kws K) f fd) (S : FnScope N ps d.scope)
    (len : ∀ vs H Q E, sp vs H Q E → vs.length = ps.length) (B : BodyOkG P w K mg base k N d sp) : FnG P w K mg base CX0 (k + 1) f fd ps sp := by
  obtain ⟨oc, od, dV, kV, doc, pm, an, cdv, ct, osl, rfl, lk, hcd, _, _⟩ := F.ex
  exact fnG_of lk hcd S len fun A outer s H vs Q E hg hr h => by
    obtain ⟨t, h1, h2⟩ := B f cdv A outer s H vs Q E hg hr h
    exact ⟨t, h1.nox, h2⟩
theorem gt_mk {N : List Str} {d : He.DefD} (D : IsDef K d) (g : mg x = some (.ref (He.fAd K d.at_))) (S : FnScope N ps d.scope) (hd : d.dfl = []) (hb : BindN d ps)
    (len : ∀ vs H Q E, sp vs H Q E → vs.length = ps.length) (B : BodyOk P w K mg base k N d sp) : Gt P w K mg base CX0 (k + 1) x ps sp := by
  obtain ⟨fd, F⟩ := D
  refine ⟨_, fd, g, F.kp, ?_, fn_ok0 F S len B⟩
  have e : d.dvs K = [] := by unfold He.DefD.dvs; rw [hd]; rfl
  rw [e] at F
  exact F.bindsN hb
theorem gtX_mk {N : List Str} {d : He.DefD} (D : IsDef K d) (g : mg x = some (.ref (He.fAd K d.at_))) (S : FnScope N ps d.scope) (hd : d.dfl = []) (hb : BindN d ps)
    (len : ∀ vs H Q E, sp vs H Q E → vs.length = ps.length) (B : BodyOkX P w K mg base k N d sp) : Gt P w K mg base (L2.CX P w) (k + 1) x ps sp := by
  obtain ⟨fd, F⟩ := D
  refine ⟨_, fd, g, F.kp, ?_, fn_okX F S len B⟩
  have e : d.dvs K = [] := by unfold He.DefD.dvs; rw [hd]; rfl
  rw [e] at F
  exact F.bindsN hb
theorem gtG_mk {N : List Str} {d : He.DefD} (D : IsDef K d) (g : mg x = some (.ref (He.fAd K d.at_))) (S : FnScope N ps d.scope) (hd : d.dfl = []) (hb : BindN d ps)
    (len : ∀ vs H Q E, sp vs H Q E → vs.length = ps.length) (B : BodyOkG P w K mg base k N d sp) : GtG P w K mg base CX0 (k + 1) x ps sp := by
  obtain ⟨fd, F⟩ := D
  refine ⟨_, fd, g, F.kp, ?_, fn_okG F S len B⟩
  have e : d.dvs K = [] := by unfold He.DefD.dvs; rw [hd]; rfl
  rw [e] at F
  exact F.bindsN hb
/-- for walkM -/
theorem law_fd {N : List Str} {d : He.DefD} (D : IsDef K d) (S : FnScope N [x] d.scope) (hd : d.dfl = []) (hb : BindN d [x])
    (len : ∀ vs H Q E, sp vs H Q E → vs.length = [x].length) (B : ∀ base, BodyOkG P w K mg base k N d sp) :
    ∃ fd : FuncData, (∀ (s : Shared) (u : Value), BindsTo s fd ⟨[u], []⟩ [(x, u)]) ∧ ∀ base : Heap, FnG P w K mg base CX0 (k + 1) (He.fAd K d.at_) fd [x] sp := by
  obtain ⟨fd, F⟩ := D
  have F0 := F
  have e : d.dvs K = [] := by unfold He.DefD.dvs; rw [hd]; rfl
  rw [e] at F
  exact ⟨fd, fun s u => F.bindsA hb s [u] rfl, fun base => fn_okG F0 S len (B base)⟩
end

/-! ### names of the module -/
section
variable {X : Cx} {x : Str} {pos : Pos}
theorem pe_gint {i : Int} (h : ∃ t, X.mg x = some (.int i t)) (hg : Gl X x := by rfl) (hd : (x == ("__debug__" : Str)) = false := by decide) : PE X (.Name x pos) (tC (.int i)) := by
  obtain ⟨t, h⟩ := h
  exact pe_glob hg h ⟨t, rfl⟩ hd
theorem pe_gstr {z : Str} (h : ∃ t, X.mg x = some (.str z t)) (hg : Gl X x := by rfl) (hd : (x == ("__debug__" : Str)) = false := by decide) : PE X (.Name x pos) (tC (.str z)) := by
  obtain ⟨t, h⟩ := h
  exact pe_glob hg h ⟨t, rfl⟩ hd
theorem pe_gref {a : Addr} (h : X.mg x = some (.ref a)) (hg : Gl X x := by rfl) (hd : (x == ("__debug__" : Str)) = false := by decide) : PE X (.Name x pos) (tC (.ref a)) := pe_glob hg h rfl hd
theorem pe_gty {n : String} (h : X.mg x = none) (hv : bootBuiltins x = some (.type n)) (hg : Gl X x := by rfl) (hn : x ≠ "__name__" := by decide) (hd : (x == ("__debug__" : Str)) = false := by decide) : PE X (.Name x pos) (tC (.ty n)) := pe_bltn hg h hv rfl hn hd
end
/-! ### heaps: all that was told but one object stays -/
def Wk (a : Addr) (H H' : Hp) : Prop := ∀ b o, b ≠ a → H b = some o → H' b = some o
theorem Wk.refl (a : Addr) (H : Hp) : Wk a H H := fun _ _ _ h => h
theorem Wk.trans {a : Addr} {H H1 H2 : Hp} (x : Wk a H H1) (y : Wk a H1 H2) : Wk a H H2 := fun b o n h => y b o n (x b o n h)
theorem Wk.set {a : Addr} {H H' : Hp} {o : HO} (x : Wk a H H') : Wk a H (upd H' a o) := fun b u n h => by
  rw [upd_ne n]
  exact x b u n h
theorem Wk.new {a p : Addr} {H H' : Hp} {o : HO} (x : Wk a H H') (hp : H' p = none) : Wk a H (upd H' p o) := fun b u n h => by
  rw [upd_ne (ne_of_none (x b u n h) hp)]
  exact x b u n h
/-! ### the well of draws -/
def Wl (H : Hp) (a : Addr) (n : Nat) : Prop := ∃ x y c : Int, H a = some (.lst [.int x, .int y, .int c]) ∧ 0 ≤ x ∧ 0 ≤ y ∧ y < 2147483647 ∧ 0 ≤ c ∧ c ≤ n
theorem Wl.mono {H : Hp} {a : Addr} {n m : Nat} (h : Wl H a n) (l : n ≤ m) : Wl H a m := by
  obtain ⟨x, y, c, e, h1, h2, h3, h4, h5⟩ := h
  exact ⟨x, y, c, e, h1, h2, h3, h4, by omega⟩
theorem Wl.new {H : Hp} {a p : Addr} {o : HO} {n : Nat} (h : Wl H a n) (hp : H p = none) : Wl (upd H p o) a n := by
  obtain ⟨x, y, c, e, r⟩ := h
  exact ⟨x, y, c, by rw [upd_ne (ne_of_none e hp)]; exact e, r⟩
theorem Wl.some {H : Hp} {a : Addr} {n : Nat} (h : Wl H a n) : ∃ o, H a = some o := by
  obtain ⟨x, y, c, e, _⟩ := h
  exact ⟨_, e⟩
/-- a draw's end: the well a has gone on from at most n to at most m draws, all else stays -/
structure Dn (a : Addr) (m : Nat) (H H' : Hp) : Prop where
  wl : Wl H' a m
  k : Wk a H H'
theorem Dn.free {a p : Addr} {m : Nat} {H H' : Hp} (d : Dn a m H H') (h : H' p = none) : H p = none := by
  cases q : H p with
  | none => rfl
  | some o =>
    by_cases e : p = a
    · obtain ⟨u, hu⟩ := d.wl.some
      rw [e, hu] at h
      cases h
    · rw [d.k p o e q] at h
      cases h
theorem Dn.trans {a : Addr} {n m : Nat} {H H1 H2 : Hp} (x : Dn a n H H1) (y : Dn a m H1 H2) : Dn a m H H2 := ⟨y.wl, x.k.trans y.k⟩
theorem Dn.new {a p : Addr} {m : Nat} {H H' : Hp} {o : HO} (x : Dn a m H H') (hp : H' p = none) : Dn a m H (upd H' p o) := ⟨x.wl.new hp, x.k.new hp⟩
theorem Dn.mono {a : Addr} {m n : Nat} {H H' : Hp} (x : Dn a m H H') (l : m ≤ n) : Dn a n H H' := ⟨x.wl.mono l, x.k⟩
theorem Dn.at {a b : Addr} {m : Nat} {H H' : Hp} {o : HO} (d : Dn a m H H') (h : H b = some o) (n : b ≠ a) : H' b = some o := d.k b o n h
theorem Dn.rd {a b : Addr} {m : Nat} {H H' : Hp} {u : HO} (d : Dn a m H H') (h : Rd H b u) (n : b ≠ a) : Rd H' b u := by
  rcases h with h | ⟨o, h⟩
  · exact .inl (d.k b _ n h)
  · exact .inr ⟨o, d.k b _ n h⟩
theorem Dn.sql {K : PySem.W.Frag} {a b : Addr} {m : Nat} {H H' : Hp} {xs : List V} (d : Dn a m H H') (h : SqL K H b xs) (n : b ≠ a) : SqL K H' b xs := by
  rcases h with h | h
  · exact .inl (d.rd h n)
  · exact .inr h
theorem Dn.sqt {K : PySem.W.Frag} {a b : Addr} {m : Nat} {H H' : Hp} {xs : List V} (d : Dn a m H H') (h : SqT K H b xs) (n : b ≠ a) : SqT K H' b xs := by
  rcases h with h | h
  · exact .inl (d.rd h n)
  · exact .inr h
theorem log2_small_of {m : Nat} (h : m < 2 ^ 64) : m.log2 < 9000 := by
  by_cases h0 : m = 0
  · subst h0
    decide
  · exact Nat.lt_of_lt_of_le ((Nat.log2_lt h0).mpr h) (by decide)
/-- the promise of a draw -/
def spDraw : Sp := fun vs H Q _ => ∃ (a : Addr) (n : Nat) (m : Int), vs = [.ref a, .int m] ∧ Wl H a n ∧ n < 1000000 ∧ 0 < m ∧ m.natAbs.log2 < 9000 ∧
  ∀ (d : Int) (H' : Hp), 0 ≤ d → d < m → Dn a (n + 1) H H' → Q (.int d) H'
/-- the promise of a well -/
def spWell : Sp := fun vs H Q _ => ∃ z : Int, vs = [.int z] ∧ ∀ (a : Addr) (H' : Hp), H a = none → Wl H' a 0 → Evl.Ex H H' → Q (.ref a) H'
/-- one of some: the item at a drawn place -/
def spOne (K : PySem.W.Frag) : Sp := fun vs H Q _ => ∃ (a l : Addr) (n : Nat) (xs : List V), vs = [.ref a, .ref l] ∧ Wl H a n ∧ n < 1000000 ∧ SqL K H l xs ∧ l ≠ a ∧ 0 < xs.length ∧ xs.length ≤ 1000000 ∧
  ∀ (v : V) (H' : Hp), v ∈ xs → Dn a (n + 1) H H' → Q v H'
end TP

namespace TP
open PySem PySem.Spec PyProof.Rows L2

/-! ### the heap without one object -/
def hid (a : Addr) (H : Hp) : Hp := fun b => if b = a then none else H b
theorem hid_ne {a b : Addr} {H : Hp} (h : b ≠ a) : hid a H b = H b := if_neg h
theorem hid_same {a : Addr} {H : Hp} : hid a H a = none := if_pos rfl
theorem hid_ex {a : Addr} {H : Hp} : Evl.Ex (hid a H) H := fun b o h => by
  by_cases e : b = a
  · rw [e, hid_same] at h
    cases h
  · rwa [hid_ne e] at h
theorem hid_of {a b : Addr} {H : Hp} {o : HO} (h : H b = some o) (n : b ≠ a) : hid a H b = some o := by rw [hid_ne n]; exact h
theorem Wk.hx {a : Addr} {H H' : Hp} (k : Wk a H H') : Evl.Ex (hid a H) (hid a H') := fun b o h => by
  by_cases e : b = a
  · rw [e, hid_same] at h
    cases h
  · rw [hid_ne e] at h ⊢
    exact k b o e h
theorem Dn.hx {a : Addr} {m : Nat} {H H' : Hp} (d : Dn a m H H') : Evl.Ex (hid a H) (hid a H') := d.k.hx
theorem hid_new {a p : Addr} {H : Hp} {o : HO} (hp : H p = none) : Evl.Ex (hid a H) (hid a (upd H p o)) := (Wk.new (Wk.refl a H) hp).hx
theorem hid_at {a p : Addr} {H : Hp} {o : HO} (n : p ≠ a) : hid a (upd H p o) p = some o := by rw [hid_ne n, upd_same]
theorem Wl.nep {H : Hp} {a p : Addr} {n : Nat} (h : Wl H a n) (hp : H p = none) : p ≠ a := fun e => by
  obtain ⟨o, ho⟩ := h.some
  rw [e, ho] at hp
  cases hp
theorem Ex.wl {H H' : Hp} {a : Addr} {n : Nat} (e : Evl.Ex H H') (h : Wl H a n) : Wl H' a n := by
  obtain ⟨x, y, c, ea, r⟩ := h
  exact ⟨x, y, c, e _ _ ea, r⟩
theorem Ex.wk {H H' : Hp} (a : Addr) (e : Evl.Ex H H') : Wk a H H' := fun b o _ h => e b o h
theorem Ex.free {H H' : Hp} {p : Addr} (e : Evl.Ex H H') (h : H' p = none) : H p = none := by
  cases q : H p with
  | none => rfl
  | some o =>
    rw [e p o q] at h
    cases h

/-! ### things over larger heaps -/
mutual
theorem Dr.ex {K : PySem.W.Frag} {H H' : Hp} (x : Evl.Ex H H') : ∀ (d : PyData) (v : V), Dr K H v d → Dr K H' v d
  | .none, _, h => by cases h; exact .non
  | .bool _, _, h => by cases h; exact .bl _
  | .int _, _, h => by cases h; exact .int _
  | .str _, _, h => by cases h; exact .str _
  | .list ds, _, h => by
    cases h with
    | lst a b => exact .lst (Evl.ex_l x a) (DrAll.ex x ds _ b)
  | .tuple ds, _, h => by
    cases h with
    | tup a b => exact .tup (Evl.ex_t x a) (DrAll.ex x ds _ b)
  | .dict ds, _, h => by
    cases h with
    | dct a b => exact .dct (x _ _ a) (DrKv.ex x ds _ b)
theorem DrAll.ex {K : PySem.W.Frag} {H H' : Hp} (x : Evl.Ex H H') : ∀ (ds : List PyData) (vs : List V), DrAll K H vs ds → DrAll K H' vs ds
  | [], _, h => by cases h; exact .nil
  | d :: ds, _, h => by
    cases h with
    | cons a b => exact .cons (Dr.ex x d _ a) (DrAll.ex x ds _ b)
theorem DrKv.ex {K : PySem.W.Frag} {H H' : Hp} (x : Evl.Ex H H') : ∀ (ds : List (PyData × PyData)) (vs : List (Key × V)), DrKv K H vs ds → DrKv K H' vs ds
  | [], _, h => by cases h; exact .nil
  | (_, d) :: ds, _, h => by
    cases h with
    | cons a b => exact .cons (Dr.ex x d _ a) (DrKv.ex x ds _ b)
end
/-- the name of a thing's class -/
def tyN : PyData → String
  | .none => "NoneType"
  | .bool _ => "bool"
  | .int _ => "int"
  | .str _ => "str"
  | .list _ => "list"
  | .tuple _ => "tuple"
  | .dict _ => "dict"
theorem Dr.ty {K : PySem.W.Frag} {H : Hp} {v : V} {d : PyData} (h : Dr K H v d) : TyX K H v (.type (tyN d)) := by
  cases h with
  | non => exact .base .non
  | bl b => exact .base (.bl b)
  | int i => exact .base (.int i)
  | str x => exact .base (.str x)
  | lst a b =>
    rcases a with (a | ⟨o, a⟩) | a
    · exact .base (.lst a)
    · exact .base (.frz a)
    · obtain ⟨o, its, n, h1, h2, _⟩ := a
      exact .kList h1 h2
  | tup a b =>
    rcases a with (a | ⟨o, a⟩) | a
    · exact .base (.tup a)
    · exact .fTuple a
    · obtain ⟨o, its, n, h1, h2, _⟩ := a
      exact .kTuple h1 h2
  | dct a b => exact .base (.dK a)
/-- isinstance of such a thing -/
def tyNs : List String := ["NoneType", "bool", "int", "str", "list", "tuple", "dict"]
theorem tyN_mem (d : PyData) : tyN d ∈ tyNs := by cases d <;> (unfold tyN tyNs; simp)
theorem kit_tab : ∀ t ∈ tyNs, ∀ c ∈ ["str", "tuple", "list", "dict", "bool"], kitB t c = some (decide (t = c)) := by decide +kernel
theorem kit_tabI : ∀ t ∈ tyNs, kitB t "int" = some (decide (t = "int" ∨ t = "bool")) := by decide +kernel
theorem kit_thing {K : PySem.W.Frag} (d : PyData) {c : String} (hc : c ∈ ["str", "tuple", "list", "dict", "bool"] := by simp) : PySem.W.kitOne K (.type (tyN d)) (.type c) = some (decide (tyN d = c)) :=
  kit_ty (kit_tab _ (tyN_mem d) _ hc)
theorem kit_int {K : PySem.W.Frag} (d : PyData) : PySem.W.kitOne K (.type (tyN d)) (.type "int") = some (decide (tyN d = "int" ∨ tyN d = "bool")) := kit_ty (kit_tabI _ (tyN_mem d))

/-! ### how long what is shown is -/
mutual
def wt : PyData → Nat
  | .none => 4
  | .bool _ => 5
  | .int i => (PyData.shown (.int i)).length
  | .str x => (reprText x).length
  | .list xs => wtAll xs + 3
  | .tuple xs => wtAll xs + 3
  | .dict kvs => wtKv kvs + 3
def wtAll : List PyData → Nat
  | [] => 0
  | x :: xs => wt x + 2 + wtAll xs
def wtKv : List (PyData × PyData) → Nat
  | [] => 0
  | (k, v) :: r => wt k + wt v + 4 + wtKv r
end
mutual
theorem shown_wt : ∀ d : PyData, d.shown.length ≤ wt d
  | .none => by rw [PyData.shown_none, wt]; decide
  | .bool b => by rw [PyData.shown_bool, wt]; cases b <;> decide
  | .int i => by rw [wt]; exact Nat.le_refl _
  | .str x => by rw [PyData.shown_str, wt]; exact Nat.le_refl _
  | .list xs => by
    have h := shownAll_wt xs
    have e : (PyData.list xs).shown = listText (PyData.shownAll xs) := by rw [PyData.shown_list, listText_eq_join]
    have q := listText_len_le (PyData.shownAll xs)
    rw [e, wt]
    rw [PyData.shownAll_length] at q
    omega
  | .tuple xs => by
    have h := shownAll_wt xs
    have e : (PyData.tuple xs).shown = tupleText (PyData.shownAll xs) := by
      rw [PyData.shown_tuple]
      unfold tupleText
      rw [PyData.shownAll_length]
    have q := tupleText_len_le (PyData.shownAll xs)
    rw [e, wt]
    rw [PyData.shownAll_length] at q
    omega
  | .dict kvs => by
    have h := shownKv_wt kvs
    have e : (PyData.dict kvs).shown = dictText (PyData.shownKv kvs) := by rw [PyData.shown_dict]; rfl
    have q := dictText_len_le (PyData.shownKv kvs)
    rw [e, wt]
    rw [PyData.shownKv_length] at q
    omega
theorem shownAll_wt : ∀ xs : List PyData, ((PyData.shownAll xs).map (·.length)).sum + 2 * xs.length ≤ wtAll xs
  | [] => by rw [PyData.shownAll_nil]; simp [wtAll]
  | x :: xs => by
    have h1 := shown_wt x
    have h2 := shownAll_wt xs
    rw [PyData.shownAll_cons, wtAll, List.map_cons, List.sum_cons, List.length_cons]
    omega
theorem shownKv_wt : ∀ kvs : List (PyData × PyData), ((PyData.shownKv kvs).map (·.length)).sum + 2 * kvs.length ≤ wtKv kvs
  | [] => by rw [PyData.shownKv_nil]; simp [wtKv]
  | (k, v) :: r => by
    have h1 := shown_wt k
    have h2 := shown_wt v
    have h3 := shownKv_wt r
    have e : (": " : Str).length = 2 := by decide
    rw [PyData.shownKv_cons, wtKv, List.map_cons, List.sum_cons, List.length_cons, strLen_append, strLen_append, e]
    omega
end
/-- small things: shown by at most B signs, at most 20 deep -/
structure Sm (B : Nat) (d : PyData) : Prop where
  sh : d.showable = true
  wt : wt d ≤ B
  dp : d.depth ≤ 20
theorem Sm.mono {B C : Nat} {d : PyData} (h : Sm B d) (l : B ≤ C) : Sm C d := ⟨h.sh, Nat.le_trans h.wt l, h.dp⟩
theorem Sm.rp {B : Nat} {d : PyData} (h : Sm B d) (hb : B ≤ 1000000 := by decide) : d.showable = true ∧ d.depth ≤ 50 ∧ d.shown.length ≤ sizeLine :=
  ⟨h.sh, Nat.le_trans h.dp (by decide), Nat.le_trans (shown_wt d) (Nat.le_trans h.wt (Nat.le_trans hb (by decide)))⟩
theorem Sm.repr {K : PySem.W.Frag} {B : Nat} {d : PyData} {H : Hp} {v : V} {Q : VK} (h : Sm B d) (hb : B ≤ 1000000) (hd : Dr K H v d) (q : Q (.str d.shown) H) : rRepr K [v] H Q :=
  ⟨v, d, rfl, hd, h.sh, Nat.le_trans h.dp (by decide), Nat.le_trans (shown_wt d) (Nat.le_trans h.wt (Nat.le_trans hb (by decide))), q⟩

/-! ### texts -/
def rRepS : R2 := fun x y H Q => ∃ (z : Str) (n : Int), x = .str z ∧ y = .int n ∧ z.length ≤ 1000 ∧ 0 ≤ n ∧ n ≤ 1000 ∧ Q (.str (Txt.mul z n)) H
theorem op_repS {X : Cx} : OpR X (binaryOp .Mult) rRepS := by
  intro pins s σ H x y v u Q I rx ry h
  obtain ⟨z, n, rfl, rfl, hz, h0, h1, q⟩ := h
  obtain ⟨t, rfl⟩ := rx
  obtain ⟨t', rfl⟩ := ry
  refine SB.mul ⟨?_, fun a _ => ?_, fun a _ => ?_⟩ fun t' k => ⟨.str _, H, I.tok k, ⟨_, rfl⟩, q⟩
  · simp only [Bool.or_eq_false_iff, decide_eq_false_iff_not]
    omega
  · have : (1000 : Int) ≤ (2 ^ 63 - 1) / n := by
      rw [Int.le_ediv_iff_mul_le (by omega)]
      omega
    omega
  · have hm : z.length * n.toNat ≤ 1000 * 1000 := Nat.mul_le_mul hz (by omega)
    unfold Builtin.Str.tooLong
    simp only [decide_eq_false_iff_not]
    have : sizeLine = 16777216 := sizeLine_eq
    omega
end TP

namespace TP
open PySem PySem.Spec PyProof.Rows L2

/-! ### names -/
def LT : Str := "abcdefghijklmnopqrstuvwxyz"
theorem LT_list : LT.cps.toList = [97, 98, 99, 100, 101, 102, 103, 104, 105, 106, 107, 108, 109, 110, 111, 112, 113, 114, 115, 116, 117, 118, 119, 120, 121, 122] := by decide +kernel
theorem LT_mem {c : Nat} : c ∈ LT.cps.toList ↔ 97 ≤ c ∧ c ≤ 122 := by
  rw [LT_list]
  simp only [List.mem_cons, List.not_mem_nil, or_false]
  omega
def isNm (z : Str) : Bool := decide (1 ≤ z.length) && (decide (z.length ≤ 8) && z.cps.toList.all fun c => decide (c ∈ LT.cps.toList))
structure NmP (z : Str) : Prop where
  lo : 1 ≤ z.length
  hi : z.length ≤ 8
  sg : ∀ c ∈ z.cps.toList, c ∈ LT.cps.toList
theorem isNm_iff {z : Str} : isNm z = true ↔ NmP z := by
  unfold isNm
  simp only [Bool.and_eq_true, decide_eq_true_eq, List.all_eq_true]
  exact ⟨fun h => ⟨h.1, h.2.1, h.2.2⟩, fun h => ⟨h.lo, h.hi, h.sg⟩⟩
def isNmD : PyData → Bool
  | .str z => isNm z
  | _ => false
def isAdD : PyData → Bool
  | .tuple [a, b] => isNmD a && isNmD b
  | _ => false
theorem strLen (z : Str) : z.length = z.cps.toList.length := by show z.cps.size = _; simp
theorem NmP.short {z : Str} (h : NmP z) : (reprText z).length ≤ 82 := by
  have := StrLaws.reprText_len z (fun c hc => by have := LT_mem.mp (h.sg c hc); omega)
  have := h.hi
  omega
/-- the promise of a drawn name -/
def spName : Sp := fun vs H Q _ => ∃ (a : Addr) (n : Nat), vs = [.ref a] ∧ Wl H a n ∧ n < 900000 ∧ ∀ (z : Str) (H' : Hp), NmP z → Dn a (n + 20) H H' → Q (.str z) H'
/-- is_name(x), x any thing -/
def spIsName (K : PySem.W.Frag) : Sp := fun vs H Q _ => ∃ (x : V) (d : PyData), vs = [x] ∧ Dr K H x d ∧ (∀ z, d = .str z → z.length ≤ 1000000) ∧ ∀ H', Evl.Ex H H' → Q (.bl (isNmD d)) H'
def spIsAddr (K : PySem.W.Frag) : Sp := fun vs H Q _ => ∃ (x : V) (d : PyData), vs = [x] ∧ Dr K H x d ∧ (∀ ds, d = .tuple ds → ∀ e ∈ ds, ∀ z, e = .str z → z.length ≤ 1000000) ∧ ∀ H', Evl.Ex H H' → Q (.bl (isAdD d)) H'
theorem Dr.str_of {K : PySem.W.Frag} {H : Hp} {x : V} {d : PyData} (h : Dr K H x d) (e : tyN d = "str") : ∃ z, x = .str z ∧ d = .str z := by
  cases h with
  | str z => exact ⟨z, rfl, rfl⟩
  | non => exact (by simp [tyN] at e)
  | bl b => exact (by simp [tyN] at e)
  | int i => exact (by simp [tyN] at e)
  | lst a b => exact (by simp [tyN] at e)
  | tup a b => exact (by simp [tyN] at e)
  | dct a b => exact (by simp [tyN] at e)
theorem Dr.tup_of {K : PySem.W.Frag} {H : Hp} {x : V} {d : PyData} (h : Dr K H x d) (e : tyN d = "tuple") : ∃ a xs ds, x = .ref a ∧ d = .tuple ds ∧ SqT K H a xs ∧ DrAll K H xs ds := by
  cases h with
  | tup a b => exact ⟨_, _, _, rfl, rfl, a, b⟩
  | non => exact (by simp [tyN] at e)
  | bl b => exact (by simp [tyN] at e)
  | int i => exact (by simp [tyN] at e)
  | lst a b => exact (by simp [tyN] at e)
  | str z => exact (by simp [tyN] at e)
  | dct a b => exact (by simp [tyN] at e)
theorem isNmD_no {d : PyData} (h : ¬ tyN d = "str") : isNmD d = false := by
  cases d <;> first | rfl | exact absurd rfl h
theorem isAdD_no {d : PyData} (h : ¬ tyN d = "tuple") : isAdD d = false := by
  cases d <;> first | rfl | exact absurd rfl h
theorem DrAll.len {K : PySem.W.Frag} {H : Hp} : ∀ {xs : List V} {ds : List PyData}, DrAll K H xs ds → xs.length = ds.length
  | _, _, .nil => rfl
  | _, _, .cons _ h => by rw [List.length_cons, List.length_cons, DrAll.len h]
theorem DrAll.at {K : PySem.W.Frag} {H : Hp} : ∀ {xs : List V} {ds : List PyData} {i : Nat} {x : V}, DrAll K H xs ds → xs[i]? = some x → ∃ d, ds[i]? = some d ∧ Dr K H x d
  | _, _, 0, _, .cons h _, e => by
    cases e
    exact ⟨_, rfl, h⟩
  | _, _, i + 1, _, .cons _ h, e => by
    obtain ⟨d, h1, h2⟩ := DrAll.at (i := i) h (by simpa using e)
    exact ⟨d, by simpa using h1, h2⟩
theorem atC_of {cs : List Nat} {z : Int} {j : Nat} {v : Nat} (e : z = (j : Int)) (h : cs[j]? = some v) : atI cs z = some v := by
  rw [e]
  exact atI_nat h
theorem emp_codes {c : Nat} (h : c ∈ ("" : Str).cps.toList) : False := by
  have e : ("" : Str).cps.toList = [] := by decide +kernel
  rw [e] at h
  cases h
theorem app_codes (x y : Str) : (x ++ y).cps.toList = x.cps.toList ++ y.cps.toList := by
  show (x.cps ++ y.cps).toList = _
  simp
/-! ### short plain texts -/
structure As (B : Nat) (z : Str) : Prop where
  len : z.length ≤ B
  sg : ∀ c ∈ z.cps.toList, c < 128
theorem As.mono {B C : Nat} {z : Str} (h : As B z) (l : B ≤ C) : As C z := ⟨Nat.le_trans h.len l, h.sg⟩
theorem NmP.as {z : Str} (h : NmP z) : As 8 z := ⟨h.hi, fun c hc => by have := LT_mem.mp (h.sg c hc); omega⟩
theorem As.app {B C : Nat} {x y : Str} (h : As B x) (g : As C y) : As (B + C) (x ++ y) := ⟨by rw [strLen_append]; exact Nat.add_le_add h.len g.len, fun c hc => by
  rw [app_codes] at hc
  exact (List.mem_append.mp hc).elim (h.sg c) (g.sg c)⟩
theorem cutS_codes (z : Str) (lo hi : Option Int) : (cutS z lo hi).cps.toList = ((z.cps.toList.drop (HT.sIx z.length 0 lo)).take (HT.sIx z.length z.length hi - HT.sIx z.length 0 lo)) := by
  unfold cutS
  rfl
theorem As.cut {B : Nat} {z : Str} (h : As B z) (lo hi : Option Int) : As B (cutS z lo hi) := ⟨by
    have := h.len
    rw [strLen, cutS_codes, List.length_take, List.length_drop, ← strLen]
    omega, fun c hc => by
    rw [cutS_codes] at hc
    exact h.sg c (List.mem_of_mem_drop (List.mem_of_mem_take hc))⟩
theorem mul2 (z : Str) : Txt.mul z 2 = if (z.length == 0) = true then z else z ++ z := by
  unfold Txt.mul
  rw [if_neg (by decide)]
  by_cases h : (z.length == 0) = true
  · rw [if_pos (by rw [h]; rfl), if_pos h]
  · rw [if_neg (by simpa using h), if_neg h]
    show (⟨(#[] ++ z.cps) ++ z.cps⟩ : Str) = ⟨z.cps ++ z.cps⟩
    simp
theorem As.two {B : Nat} {z : Str} (h : As B z) : As (B + B) (Txt.mul z 2) := by
  rw [mul2]
  by_cases e : (z.length == 0) = true
  · rw [if_pos e]
    exact h.mono (by omega)
  · rw [if_neg e]
    exact h.app h
theorem As.size {B : Nat} {z : Str} (h : As B z) (l : B ≤ 1000000) : z.length ≤ sizeLine := Nat.le_trans (Nat.le_trans h.len l) (by decide)
theorem As.short {B : Nat} {z : Str} (h : As B z) : (reprText z).length ≤ 10 * B + 2 := by
  have := StrLaws.reprText_len z (fun c hc => Nat.lt_of_lt_of_le (h.sg c hc) (by decide))
  have := h.len
  omega
theorem As.one {c : Nat} (h : c < 128) : As 1 ⟨#[c]⟩ := ⟨Nat.le_refl _, fun d hd => by
  have : d = c := by simpa using hd
  omega⟩
/-! ### things of a law -/
def Sh (d : PyData) : Prop := ∀ z, d = .str z → As 1000000 z
def ShA (d : PyData) : Prop := ∀ ds, d = .tuple ds → ∀ e ∈ ds, Sh e
structure ThP (B : Nat) (d : PyData) : Prop where
  sm : Sm B d
  sh : Sh d
  sa : ShA d
theorem ThP.mono {B C : Nat} {d : PyData} (h : ThP B d) (l : B ≤ C) : ThP C d := ⟨h.sm.mono l, h.sh, h.sa⟩
theorem Sm.str {B : Nat} {z : Str} (h : As B z) : Sm (10 * B + 2) (.str z) := ⟨rfl, by rw [TP.wt]; exact h.short, by rw [PyData.depth]; decide⟩
theorem ThP.str {B : Nat} {z : Str} (h : As B z) (l : B ≤ 1000000) : ThP (10 * B + 2) (.str z) := ⟨Sm.str h, fun y e => by cases e; exact h.mono l, fun _ e => nomatch e⟩
theorem smallInt {i : Int} (h : i.natAbs < 2 ^ 64) : (PyData.int i).showable = true := by
  show decide (i.natAbs.log2 < 1920) = true
  refine decide_eq_true ?_
  by_cases h0 : i.natAbs = 0
  · rw [h0]
    decide
  · exact Nat.lt_of_lt_of_le ((Nat.log2_lt h0).mpr h) (by decide)
theorem dpStrs {K : PySem.W.Frag} {H : Hp} {α : Type} (g : α → Str) : ∀ l : List α, DpAll K H (l.map fun i => V.str (g i)) (l.map fun i => PyData.str (g i))
  | [] => .nil
  | _ :: l => .cons (.str _) (dpStrs g l)
theorem canStrs {α : Type} (g : α → Str) (hg : ∀ i, PyData.strOk (g i) = true) : ∀ l : List α, PyData.canLayAll0 (l.map fun i => PyData.str (g i)) = true
  | [] => rfl
  | i :: l => by
    show (PyData.canLay0 (.str (g i)) && PyData.canLayAll0 (l.map fun i => PyData.str (g i))) = true
    rw [canStrs g hg l, show PyData.canLay0 (.str (g i)) = true from hg i]
    rfl
theorem depthStrs {α : Type} (g : α → Str) : ∀ l : List α, PyData.depthAll (l.map fun i => PyData.str (g i)) = 0
  | [] => rfl
  | _ :: l => by
    show max 0 (PyData.depthAll _) = 0
    rw [depthStrs g l]
    rfl
theorem shapedStrs {α : Type} (g : α → Str) (hg : ∀ i, PyData.strOk (g i) = true) (l : List α) : SeqAt.shaped (.list (l.map fun i => PyData.str (g i))) = true := by
  unfold SeqAt.shaped
  rw [show PyData.canLay0 (.list (l.map fun i => PyData.str (g i))) = true from canStrs g hg l, show (PyData.list (l.map fun i => PyData.str (g i))).depth = PyData.depthAll (l.map fun i => PyData.str (g i)) + 1 from rfl, depthStrs]
  decide
theorem eqv_nil (l : List PyData) : PyData.eqv (.list l) (.list []) = l.isEmpty := by
  cases l <;> rfl
/-! ### comprehensions whose elements leave what was told -/
theorem range_filter_succ (p : Nat → Bool) (i : Nat) : (List.range (i + 1)).filter p = (List.range i).filter p ++ (if p i = true then [i] else []) := by
  rw [List.range_succ, List.filter_append]
  congr 1
  by_cases h : p i = true
  · rw [if_pos h]; simp [h]
  · rw [if_neg h]; simp [h]
theorem lc_fm {J : It} {n : Nat} {G : Hp → Prop} {Y : Nat → Hp → V → Hp → Prop} (w : Walk J n G Y) {g : TG} {tt : TT} {te : TE} {vs : List Nat} {σ : L2.St} {H1 : Hp} {D : Addr} {Qd : Hp → Prop} (p : Nat → Bool) (F : Nat → V)
    (hD : H1 D = none) (hn : n < 1000000) (hG : ∀ H, Evl.Ex H1 H → G H)
    (hs : ∀ (i : Nat) (x : V) (H H' : Hp) (C : V → Hp → Prop) (N : Hp → Prop), i < n → Evl.Ex H1 H → Y i H x H' → (p i = true → ∀ H4, Evl.Ex H H4 → C (F i) H4) → (p i = false → ∀ H3, Evl.Ex H H3 → N H3) →
      g x (wipe σ vs) H' fun σ2 H2 => wipe σ2 vs = wipe σ vs ∧ tt σ2 H2 fun b H3 => if b = true then te σ2 H3 C else N H3)
    (hd : ∀ H', Evl.Ex H1 H' → H' D = some (.lst (((List.range n).filter p).map F)) → Qd H') :
    ∃ W : Nat → Nat → Hp → Prop, (∃ m, W 0 m (upd H1 D (.lst []))) ∧ ∀ i m H, W i m H →
      (J.stop i H ∧ Qd H) ∨ (J.go i H ∧ ∃ Nx : Hp → Prop, (∀ H', Nx H' → ∃ m', m' < m ∧ W (i + 1) m' H') ∧ ∀ x H', J.yld i H x H' → g x (wipe σ vs) H' fun σ2 H2 => wipe σ2 vs = wipe σ vs ∧ tt σ2 H2 fun b H3 =>
        if b = true then te σ2 H3 fun y H4 => ∃ acc, H4 D = some (.lst acc) ∧ acc.length < sizeLine ∧ Nx (upd H4 D (.lst (acc ++ [y]))) else Nx H3) := by
  refine lc_it w (fun i H => Evl.Ex H1 H ∧ H D = some (.lst (((List.range i).filter p).map F))) ⟨Evl.Ex.new hD, upd_same⟩ (fun i H _ q => hG H q.1) (fun i x H H' hi q y => ?_) (fun H q => hd H q.1 q.2)
  refine hs i x H H' _ _ hi q.1 y (fun hp H4 e => ⟨_, e _ _ q.2, ?_, fun b o hb => ?_, ?_⟩) (fun hp H3 e => ⟨q.1.trans e, ?_⟩)
  · have h1 : (((List.range i).filter p).map F).length ≤ i := by
      rw [List.length_map]
      exact Nat.le_trans (List.length_filter_le _ _) (by rw [List.length_range]; exact Nat.le_refl _)
    have : sizeLine = 16777216 := sizeLine_eq
    omega
  · rw [upd_ne (ne_of_none hb hD)]
    exact e _ _ (q.1 _ _ hb)
  · rw [upd_same, range_filter_succ, if_pos hp, List.map_append]
    rfl
  · rw [e _ _ q.2, range_filter_succ, if_neg (by rw [hp]; exact Bool.false_ne_true), List.append_nil]
theorem range_map_get {α β : Type} (f : α → β) (d : α) : ∀ l : List α, (List.range l.length).map (fun i => f (l.getD i d)) = l.map f := fun l => by
  refine List.ext_getElem (by simp) fun i h1 h2 => ?_
  simp at h1
  simp [h1]
theorem none_amiss (l : List Nat) (f : Nat → Bool) : (((List.range l.length).filter fun i => !f (l.getD i 0)).isEmpty) = l.all f := by
  have e : l.all f = ((List.range l.length).map fun i => f (l.getD i 0)).all id := by rw [range_map_get, List.all_map]; rfl
  rw [e, List.all_map]
  cases h : ((List.range l.length).filter fun i => !f (l.getD i 0)) with
  | nil =>
    have h2 := List.filter_eq_nil_iff.mp h
    refine (List.all_eq_true.mpr fun i hi => ?_).symm
    have := h2 i hi
    simpa using this
  | cons j r =>
    have hj : j ∈ (List.range l.length).filter fun i => !f (l.getD i 0) := by rw [h]; exact List.mem_cons_self
    obtain ⟨h1, h2⟩ := List.mem_filter.mp hj
    symm
    refine Bool.eq_false_iff.mpr fun q => ?_
    have := List.all_eq_true.mp q j h1
    simp at h2 this
    rw [this] at h2
    cases h2
theorem cut_mem {xs : List V} {lo hi : Option Int} {x : V} (h : x ∈ cutV xs lo hi) : x ∈ xs := by
  unfold cutV at h
  exact List.mem_of_mem_drop (List.mem_of_mem_take h)
theorem cells_int {ns : List Int} {lo hi : Option Int} {i : Nat} {x : V} (h : (cutV (ns.map V.int) lo hi ++ [.int 0, .int 1])[i]? = some x) : ∃ z, x = .int z := by
  rcases List.mem_append.mp (List.mem_of_getElem? h) with q | q
  · obtain ⟨z, _, rfl⟩ := List.mem_map.mp (cut_mem q)
    exact ⟨z, rfl⟩
  · simp only [List.mem_cons, List.not_mem_nil, or_false] at q
    rcases q with rfl | rfl
    · exact ⟨0, rfl⟩
    · exact ⟨1, rfl⟩
theorem cells_len {ns : List Int} {lo hi : Option Int} (h : ns.length ≤ 63) : (cutV (ns.map V.int) lo hi).length + [V.int 0, V.int 1].length ≤ sizeLine := by
  have h1 := cutV_length (ns.map V.int) lo hi
  rw [List.length_map] at h1
  have : sizeLine = 16777216 := sizeLine_eq
  show _ + 2 ≤ _
  omega
theorem ThP.tup2 {B C : Nat} {a b : PyData} (ha : ThP B a) (hb : ThP C b) (l1 : a.depth ≤ 10) (l2 : b.depth ≤ 10) : ThP (B + C + 7) (.tuple [a, b]) := by
  refine ⟨⟨?_, ?_, ?_⟩, fun _ e => (nomatch e), fun ds e d hd => ?_⟩
  · show (a.showable && (b.showable && true)) = true
    rw [ha.sm.sh, hb.sm.sh]
    rfl
  · have h1 := ha.sm.wt
    have h2 := hb.sm.wt
    simp only [wt, wtAll]
    omega
  · simp only [PyData.depth, PyData.depthAll]
    omega
  · cases e
    simp only [List.mem_cons, List.not_mem_nil, or_false] at hd
    rcases hd with rfl | rfl
    · exact ha.sh
    · exact hb.sh
theorem filter_yes (n : Nat) : (List.range n).filter (fun _ => true) = List.range n := List.filter_eq_self.mpr fun _ _ => rfl
theorem yes_ok {σ : L2.St} {H : Hp} {te : TE} {C : V → Hp → Prop} {N : Hp → Prop} (h : te σ H C) : tYes σ H fun b H3 => if b = true then te σ H3 C else N H3 := by
  show if true = true then te σ H C else N H
  rw [if_pos rfl]
  exact h
theorem iteYes {A B : Prop} (h : A) : if true = true then A else B := by rw [if_pos rfl]; exact h
end TP

namespace TP
open PySem PySem.Spec PyProof.Rows L2

/-! ### zip of a dict's keys and a list -/
section
variable {prog : Program} {w : World} {A : Around} {E : Value → Shared → Prop} {s : Shared}
theorem nextOf_key {it d : Addr} {i ep : Nat} {es : Array DictEntry} {Q : Value → Shared → Prop} (hit : s.heap.IsKeyIter it d i es.size ep) (hm : s.heap.DictRaw d es ep) (hlt : i < es.size)
    (hQ : ∀ h', h'.IsKeyIter it d (i + 1) es.size ep → Heap.SameBut it s.heap h' → Q es[i].key { s with heap := h' }) : wpAny (model prog w) A (Builtin.SmallTypes.nextOf (.ref it)) Q E s := by
  obtain ⟨o, ho, hc, hd⟩ := id hit
  obtain ⟨od, hod, hcd, hdd⟩ := id hm
  unfold Builtin.SmallTypes.nextOf
  refine wpAny_bind (wpAny_callSpecial?_slot (name := Str.ofString "__next__") hit.typeIs F.slot_dict_keyiterator_next
    (wpAny_call_entry F.slot_dict_keyiterator_next hit.typeIs F.entry_dict_keyiterator_next ?_ (F.args_dict_keyiterator_next_1 _)))
  refine wpAny_bind (wpAny_pure ?_)
  refine wpAny_bind (wpAny_bind ?_)
  first
    | refine wpAny_bind (wpAny_typeNameOfWhole_keyiter hit.typeIs (wpAny_pure ?_))
    | refine wpAny_bind (wpAny_typeNameOf_keyiter hit.typeIs (wpAny_pure ?_))
  refine wpAny_bind (wpAny_fieldsOf ho hd ?_)
  simp only [show Builtin.Dict_items.ownsTuple "dict_keyiterator" = false by decide, Bool.false_eq_true, if_false]
  show wpAny _ _ (if (Value.ref d == Value.none) = true then _ else _) _ _ s
  rw [if_neg (show ¬ ((Value.ref d == Value.none) = true) from Bool.false_ne_true)]
  refine wpAny_bind (wpAny_pure (wpAny_bind (wpAny_dictEntries hod hdd ?_)))
  rw [if_neg (by simp)]
  refine wpAny_bind (wpAny_pure (wpAny_bind (wpAny_dictEpoch hod hdd ?_)))
  rw [if_neg (by simp)]
  refine wpAny_pure ?_
  simp only [show ¬ ((i : Int) < 0) from by omega, if_false, Int.toNat_natCast, Array.getElem?_eq_getElem hlt]
  refine wpAny_bind ?_
  first
    | refine wpAny_bind (wpAny_typeNameOfWhole_keyiter hit.typeIs (wpAny_pure ?_))
    | refine wpAny_bind (wpAny_typeNameOf_keyiter hit.typeIs (wpAny_pure ?_))
  refine wpAny_bind (wpAny_isOneOf_keyiter hit.typeIs ?_)
  show wpAny _ _ (setField (.ref it) 1 (rawInt ((i : Int) + 1)) >>= _) _ _ s
  refine wpAny_bind (wpAny_setField ho hd (by simp) ?_)
  have hit2 : (s.heap.update it (Obj.mapFields (·.setIfInBounds 1 (rawInt ((i : Int) + 1))))).IsKeyIter it d (i + 1) es.size ep :=
    ⟨_, Heap.get?_update_self _ ho (Obj.isFreed_of_fields (Obj.data_mapFields hd _)), (Obj.cls_mapFields ..).trans hc, by rw [Obj.data_mapFields hd]; simp [rawInt]⟩
  refine wpAny_bind (wpAny_holding (wpAny_bind (wpAny_isOneOf_keyiter (s := { s with heap := s.heap.update it (Obj.mapFields (·.setIfInBounds 1 (rawInt ((i : Int) + 1)))) }) hit2.typeIs ?_)))
  show wpAny _ _ (pure es[i].key) _ _ _
  exact wpAny_pure (wpAny_pure ⟨_, rfl, wpAny_pure (hQ _ hit2 (Heap.SameBut.update ..))⟩)
theorem nextOf_keyEnd {it d : Addr} {i ep : Nat} {es : Array DictEntry} {Q : Value → Shared → Prop} (hh : A.handled = none) (hit : s.heap.IsKeyIter it d i es.size ep) (hm : s.heap.DictRaw d es ep) (hge : es.size ≤ i)
    (hE : ∀ h' e, Heap.ExtBut it s.heap h' → (∃ o, h'.get? e = some o ∧ o.cls = .type "StopIteration") → E (.ref e) { s with heap := h' }) : wpAny (model prog w) A (Builtin.SmallTypes.nextOf (.ref it)) Q E s := by
  obtain ⟨o, ho, hc, hd⟩ := id hit
  obtain ⟨od, hod, hcd, hdd⟩ := id hm
  unfold Builtin.SmallTypes.nextOf
  refine wpAny_bind (wpAny_callSpecial?_slot (name := Str.ofString "__next__") hit.typeIs F.slot_dict_keyiterator_next
    (wpAny_call_entry F.slot_dict_keyiterator_next hit.typeIs F.entry_dict_keyiterator_next ?_ (F.args_dict_keyiterator_next_1 _)))
  refine wpAny_bind (wpAny_pure ?_)
  refine wpAny_bind (wpAny_bind ?_)
  first
    | refine wpAny_bind (wpAny_typeNameOfWhole_keyiter hit.typeIs (wpAny_pure ?_))
    | refine wpAny_bind (wpAny_typeNameOf_keyiter hit.typeIs (wpAny_pure ?_))
  refine wpAny_bind (wpAny_fieldsOf ho hd ?_)
  simp only [show Builtin.Dict_items.ownsTuple "dict_keyiterator" = false by decide, Bool.false_eq_true, if_false]
  show wpAny _ _ (if (Value.ref d == Value.none) = true then _ else _) _ _ s
  rw [if_neg (show ¬ ((Value.ref d == Value.none) = true) from Bool.false_ne_true)]
  refine wpAny_bind (wpAny_pure (wpAny_bind (wpAny_dictEntries hod hdd ?_)))
  rw [if_neg (by simp)]
  refine wpAny_bind (wpAny_pure (wpAny_bind (wpAny_dictEpoch hod hdd ?_)))
  rw [if_neg (by simp)]
  refine wpAny_pure ?_
  simp only [show ¬ ((i : Int) < 0) from by omega, if_false, Int.toNat_natCast, Array.getElem?_eq_none hge]
  refine wpAny_bind ?_
  first
    | refine wpAny_bind (wpAny_typeNameOfWhole_keyiter hit.typeIs (wpAny_pure ?_))
    | refine wpAny_bind (wpAny_typeNameOf_keyiter hit.typeIs (wpAny_pure ?_))
  show wpAny _ _ (setField (.ref it) 0 .none >>= _) _ _ s
  refine wpAny_bind (wpAny_setField ho hd (by simp) ?_)
  show wpAny _ _ (newExc (.type "StopIteration") [] >>= _) _ _ _
  refine wpAny_bind ?_
  simp only [newExc, newTuple]
  refine wpAny_bind (wpAny_newObj_type ?_ (by size_fits))
  refine wpAny_bind (m := firstArgMember _ _) (wpAny_of_eq (a := Value.none) (by first | rfl | (simp only [firstArgMember]; rfl)) ?_)
  refine wpAny_newObj_type ?_ (by size_fits)
  simp only [raiseNew]
  refine wpAny_bind (wpAny_handled ?_)
  rw [show A.in1.handled = none from hh]
  refine wpAny_bind (wpAny_pure (wpAny_throw ?_))
  exact hE _ _ (((Heap.SameBut.update ..).extBut.push _).push _) ⟨_, Heap.get?_push_size _ rfl, rfl⟩
end
theorem drawsKeys {prog : Program} {w : World} {A : Around} (hh : A.handled = none) (it d : Addr) (hne : d ≠ it) (es : Array DictEntry) (ep : Nat) :
    Draws prog w A it [it, d] es.size (fun i v => (es[i]?).map (fun e => e.key) = some v) (fun i h => h.IsKeyIter it d i es.size ep ∧ h.DictRaw d es ep) where
  live := fun i h st => by
    obtain ⟨⟨o, ho, _⟩, _⟩ := st
    exact ⟨o, ho⟩
  frame := fun i h h' st k => by
    obtain ⟨⟨o, ho, r⟩, y⟩ := st
    exact ⟨⟨o, k it (by simp) o ho, r⟩, y.at fun o q => k d (by simp) o q⟩
  item := fun i s Q E hi st hQ => nextOf_key st.1 st.2 hi fun h' z sb => hQ _ h' s.toks (by simp [hi]) ⟨z, st.2.at fun o q => (sb.2 _ hne).trans q⟩ sb
  done := fun s Q E st hE => nextOf_keyEnd hh st.1 st.2 (Nat.le_refl _) hE
theorem begins_dict (d : Addr) (es : Array DictEntry) (ep : Nat) (lo : (d == sysModules) = false) :
    Begins (.ref d) { cls := .type "dict_keyiterator", data := .fields #[.ref d, .int 0 0, .int es.size 0, .int ep 0] } fun h => h.DictRaw d es ep where
  iter := fun prog w A E s Q hl h => wpAny_pyIter_dict_raw lo hl h
  keeps := fun h h' x hk => x.at fun o e => hk d o e
  free := rfl

/-! ### a written table walked along with a list -/
/-- the table's keys ks, in order, in the written part -/
structure KKeys (K : PySem.W.Frag) (d : Addr) (es : Array DictEntry) (ep : Nat) (ks : List Str) : Prop where
  at_ : K.lookup d = some ⟨.type "dict", none, .dict es ep, #[]⟩
  low : (d == sysModules) = false
  size : es.size = ks.length
  key : ∀ (i : Nat) (u : Value), (es[i]?).map (fun e => e.key) = some u → ∃ (z : Str) (t : Tok), ks[i]? = some z ∧ u = Value.str z t
theorem kkeys_of {K : PySem.W.Frag} {w : World} {d : Addr} {es : Array DictEntry} {n : Nat} {ks : List Str} (D : KDict K w d es n) (e : es.toList.map He.keyOf = He.keysIn w.params ks) : KKeys K d es n ks := by
  refine ⟨D.at_, D.low, ?_, fun i u h => ?_⟩
  · have h := congrArg List.length e
    simp only [He.keysIn, List.length_map, Array.length_toList] at h
    exact h
  · have h2 : (es.toList.map He.keyOf)[i]? = (He.keysIn w.params ks)[i]? := by rw [e]
    unfold He.keysIn at h2
    rw [List.getElem?_map, List.getElem?_map, Array.getElem?_toList] at h2
    cases q : es[i]? with
    | none =>
      rw [q] at h
      cases h
    | some x =>
      rw [q] at h h2
      cases r : ks[i]? with
      | none =>
        rw [r] at h2
        cases h2
      | some z =>
        rw [r] at h2
        have h3 : He.keyOf x = some (z, PyData.keyHash w.params z) := Option.some.inj h2
        unfold He.keyOf at h3
        split at h3
        · rename_i y t hy
          have h4 := Option.some.inj h3
          injection h4 with h5 h6
          have h7 : x.key = u := Option.some.inj h
          exact ⟨z, t, rfl, by rw [← h7, hy, h5]⟩
        · cases h3
def Itkz (K : PySem.W.Frag) (ks : List Str) (b : Addr) : It :=
  ⟨fun i H => i < ks.length ∧ ∃ (ys : List V) (y : V), SqL K H b ys ∧ ys[i]? = some y,
    fun i H v H' => ∃ T z y, v = .ref T ∧ H T = none ∧ H' = upd H T (.tup [.str z, y]) ∧ ks[i]? = some z ∧ ∀ ys, SqL K H b ys → ys[i]? = some y,
    fun i H => ∃ ys : List V, SqL K H b ys ∧ i = ks.length ∧ i = ys.length⟩
theorem walk_kz {K : PySem.W.Frag} {ks : List Str} {b : Addr} {ys : List V} (hn : ks.length = ys.length) : Walk (Itkz K ks b) ks.length (fun H => SqL K H b ys) (YPair (fun i => (ks[i]?).map V.str) (fun i => ys[i]?)) := by
  refine ⟨fun i H hi q => ⟨hi, ys, ys[i]'(by omega), q, by simp [show i < ys.length by omega]⟩, fun H q => ⟨ys, q, rfl, hn⟩, fun i H v H' hi q y => ?_⟩
  obtain ⟨T, z, y, h1, h2, h3, h4, h5⟩ := y
  exact ⟨T, .str z, y, h1, h2, h3, by simp [h4], h5 ys q⟩
theorem ne_of_ne {a b : Nat} (h : a ≠ b) : (show Addr from a) ≠ (show Addr from b) := h
theorem nin2 {a b c : Nat} (h1 : a ≠ b) (h2 : a ≠ c) : (show Addr from a) ∉ [(show Addr from b), (show Addr from c)] := by
  intro h
  rcases List.mem_cons.mp h with q | q
  · exact h1 q
  · rcases List.mem_cons.mp q with q | q
    · exact h2 q
    · cases q
theorem sep_of (n d b : Nat) (hd : d < n) (hb : b < n) : ZipSep2 (n + 4) (n + 2) (n + 3) n (n + 1) [n, d] [n + 1, b] where
  TIz := ne_of_ne (by omega)
  TOz := ne_of_ne (by omega)
  TITO := ne_of_ne (by omega)
  TIi1 := ne_of_ne (by omega)
  mem1 := .head _
  zf1 := nin2 (by omega) (by omega)
  Tf1 := nin2 (by omega) (by omega)
  TIi2 := ne_of_ne (by omega)
  mem2 := .head _
  zf2 := nin2 (by omega) (by omega)
  Tf2 := nin2 (by omega) (by omega)
  sep1_2 := nin2 (by omega) (by omega)
  sep2_1 := nin2 (by omega) (by omega)
theorem turn_kz {P : Program} {w : World} {K : PySem.W.Frag} {elts : List Expr} {kk : Nat} {tpos : Pos} {d b z TI TO i1 i2 : Addr} {es : Array DictEntry} {ep : Nat} {ks : List Str} (D : KKeys K d es ep ks)
    (S : ZipSep2 z TI TO i1 i2 [i1, d] [i2, b]) (n1 : i1 ≠ d) (n2 : i2 ≠ b) :
    Turn P w K (.Tuple elts kk tpos) (Itkz K ks b) [z, TI, TO, i1, i2] z (fun i h => IsZip h z TI TO .none ∧ IsTupOf2 h TI (.ref i1) (.ref i2) ∧ (∃ x y, IsTupOf2 h TO x y) ∧ h.IsKeyIter i1 d i es.size ep ∧ h.IsListIter i2 b i) where
  mem := by simp
  obj := fun i h st c hc => by
    obtain ⟨hz, hTI, ⟨x, y, hTO⟩, ⟨o1, e1, _, d1⟩, ⟨o2, e2, _, d2⟩⟩ := st
    have e' : c = z ∨ c = TI ∨ c = TO ∨ c = i1 ∨ c = i2 := by simpa using hc
    rcases e' with q | q | q | q | q
    · rw [q]; exact ⟨_, hz, fun v q => nomatch q⟩
    · rw [q]; exact ⟨_, hTI, fun v q => nomatch q⟩
    · rw [q]; exact ⟨_, hTO, fun v q => nomatch q⟩
    · rw [q]; exact ⟨o1, e1, fun v q => by rw [d1] at q; cases q⟩
    · rw [q]; exact ⟨o2, e2, fun v q => by rw [d2] at q; cases q⟩
  keep := fun i h h' st k => by
    obtain ⟨hz, hTI, ⟨x, y, hTO⟩, ⟨o1, e1, r1⟩, h2⟩ := st
    exact ⟨k z (by simp) _ hz, k TI (by simp) _ hTI, ⟨x, y, k TO (by simp) _ hTO⟩, ⟨o1, k i1 (by simp) o1 e1, r1⟩, h2.at fun o q => k i2 (by simp) o q⟩
  item := by
    intro X hP hw hK hc i pins s σ H E I hf st hg
    subst hP hw hK
    obtain ⟨hz, hTI, ⟨x0, y0, hTO⟩, h1, h2⟩ := st
    obtain ⟨hi, ys, y, hqy, hy⟩ := hg
    obtain ⟨its2, rv2, p2, _⟩ := I.list hqy
    have hzl : z < s.heap.objs.size := Heap.lt_size hz
    have raw : s.heap.DictRaw d es ep := ⟨_, I.kIn _ _ D.at_, ⟨rfl, rfl, rfl⟩, rfl⟩
    have hl2 : i < its2.toArray.size := by
      have h := (List.getElem?_eq_some_iff.mp hy).1
      have := rv2.length
      simp
      omega
    refine wpAny_pyNext_zipD2_item S (drawsKeys (A := X.A.in1) (I.ok.hd hc) i1 d n1.symm es ep) (Draws.list (A := X.A.in1) (I.ok.hd hc) i2 b n2.symm its2.toArray) hz hTI hTO ⟨h1, raw⟩ ⟨h2, p2.isList⟩ (by rw [D.size]; exact hi) hl2 fun x1 x2 h' tk y1 y2 z' TO' h1' h2' hT hsz hk => ?_
    obtain ⟨kz, kt, hkz, rfl⟩ := D.key i x1 y1
    obtain ⟨u2, hu2, ru2⟩ := rv2.get hy
    have ex2 : x2 = u2 := by
      have q : its2.toArray[i]? = some u2 := by simpa using hu2
      rw [q] at y2
      exact (Option.some.inj y2).symm
    subst ex2
    refine ⟨_, rfl, wpAny_letOwnedTupleGo_zip (s := { s with heap := h', toks := tk }) z' fun h'' z'' sb => ?_⟩
    have hT2 : h''.get? s.heap.objs.size = some { cls := .type "tuple", data := .seq #[.str kz kt, x2] } := (sb.2 _ (Nat.ne_of_gt hzl)).trans hT
    have new : ObjOk X.prog X.w (upd H s.heap.objs.size (.tup [.str kz, y])) h'' s.heap.objs.size (.tup [.str kz, y]) :=
      ⟨by show 2 ≤ sizeLine; decide, [.str kz kt, x2], .cons ⟨kt, rfl⟩ (.cons ru2 .nil), ⟨_, hT2, rfl, _, rfl⟩⟩
    have I1 : Inv X pins σ (upd H s.heap.objs.size (.tup [.str kz, y])) { s with heap := h'', toks := tk } :=
      I.turnedNew (t' := tk) (ch := [z, TI, TO, i1, i2]) (fun c o hb q => (sb.2 c (fun q' => hb (by simp [q']))).trans (hk c o (fun q' => hb (by simp [q'])) (fun q' => hb (by simp [q'])) (fun q' => hb (by simp [q'])) (fun q' => hb (by simp [q'])) q)) hf (Nat.le_refl _) new
    refine ⟨.ref s.heap.objs.size, _, I1, rfl, ⟨_, kz, y, rfl, I.hok.fresh (Nat.le_refl _), rfl, hkz, fun l hl => by rw [I.list_inj hl hqy]; exact hy⟩, ⟨z'', ?_, ⟨.str kz kt, x2, ?_⟩, ?_, ?_⟩, fun c hcm => ?_⟩
    · exact (sb.2 _ S.TIz).trans (hk _ _ S.TIz S.TITO S.TIi1 S.TIi2 hTI)
    · exact (sb.2 _ S.TOz).trans TO'
    · obtain ⟨⟨o1, e1, r1⟩, _⟩ := h1'
      exact ⟨o1, (sb.2 _ (Ne.symm S.zi1)).trans e1, r1⟩
    · exact h2'.1.at fun o q => (sb.2 _ (Ne.symm S.zi2)).trans q
    · have hlt : c < s.heap.objs.size := by
        have e' : c = z ∨ c = TI ∨ c = TO ∨ c = i1 ∨ c = i2 := by simpa using hcm
        rcases e' with q | q | q | q | q
        · rw [q]; exact hzl
        · rw [q]; exact Heap.lt_size hTI
        · rw [q]; exact Heap.lt_size hTO
        · rw [q]; obtain ⟨_, e1, _⟩ := h1; exact Heap.lt_size e1
        · rw [q]; obtain ⟨_, e2, _⟩ := h2; exact Heap.lt_size e2
      rw [upd_ne (Nat.ne_of_lt hlt)]
      exact (hf c hcm).1
  done := by
    intro X hP hw hK hc i pins s σ H E I hf st hg
    subst hP hw hK
    obtain ⟨hz, hTI, ⟨x0, y0, hTO⟩, h1, h2⟩ := st
    obtain ⟨ys, hqy, he1, he2⟩ := hg
    obtain ⟨its2, rv2, p2, _⟩ := I.list hqy
    have raw : s.heap.DictRaw d es ep := ⟨_, I.kIn _ _ D.at_, ⟨rfl, rfl, rfl⟩, rfl⟩
    have hl2 : i = its2.toArray.size := by
      have := rv2.length
      simp
      omega
    refine wpAny_pyNext_zipD2_end S (drawsKeys (A := X.A.in1) (I.ok.hd hc) i1 d n1.symm es ep) (Draws.list (A := X.A.in1) (I.ok.hd hc) i2 b n2.symm its2.toArray) hz hTI hTO ⟨h1, raw⟩ ⟨h2, p2.isList⟩ (by rw [D.size]; omega) (by omega) (.inr hl2) fun h' tk hk => ⟨rfl, ?_⟩
    exact I.turnedL (t' := tk) (ch := [z, TI, TO, i1, i2]) (fun c o hb q => hk c o (fun q' => hb (by simp [q'])) (fun q' => hb (by simp [q'])) (fun q' => hb (by simp [q'])) (fun q' => hb (by simp [q'])) q) hf
  self := fun A i s Q E st h => wpAny_pyIter_zip st.1 h
def iKz (K : PySem.W.Frag) (d : Addr) (ks : List Str) (ta : TA) : TI := fun σ H R => ta σ H fun vs H1 => ∃ b ys, vs = [.ref d, .ref b] ∧ SqL K H1 b ys ∧ R (Itkz K ks b) H1
theorem pi_kz {X : Cx} {e e2 : Expr} {ta : TA} {p pos tpos : Pos} {elts : List Expr} {kk : Nat} {d : Addr} {es : Array DictEntry} {ep : Nat} {ks : List Str} (D : KKeys X.K d es ep ks) (hg : Gl X "zip") (hm : X.mg "zip" = none) (ha : PA X [e, e2] ta)
    (hs : starEach [e, e2] X.env = (false, eval e X.env) :: starEach [e2] X.env := by rfl) (hpl : (backTo pos (starEach [e2] X.env)).any (·.1) = false := by rfl) :
    PI X (.Tuple elts kk tpos) (.Call (.Name "zip" p) [e, e2] [] pos) (iKz X.K d ks ta) := by
  refine ⟨fun pins s σ H R I h => ?_⟩
  refine Call_ (ld_blt I hg hm PyProof.Rows.boot_zip (PyProof.Rows.callWith_type1 (thn (ha.run pos pins s σ H _ I h) fun us s1 ⟨vs, H1, I1, r1, q1⟩ => ?_) hs hpl))
  obtain ⟨b, ys, ex, hqy, q⟩ := q1
  subst ex
  cases r1 with
  | cons r rr =>
    cases rr with
    | cons r' rr =>
      cases rr
      cases r
      cases r'
      obtain ⟨its2, rv2, p2, _⟩ := I1.list hqy
      have od := I1.kIn _ _ D.at_
      have la : d < s1.heap.objs.size := Heap.lt_size od
      have lb : b < s1.heap.objs.size := p2.lt
      refine zip_begins2 (begins_dict d es ep D.low) (begins_list b its2.toArray) ⟨_, od, ⟨rfl, rfl, rfl⟩, rfl⟩ p2.isList fun h' hz hTI hTO h1 h2 hsz hk => wpAny_pyIter_zip hz ?_
      have I2 : Inv X pins σ H1 { s1 with heap := h' } := I1.kept (t' := s1.toks) hk
      refine ⟨s1.heap.objs.size + 4, [s1.heap.objs.size + 4, s1.heap.objs.size + 2, s1.heap.objs.size + 3, s1.heap.objs.size, s1.heap.objs.size + 1], _, _, H1, rfl, I2,
        turn_kz D (sep_of s1.heap.objs.size d b la lb) (Nat.ne_of_gt la) (Nat.ne_of_gt (Nat.lt_succ_of_lt lb)), ⟨hz, hTI, ⟨_, _, hTO⟩, ⟨_, h1, rfl, rfl⟩, ⟨_, h2, rfl, rfl⟩⟩, fun c hcm => ?_, q⟩
      have e' : c = s1.heap.objs.size + 4 ∨ c = s1.heap.objs.size + 2 ∨ c = s1.heap.objs.size + 3 ∨ c = s1.heap.objs.size ∨ c = s1.heap.objs.size + 1 := by simpa using hcm
      have hle : s1.heap.objs.size ≤ c := by
        rcases e' with q | q | q | q | q <;> rw [q]
        · exact Nat.le_add_right _ _
        · exact Nat.le_add_right _ _
        · exact Nat.le_add_right _ _
        · exact Nat.le_refl _
        · exact Nat.le_add_right _ _
      exact I1.fpOk hle (I1.hok.fresh hle)

/-! ### o.f as a target -/
def gAttr (K : PySem.W.Frag) (to : TE) (f : Str) : TG := fun v σ H Q => to σ H fun x H1 => ∃ a C dx fs, x = .ref a ∧ H1 a = some (.ins C dx fs) ∧ Cls K C ∧ NoAttr K C f ∧ fs.length < 1000 ∧ Q σ (upd H1 a (.ins C dx (putF f v fs)))
theorem pg_attr {X : Cx} {o : Expr} {f : Str} {pos : Pos} {to : TE} (ho : PE X o to) : PG X (.Attribute o f pos) (gAttr X.K to f) := by
  refine ⟨fun pins s σ H v u Q I r h => ?_⟩
  show wpAny _ _ (do
    let ov ← holding [u] (eval o X.env)
    standAt pos.atName
    holding [u, ov] (setAttr ov f u)
    release [u, ov] []) _ _ _
  refine wpAny_bind (wpAny_holding (thn (ho.run pins s σ H _ I h) fun ov s1 ⟨x, H1, I1, r1, a, C, dx, fs, ex, ea, c, n, l, q⟩ => ?_))
  subst ex
  obtain rfl : ov = Value.ref a := r1
  refine wpAny_bind (wpAny_standAt (wpAny_bind (wpAny_holding ?_)))
  exact setattr_ok I1 ea c n l r fun s2 I2 => wpAny_release ⟨σ, _, I2, q⟩

/-! ### o.m(k = v, ..): keyword-only parameters -/
def tMethK (C : Addr) (m : Str) (j : Nat) (sp : Sp) (gV : List V → List V → List V) (E : XK) (ta : TE) (tk : TA) : TE := fun σ H Q => ta σ H fun x H1 => ∃ a dx fs, x = .ref a ∧ H1 a = some (.ins C dx fs) ∧ fs.lookup m = none ∧
  tk σ H1 fun zs H2 => zs.length = j ∧ sp (gV [x] zs) H2 Q E
theorem pe_methK {X : Cx} {CX : CXT} {k : Nat} {f C : Addr} {fd : FuncData} {ps ks : List Str} {sp : Sp} {E : XK} {m : Str} {pos apos : Pos} {o : Expr} {kws : List Keyword} {ta : TE} {tk : TA} {g : List Value → List Value → List Value} {gV : List V → List V → List V} {pl : Sem Bool}
    (he : PE X o ta) (c : Cls X.K C) (hm : Meth X.K C m f) (F : FnOk X.prog X.w X.K X.mg X.base CX k f fd ps sp) (hr : Room k X.A) (hb : KBn X.K fd ps 1 ks g gV) (hx : Passes CX X E) (hkw : PK X kws tk)
    (hall : (backToKw pos (keywordEach kws X.env)).all (·.1.isSome) = true := by rfl) (hks : (backToKw pos (keywordEach kws X.env)).filterMap (·.1) = ks := by rfl)
    (hpl : ((backTo pos (starEach [] X.env)).any (·.1) || (backToKw pos (keywordEach kws X.env)).any (·.1.isNone)) = false := by rfl)
    (ht : eval (.Call (.Attribute o m apos) [] kws pos) X.env = (do
      let ov ← eval o X.env
      standAt apos.atName
      let (f, first) ← holding [ov] (getMethod ov m pl)
      callWith pos f first (backTo pos (starEach [] X.env)) (backToKw pos (keywordEach kws X.env))) := by rfl) :
    PE X (.Call (.Attribute o m apos) [] kws pos) (tMethK C m ks.length sp gV E ta tk) := by
  refine ⟨fun pins s σ H Q I h => PySem.W.methodCall_KW (pl := pl) (thn (he.run pins s σ H _ I h) fun u s1 ⟨x, H1, I1, rx, a, dx, fs, ex, ea, l, q⟩ => ?_) ht⟩
  subst ex
  obtain rfl : u = Value.ref a := rx
  refine getmeth_ok I1 ea c hm l ?_
  refine PySem.W.callWith_KW0 (h₀ := X.base) (first := [.ref a]) I.ok.mod.kin hm.kp hall ?_ hpl
  refine thn (hkw.run pos pins s1 σ H1 _ I1 q) fun ws s2 ⟨zs, H2, I2, rz, l2, q2⟩ => ⟨I2.kIn, ?_⟩
  rw [hks]
  exact run_fnN (us := [.ref a]) (vs := [.ref a]) F hr hb hx I2 (.cons rfl .nil) rz rfl l2 q2
end TP

namespace TP
open PySem PySem.Spec PyProof.Rows L2

/-! ### some of a list, by places -/
def pick {α : Type} : List Nat → List α → List α
  | [], _ => []
  | i :: is, l => (match l[i]? with | some x => [x] | none => []) ++ pick is l
theorem pick_vals : ∀ (is : List Nat) {vs : List V} {us : List Value}, Vals vs us → Vals (pick is vs) (pick is us)
  | [], _, _, _ => .nil
  | i :: is, vs, us, r => by
    refine Vals.append ?_ (pick_vals is r)
    cases e : vs[i]? with
    | none =>
      rw [r.none_of e]
      exact .nil
    | some x =>
      obtain ⟨u, hu, ru⟩ := r.get e
      rw [hu]
      exact .cons ru .nil
theorem pick_mem {α : Type} {x : α} : ∀ (is : List Nat) {l : List α}, x ∈ pick is l → x ∈ l
  | [], _, h => nomatch h
  | i :: is, l, h => by
    rcases List.mem_append.mp h with h | h
    · cases e : l[i]? with
      | none =>
        rw [e] at h
        cases h
      | some y =>
        rw [e] at h
        have : x = y := by simpa using h
        rw [this]
        exact List.mem_of_getElem? e
    · exact pick_mem is h

/-! ### a def as it stands, and what it keeps -/
structure GtF (P : Program) (w : World) (K : PySem.W.Frag) (mg : Str → Option Value) (base : Heap) (CX : CXT) (k : Nat) (d : He.DefD) (ps : List Str) (sp : Sp) : Prop where
  ex : ∃ fd, FunD K d.name d.qual d.params d.body d.scope (d.dvs K) (d.kws K) (He.fAd K d.at_) fd ∧ FnOk P w K mg base CX k (He.fAd K d.at_) fd ps sp
/-- keywords ks told, n values by place; js: the places of the keyword-only parameters that lack; is: the order -/
structure Kb (d : He.DefD) (ps : List Str) (n : Nat) (ks : List Str) (js is : List Nat) : Prop where
  df : d.dfl = []
  kn : d.kwd ≠ []
  ch : ∀ (K : PySem.W.Frag) (D : Addr) (doc pm : Value) (an : Option Addr) (cdv ct : Value) (us mv ws : List Value), us.length = n → mv.length = (pick js (d.kws K)).length → ws.length = ks.length →
    KwChain D (((pick js (d.kws K)).map (·.1)).zip mv) (bindArgs (PySem.W.fnOf d.name d.qual d.params d.body d.scope .none (.ref D) doc pm an cdv ct) ⟨us, ks.zip ws⟩) (ps.zip (us ++ pick is (mv ++ ws)))
abbrev gK (d : He.DefD) (js is : List Nat) (K : PySem.W.Frag) : List V → List V → List V := fun vs zs => vs ++ pick is ((pick js (d.kws K)).map (·.2) ++ zs)
structure Kb0 (d : He.DefD) (ps : List Str) (n : Nat) : Prop where
  df : d.dfl = []
  kn : d.kwd ≠ []
  nn : n + d.kwd.length = ps.length
  ch : ∀ (K : PySem.W.Frag) (D : Addr) (doc pm : Value) (an : Option Addr) (cdv ct : Value) (us ks : List Value), us.length = n → ks.length = (d.kws K).length →
      KwChain D (((d.kws K).map (·.1)).zip ks) (bindArgs (PySem.W.fnOf d.name d.qual d.params d.body d.scope .none (.ref D) doc pm an cdv ct) ⟨us, []⟩) (ps.zip (us ++ ks))
section
variable {P : Program} {w : World} {K : PySem.W.Frag} {mg : Str → Option Value} {base : Heap} {CX : CXT} {k : Nat} {d : He.DefD} {ps ks : List Str} {sp : Sp} {n : Nat} {js is : List Nat}
theorem dvs0 (h : d.dfl = []) : d.dvs K = [] := by unfold He.DefD.dvs; rw [h]; rfl
theorem kws0 (h : d.kwd ≠ []) : d.kws K ≠ [] := by
  unfold He.DefD.kws
  intro e
  exact h (List.map_eq_nil_iff.mp e)
theorem GtF.kbn (G : GtF P w K mg base CX k d ps sp) (B : Kb d ps n ks js is) : ∃ fd mv, FnOk P w K mg base CX k (He.fAd K d.at_) fd ps sp ∧ KBn K fd ps n ks (fun us ws => us ++ pick is (mv ++ ws)) (gK d js is K) := by
  obtain ⟨fd, F, ok⟩ := G.ex
  rw [dvs0 B.df] at F
  obtain ⟨mv, h⟩ := F.kbinds0 (ps := ps) n ks (pick js (d.kws K)) (fun {α} us mv ws => us ++ pick is (mv ++ ws)) (kws0 B.kn) (fun q hq => pick_mem js hq) (fun r1 r2 r3 => r1.append (pick_vals is (r2.append r3))) (fun D doc pm an cdv ct us mv ws h1 h2 h3 => B.ch K D doc pm an cdv ct us mv ws h1 h2 h3)
  exact ⟨fd, mv, ok, h⟩
theorem GtF.kb0 (G : GtF P w K mg base CX k d ps sp) (B : Kb0 d ps n) : ∃ fd ds, FnOk P w K mg base CX k (He.fAd K d.at_) fd ps sp ∧ Vals ((d.kws K).map (·.2)) ds ∧ Binds K fd ps ds := by
  obtain ⟨fd, F, ok⟩ := G.ex
  rw [dvs0 B.df] at F
  obtain ⟨ds, h1, h2⟩ := F.binds0 (ps := ps) n (kws0 B.kn) (by have := B.nn; unfold He.DefD.kws; rw [List.length_map]; exact this) (fun D doc pm an cdv ct us ks h1 h2 => B.ch K D doc pm an cdv ct us ks h1 h2)
  exact ⟨fd, ds, ok, h1, h2⟩
theorem GtF.bn (G : GtF P w K mg base CX k d ps sp) (hd : d.dfl = []) (hb : BindN d ps) : ∃ fd, FnOk P w K mg base CX k (He.fAd K d.at_) fd ps sp ∧ Binds K fd ps [] := by
  obtain ⟨fd, F, ok⟩ := G.ex
  rw [dvs0 hd] at F
  exact ⟨fd, ok, F.bindsN hb⟩
theorem GtF.imp {sp' : Sp} (G : GtF P w K mg base CX k d ps sp) (h : ∀ vs H Q E, sp' vs H Q E → sp vs H Q E) : GtF P w K mg base CX k d ps sp' := by
  obtain ⟨fd, F, ok⟩ := G.ex
  exact ⟨fd, F, ok.imp h⟩
theorem gtF_mk {N : List Str} (D : IsDef K d) (S : FnScope N ps d.scope) (len : ∀ vs H Q E, sp vs H Q E → vs.length = ps.length) (B : BodyOk P w K mg base k N d sp) : GtF P w K mg base CX0 (k + 1) d ps sp := by
  obtain ⟨fd, F⟩ := D
  exact ⟨fd, F, fn_ok0 F S len B⟩
theorem gtFX_mk {N : List Str} (D : IsDef K d) (S : FnScope N ps d.scope) (len : ∀ vs H Q E, sp vs H Q E → vs.length = ps.length) (B : BodyOkX P w K mg base k N d sp) : GtF P w K mg base (L2.CX P w) (k + 1) d ps sp := by
  obtain ⟨fd, F⟩ := D
  exact ⟨fd, F, fn_okX F S len B⟩
end
section
variable {X : Cx} {CX : CXT} {k n : Nat} {d : He.DefD} {C : Addr} {ps ks : List Str} {sp : Sp} {E : XK} {x m : Str} {p pos apos : Pos} {o e : Expr} {es : List Expr} {kws : List Keyword} {t tk : TA} {ta : TE} {js is : List Nat}
/-- C(k = v, ..) -/
theorem GtF.makeK0 (G : GtF X.prog X.w X.K X.mg X.base CX k d ps sp) (B : Kb d ps 1 ks js is) (M : Mk X.K C (He.fAd X.K d.at_)) (hm : X.mg x = some (.ref C)) (hr : Room (k + 1) X.A) (hx : Passes CX X E) (hkw : PK X kws tk) (hg : Gl X x := by rfl)
    (hall : (backToKw pos (keywordEach kws X.env)).all (·.1.isSome) = true := by rfl) (hks : (backToKw pos (keywordEach kws X.env)).filterMap (·.1) = ks := by rfl) (hdb : (x == ("__debug__" : Str)) = false := by decide)
    (hpl : ((backTo pos (starEach [] X.env)).any (·.1) || (backToKw pos (keywordEach kws X.env)).any (·.1.isNone)) = false := by rfl) :
    PE X (.Call (.Name x p) [] kws pos) (tMakeK C 0 ks.length sp (gK d js is X.K) E tNil tk) := by
  obtain ⟨fd, mv, F, hb⟩ := G.kbn B
  exact pe_makeK0 M F hr hg hm hb hx hkw hall hks hdb hpl
theorem GtF.makeK (G : GtF X.prog X.w X.K X.mg X.base CX k d ps sp) (B : Kb d ps (n + 1) ks js is) (M : Mk X.K C (He.fAd X.K d.at_)) (hm : X.mg x = some (.ref C)) (hr : Room (k + 1) X.A) (hx : Passes CX X E) (ha : PA X (e :: es) t) (hkw : PK X kws tk) (hg : Gl X x := by rfl)
    (hall : (backToKw pos (keywordEach kws X.env)).all (·.1.isSome) = true := by rfl) (hks : (backToKw pos (keywordEach kws X.env)).filterMap (·.1) = ks := by rfl) (hdb : (x == ("__debug__" : Str)) = false := by decide)
    (he : starEach (e :: es) X.env = (false, eval e X.env) :: starEach es X.env := by rfl) (hpl : ((backTo pos (starEach (e :: es) X.env)).any (·.1) || (backToKw pos (keywordEach kws X.env)).any (·.1.isNone)) = false := by rfl) :
    PE X (.Call (.Name x p) (e :: es) kws pos) (tMakeK C n ks.length sp (gK d js is X.K) E t tk) := by
  obtain ⟨fd, mv, F, hb⟩ := G.kbn B
  exact pe_makeK M F hr hg hm hb hx ha hkw hall hks hdb he hpl
/-- C(), all keyword-only parameters left out -/
theorem GtF.make0 (G : GtF X.prog X.w X.K X.mg X.base CX k d ps sp) (B : Kb0 d ps 1) (M : Mk X.K C (He.fAd X.K d.at_)) (hm : X.mg x = some (.ref C)) (hr : Room (k + 1) X.A) (hx : Passes CX X E) (hg : Gl X x := by rfl)
    (hdb : (x == ("__debug__" : Str)) = false := by decide) : PE X (.Call (.Name x p) [] [] pos) (tMake C sp ((d.kws X.K).map (·.2)) E tNil) := by
  obtain ⟨fd, ds, F, hd, hb⟩ := G.kb0 B
  exact pe_make0 M F hr hg hm hb hd hx hdb
/-- C(e, ..), all keyword-only parameters left out -/
theorem GtF.makeD (G : GtF X.prog X.w X.K X.mg X.base CX k d ps sp) (B : Kb0 d ps (n + 1)) (M : Mk X.K C (He.fAd X.K d.at_)) (hm : X.mg x = some (.ref C)) (hr : Room (k + 1) X.A) (hx : Passes CX X E) (ha : PA X (e :: es) t) (hg : Gl X x := by rfl)
    (hdb : (x == ("__debug__" : Str)) = false := by decide) (he : starEach (e :: es) X.env = (false, eval e X.env) :: starEach es X.env := by rfl) (hpl : (backTo pos (starEach es X.env)).any (·.1) = false := by rfl) :
    PE X (.Call (.Name x p) (e :: es) [] pos) (tMake C sp ((d.kws X.K).map (·.2)) E t) := by
  obtain ⟨fd, ds, F, hd, hb⟩ := G.kb0 B
  exact pe_make M F hr hg hm hb hd hx ha hdb he hpl
/-- C(e, ..) -/
theorem GtF.make (G : GtF X.prog X.w X.K X.mg X.base CX k d ps sp) (hd : d.dfl = []) (hb : BindN d ps) (M : Mk X.K C (He.fAd X.K d.at_)) (hm : X.mg x = some (.ref C)) (hr : Room (k + 1) X.A) (hx : Passes CX X E) (ha : PA X (e :: es) t) (hg : Gl X x := by rfl)
    (hdb : (x == ("__debug__" : Str)) = false := by decide) (he : starEach (e :: es) X.env = (false, eval e X.env) :: starEach es X.env := by rfl) (hpl : (backTo pos (starEach es X.env)).any (·.1) = false := by rfl) :
    PE X (.Call (.Name x p) (e :: es) [] pos) (tMake C sp [] E t) := by
  obtain ⟨fd, F, hb⟩ := G.bn hd hb
  exact pe_make M F hr hg hm hb .nil hx ha hdb he hpl
/-- o.m(k = v, ..) -/
theorem GtF.methK (G : GtF X.prog X.w X.K X.mg X.base CX k d ps sp) (B : Kb d ps 1 ks js is) (c : Cls X.K C) (hm : Meth X.K C m (He.fAd X.K d.at_)) (hr : Room k X.A) (hx : Passes CX X E) (he : PE X o ta) (hkw : PK X kws tk) {pl : Sem Bool}
    (hall : (backToKw pos (keywordEach kws X.env)).all (·.1.isSome) = true := by rfl) (hks : (backToKw pos (keywordEach kws X.env)).filterMap (·.1) = ks := by rfl)
    (hpl : ((backTo pos (starEach [] X.env)).any (·.1) || (backToKw pos (keywordEach kws X.env)).any (·.1.isNone)) = false := by rfl)
    (ht : eval (.Call (.Attribute o m apos) [] kws pos) X.env = (do
      let ov ← eval o X.env
      standAt apos.atName
      let (f, first) ← holding [ov] (getMethod ov m pl)
      callWith pos f first (backTo pos (starEach [] X.env)) (backToKw pos (keywordEach kws X.env))) := by rfl) :
    PE X (.Call (.Attribute o m apos) [] kws pos) (tMethK C m ks.length sp (gK d js is X.K) E ta tk) := by
  obtain ⟨fd, mv, F, hb⟩ := G.kbn B
  exact pe_methK (pl := pl) he c hm F hr hb hx hkw hall hks hpl ht
/-- o.m(), all keyword-only parameters left out -/
theorem GtF.meth0 (G : GtF X.prog X.w X.K X.mg X.base CX k d ps sp) (B : Kb0 d ps 1) (c : Cls X.K C) (hm : Meth X.K C m (He.fAd X.K d.at_)) (hr : Room k X.A) (hx : Passes CX X E) (he : PE X o ta) {pl : Sem Bool}
    (ht : eval (.Call (.Attribute o m apos) [] [] pos) X.env = (do
      let ov ← eval o X.env
      standAt apos.atName
      let (f, first) ← holding [ov] (getMethod ov m pl)
      callWith pos f first (backTo pos (starEach [] X.env)) (backToKw pos (keywordEach [] X.env))) := by rfl) :
    PE X (.Call (.Attribute o m apos) [] [] pos) (tMeth C m sp ((d.kws X.K).map (·.2)) E ta tNil) := by
  obtain ⟨fd, ds, F, hd, hb⟩ := G.kb0 B
  exact pe_meth0 (pl := pl) he c hm F hr hb hd hx ht
/-- o.m(e, ..) -/
theorem GtF.meth (G : GtF X.prog X.w X.K X.mg X.base CX k d ps sp) (hd : d.dfl = []) (hb : BindN d ps) (c : Cls X.K C) (hm : Meth X.K C m (He.fAd X.K d.at_)) (hr : Room k X.A) (hx : Passes CX X E) (he : PE X o ta) (ha : PA X (e :: es) t) {pl : Sem Bool}
    (hst : starEach (e :: es) X.env = (false, eval e X.env) :: starEach es X.env := by rfl) (hpl : (backTo pos (starEach es X.env)).any (·.1) = false := by rfl)
    (ht : eval (.Call (.Attribute o m apos) (e :: es) [] pos) X.env = (do
      let ov ← eval o X.env
      standAt apos.atName
      let (f, first) ← holding [ov] (getMethod ov m pl)
      callWith pos f first (backTo pos (starEach (e :: es) X.env)) (backToKw pos (keywordEach [] X.env))) := by rfl) :
    PE X (.Call (.Attribute o m apos) (e :: es) [] pos) (tMeth C m sp [] E ta t) := by
  obtain ⟨fd, F, hb⟩ := G.bn hd hb
  exact pe_meth (pl := pl) he c hm F hr hb .nil hx ha hst hpl ht
/-- o.m() -/
theorem GtF.methN (G : GtF X.prog X.w X.K X.mg X.base CX k d ps sp) (hd : d.dfl = []) (hb : BindN d ps) (c : Cls X.K C) (hm : Meth X.K C m (He.fAd X.K d.at_)) (hr : Room k X.A) (hx : Passes CX X E) (he : PE X o ta) {pl : Sem Bool}
    (ht : eval (.Call (.Attribute o m apos) [] [] pos) X.env = (do
      let ov ← eval o X.env
      standAt apos.atName
      let (f, first) ← holding [ov] (getMethod ov m pl)
      callWith pos f first (backTo pos (starEach [] X.env)) (backToKw pos (keywordEach [] X.env))) := by rfl) :
    PE X (.Call (.Attribute o m apos) [] [] pos) (tMeth C m sp [] E ta tNil) := by
  obtain ⟨fd, F, hb⟩ := G.bn hd hb
  exact pe_meth0 (pl := pl) he c hm F hr hb .nil hx ht
end

/-! ### more of the head: Bools by place -/
theorem exs_at {exs : List (PySem.W.Frag → Bool)} {K : PySem.W.Frag} (h : (exs.all fun f => f K) = true) (i : Nat) {f : PySem.W.Frag → Bool} (e : exs[i]? = some f := by rfl) : f K = true :=
  List.all_eq_true.mp h f (List.mem_of_getElem? e)
/-- a written table read by a key -/
theorem kdct_of {K : PySem.W.Frag} {w : World} {a : Addr} {es : Array DictEntry} {n : Nat} {kvs : List (Str × He.Dv)} (D : KDict K w a es n) (h : He.valsB K a kvs = true) {q : Str × He.Dv} (hq : q ∈ kvs) : KDct K w a q.1 (q.2.v K) := by
  obtain ⟨u, hu, ru⟩ := He.valsB_ok h hq
  exact ⟨es, n, u, D.at_, D.lit, hu, ru⟩
end TP

namespace TP
open PySem PySem.Spec PyProof.Rows L2

/-- the slots written out -/
theorem nrm {P : L2.St → Hp → Prop} {σ σ' : L2.St} {H : Hp} (e : σ = σ') (h : P σ' H) : P σ H := by
  subst e
  exact h
theorem nrmG {i : Nat} {v : V} {σ σ' : L2.St} {H : Hp} {Q : L2.St → Hp → Prop} (e : σ.set i (some v) = σ') (h : Q σ' H) : gName i v σ H Q := by
  subst e
  exact h
/-! ### whole numbers -/
def isIntD : PyData → Bool
  | .int _ => true
  | _ => false
def isFromD (d : PyData) (l : Int) : Bool := match d with
  | .int i => decide (l ≤ i)
  | _ => false
def spWhole (K : PySem.W.Frag) : Sp := fun vs H Q _ => ∃ (x : V) (d : PyData), vs = [x] ∧ Dr K H x d ∧ Q (.bl (isIntD d)) H
def spFrom (K : PySem.W.Frag) : Sp := fun vs H Q _ => ∃ (x : V) (d : PyData) (l : Int), vs = [x, .int l] ∧ Dr K H x d ∧ Q (.bl (isFromD d l)) H
/-! ### a rule: seven numbers -/
structure RN where
  s : Int
  b : Int
  st : Int
  m : Int
  l : Int
  k : Int
  bk : Int
abbrev Bd (i : Int) : Prop := 0 ≤ i ∧ i < 2 ^ 600
structure RN.ok (r : RN) : Prop where
  s : 0 ≤ r.s
  b : 0 ≤ r.b
  st : 1 ≤ r.st
  m : 0 ≤ r.m
  l : 0 ≤ r.l
  k : 0 ≤ r.k
  bk : 0 ≤ r.bk
def RN.fs (r : RN) : List (Str × V) := [("since", .int r.s), ("base", .int r.b), ("step", .int r.st), ("more", .int r.m), ("leg", .int r.l), ("kept", .int r.k), ("back", .int r.bk)]
def RN.vs (r : RN) : List V := [.int r.s, .int r.b, .int r.st, .int r.m, .int r.l, .int r.k, .int r.bk]
/-- a rule lies at a -/
def Ru (K : PySem.W.Frag) (H : Hp) (a : Addr) (r : RN) : Prop := ∃ dx, H a = some (.ins (He.ga K "Rule") dx r.fs)
def RN.fee (r : RN) (wt lg : Int) (kp : Bool) : Int := r.b + r.m * ((wt - 1) / r.st) + r.l * lg + (if kp then r.k else 0)
/-- a rule is made: all numbers are from their leasts on -/
def spRuleG (K : PySem.W.Frag) : Sp := fun vs H Q _ => ∃ (x dx : Addr) (r : RN), vs = .ref x :: r.vs ∧ H x = some (.ins (He.ga K "Rule") dx []) ∧ r.ok ∧ ∀ H', Wk x H H' → H' x = some (.ins (He.ga K "Rule") dx r.fs) → Q .non H'
def spFee (K : PySem.W.Frag) : Sp := fun vs H Q _ => ∃ (a : Addr) (r : RN) (wt lg : Int) (kp : Bool), vs = [.ref a, .int wt, .int lg, .bl kp] ∧ Ru K H a r ∧ r.ok ∧ r.st < 2 ^ 600 ∧ r.m < 2 ^ 600 ∧ r.l < 2 ^ 600 ∧ 1 ≤ wt ∧ wt < 2 ^ 600 ∧ Bd lg ∧ Q (.int (r.fee wt lg kp)) H
theorem p600 : (1 : Int) < 2 ^ 600 := by decide +kernel
theorem bd0 : Bd 0 := ⟨by decide, by decide +kernel⟩
theorem lt600 {i : Int} (h : i < 10 ^ 61) : i < 2 ^ 600 := Int.lt_trans h (by decide +kernel)
theorem mulW {i j : Int} (hi : 0 ≤ i) (hi2 : i < 2 ^ 600) (hj : 0 ≤ j) (hj2 : j < 2 ^ 600) : CMulW i j :=
  wide_mul (a := 600) (b := 600) (by omega) (by omega) (by decide) (by decide) (by decide)
theorem divW {i j : Int} (hj : 1 ≤ j) (hj2 : j < 2 ^ 600) : CDivW i j := wide_div (b := 600) (by omega) (by omega) (by decide) (by decide)
theorem fee_bd {r : RN} (ok : r.ok) (hb : r.b < 10 ^ 60) (hm : r.m < 10 ^ 60) (hl : r.l < 10 ^ 60) (hk : r.k < 10 ^ 60) {wt lg : Int} {kp : Bool} (w1 : 1 ≤ wt) (w2 : wt ≤ 1000) (l1 : 0 ≤ lg) (l2 : lg ≤ 1000) : 0 ≤ r.fee wt lg kp ∧ r.fee wt lg kp < 10 ^ 100 := by
  have h1 : 0 ≤ (wt - 1) / r.st := Int.ediv_nonneg (by omega) (by have := ok.st; omega)
  have h2 : (wt - 1) / r.st ≤ 1000 := Int.le_trans (Int.ediv_le_self _ (by omega)) (by omega)
  unfold RN.fee
  generalize (wt - 1) / r.st = hv at h1 h2 ⊢
  have a1 : 0 ≤ r.m * hv := Int.mul_nonneg ok.m h1
  have a2 : r.m * hv ≤ 10 ^ 60 * 1000 := Int.mul_le_mul (by omega) h2 h1 (by decide)
  have b1 : 0 ≤ r.l * lg := Int.mul_nonneg ok.l l1
  have b2 : r.l * lg ≤ 10 ^ 60 * 1000 := Int.mul_le_mul (by omega) l2 l1 (by decide)
  have c0 := ok.b
  have c1 := ok.k
  generalize r.m * hv = u at a1 a2 ⊢
  generalize r.l * lg = v at b1 b2 ⊢
  cases kp <;> simp <;> omega
theorem heavy_bd {wt st : Int} (h : 1 ≤ wt) (h2 : wt < 2 ^ 600) (hs : 1 ≤ st) : 0 ≤ (wt - 1) / st ∧ (wt - 1) / st < 2 ^ 600 := by
  refine ⟨Int.ediv_nonneg (by omega) (by omega), Int.lt_of_le_of_lt (Int.ediv_le_self _ (by omega)) (by omega)⟩
/-! ### rows of numbers shown -/
theorem smInt {i : Int} (h0 : 0 ≤ i) (h : i < 10 ^ 100) : Sm 100 (.int i) := by
  refine ⟨?_, ?_, by rw [PyData.depth]; decide⟩
  · show decide (i.natAbs.log2 < 1920) = true
    refine decide_eq_true ?_
    by_cases h1 : i.natAbs = 0
    · rw [h1]
      decide
    · exact Nat.lt_of_lt_of_le ((Nat.log2_lt h1).mpr (show i.natAbs < 2 ^ 400 by omega)) (by decide)
  · rw [TP.wt]
    exact PyProof.Rows.toString_length_le h0 (by decide) h
theorem drInts {K : PySem.W.Frag} {H : Hp} : ∀ l : List Int, DrAll K H (l.map V.int) (l.map PyData.int)
  | [] => .nil
  | i :: l => .cons (.int i) (drInts l)
theorem shAll {B : Nat} : ∀ {l : List PyData}, (∀ d ∈ l, Sm B d) → PyData.showableAll l = true ∧ wtAll l ≤ l.length * (B + 2) ∧ PyData.depthAll l ≤ 20
  | [], _ => ⟨rfl, Nat.zero_le _, by rw [PyData.depthAll]; decide⟩
  | d :: l, h => by
    have h1 := h d (.head _)
    obtain ⟨h2, h3, h4⟩ := shAll (l := l) fun e he => h e (.tail _ he)
    have h5 := h1.wt
    have h6 := h1.dp
    refine ⟨by rw [PyData.showableAll, h1.sh, h2]; rfl, ?_, ?_⟩
    · rw [wtAll, List.length_cons, Nat.add_mul]
      omega
    · rw [PyData.depthAll]
      omega
theorem smInts {l : List Int} (h : ∀ i ∈ l, 0 ≤ i ∧ i < 10 ^ 100) (hl : l.length ≤ 100) : (PyData.list (l.map PyData.int)).showable = true ∧ (PyData.list (l.map PyData.int)).depth ≤ 50 ∧ (PyData.list (l.map PyData.int)).shown.length ≤ sizeLine := by
  obtain ⟨h1, h2, h3⟩ := shAll (B := 100) (l := l.map PyData.int) fun d hd => by
    obtain ⟨i, hi, rfl⟩ := List.mem_map.mp hd
    exact smInt (h i hi).1 (h i hi).2
  refine ⟨h1, by rw [PyData.depth]; omega, Nat.le_trans (shown_wt _) ?_⟩
  rw [TP.wt]
  rw [List.length_map] at h2
  have : sizeLine = 16777216 := sizeLine_eq
  have : l.length * (100 + 2) ≤ 100 * 102 := Nat.mul_le_mul hl (Nat.le_refl _)
  omega
/-- a class's object is made: all else stays -/
theorem made_ex {H H' : Hp} {x dx : Addr} {o o' : HO} (hx : H x = none) (hd : H dx = none) (wk : Wk x (upd (upd H dx o') x o) H') : Evl.Ex H H' := fun b u hb => by
  refine wk b u (ne_of_none hb hx) ?_
  rw [upd_ne (ne_of_none hb hx), upd_ne (ne_of_none hb hd)]
  exact hb
theorem Wl.ex {H H' : Hp} {a : Addr} {n : Nat} (h : Wl H a n) (e : Evl.Ex H H') : Wl H' a n := by
  obtain ⟨x, y, c, q, r⟩ := h
  exact ⟨x, y, c, e _ _ q, r⟩
theorem Dn.ex {a : Addr} {n : Nat} {H H1 H' : Hp} (h : Dn a n H H1) (e : Evl.Ex H1 H') : Dn a n H H' := ⟨h.wl.ex e, fun b o nb hb => e b o (h.k b o nb hb)⟩
theorem Ru.ex {K : PySem.W.Frag} {H H' : Hp} {a : Addr} {r : RN} (h : Ru K H a r) (e : Evl.Ex H H') : Ru K H' a r := by
  obtain ⟨dx, q⟩ := h
  exact ⟨dx, e _ _ q⟩
theorem Ru.dn {K : PySem.W.Frag} {H H' : Hp} {a b : Addr} {n : Nat} {r : RN} (h : Ru K H a r) (d : Dn b n H H') (nb : a ≠ b) : Ru K H' a r := by
  obtain ⟨dx, q⟩ := h
  exact ⟨dx, d.k _ _ nb q⟩
/-! ### a comprehension that draws -/
theorem Dn.put {a D : Addr} {m : Nat} {H H' : Hp} {o : HO} (d : Dn a m H H') (hD : H D = none) (n : D ≠ a) : Dn a m H (upd H' D o) := by
  refine ⟨?_, fun b u nb h => ?_⟩
  · obtain ⟨x, y, c, e, r⟩ := d.wl
    exact ⟨x, y, c, by rw [upd_ne (Ne.symm n)]; exact e, r⟩
  · rw [upd_ne (ne_of_none h hD)]
    exact d.k b u nb h
theorem lc_dn {J : It} {n : Nat} {G : Hp → Prop} {Y : Nat → Hp → V → Hp → Prop} (w : Walk J n G Y) {g : TG} {tt : TT} {te : TE} {vs : List Nat} {σ : L2.St} {H1 : Hp} {a D : Addr} {Qd : Hp → Prop} (m0 k : Nat) (P : V → Prop)
    (hW : Wl H1 a m0) (hD : H1 D = none) (hn : n < 1000000) (hG : ∀ m H, Dn a m H1 H → G H)
    (hs : ∀ (i : Nat) (x : V) (H H' : Hp) (C : V → Hp → Prop) (N : Hp → Prop), i < n → Dn a (m0 + i * k) H1 H → Y i H x H' → (∀ v H4, P v → Dn a (m0 + (i + 1) * k) H H4 → C v H4) →
      g x (wipe σ vs) H' fun σ2 H2 => wipe σ2 vs = wipe σ vs ∧ tt σ2 H2 fun b H3 => if b = true then te σ2 H3 C else N H3)
    (hd : ∀ H' acc, Dn a (m0 + n * k) H1 H' → H' D = some (.lst acc) → acc.length = n → (∀ v ∈ acc, P v) → Qd H') :
    ∃ W : Nat → Nat → Hp → Prop, (∃ m, W 0 m (upd H1 D (.lst []))) ∧ ∀ i m H, W i m H →
      (J.stop i H ∧ Qd H) ∨ (J.go i H ∧ ∃ Nx : Hp → Prop, (∀ H', Nx H' → ∃ m', m' < m ∧ W (i + 1) m' H') ∧ ∀ x H', J.yld i H x H' → g x (wipe σ vs) H' fun σ2 H2 => wipe σ2 vs = wipe σ vs ∧ tt σ2 H2 fun b H3 =>
        if b = true then te σ2 H3 fun y H4 => ∃ acc, H4 D = some (.lst acc) ∧ acc.length < sizeLine ∧ Nx (upd H4 D (.lst (acc ++ [y]))) else Nx H3) := by
  have nD : D ≠ a := hW.nep hD
  refine lc_it w (fun i H => Dn a (m0 + i * k) H1 H ∧ ∃ acc, H D = some (.lst acc) ∧ acc.length = i ∧ ∀ v ∈ acc, P v) ⟨?_, [], upd_same, rfl, fun v h => nomatch h⟩ (fun i H _ q => hG _ H q.1) (fun i x H H' hi q y => ?_) (fun H q => ?_)
  · exact Dn.put ⟨by simpa using hW, Wk.refl _ _⟩ hD nD
  · obtain ⟨d, acc, ha, hl, hp⟩ := q
    refine hs i x H H' _ _ hi d y fun v H4 hv d4 => ⟨acc, d4.k D _ nD ha, ?_, (d.trans d4).put hD nD, acc ++ [v], upd_same, by simp [hl], fun u hu => ?_⟩
    · have : sizeLine = 16777216 := sizeLine_eq
      omega
    · rcases List.mem_append.mp hu with h | h
      · exact hp u h
      · have : u = v := by simpa using h
        rw [this]
        exact hv
  · obtain ⟨d, acc, ha, hl, hp⟩ := q
    exact hd H acc d ha hl hp
/-- a number from a least one on, of up to sixty figures -/
def spNum : Sp := fun vs H Q _ => ∃ (a : Addr) (n : Nat) (l : Int), vs = [.ref a, .int l] ∧ Wl H a n ∧ n < 900000 ∧ ∀ (d : Int) (H' : Hp), 0 ≤ d → d < 10 ^ 59 → Dn a (n + 2) H H' → Q (.int (l + d)) H'
abbrev LKs : List Str := ["since", "base", "step", "more", "leg", "kept", "back"]
abbrev LKv : List (Str × He.Dv) := [("since", .int 0), ("base", .int 0), ("step", .int 1), ("more", .int 0), ("leg", .int 0), ("kept", .int 0), ("back", .int 0)]
theorem rule_at {r : RN} (ok : r.ok) {i : Nat} {x y : V} (hi : i < 7) (h1 : (LKs[i]?).map V.str = some x) (h2 : r.vs[i]? = some y) : ∃ (z : Str) (l j : Int), x = .str z ∧ y = .int j ∧ (z, He.Dv.int l) ∈ LKv ∧ l ≤ j := by
  match i, hi with
  | 0, _ => cases h1; cases h2; exact ⟨_, _, _, rfl, rfl, .head _, ok.s⟩
  | 1, _ => cases h1; cases h2; exact ⟨_, _, _, rfl, rfl, .tail _ (.head _), ok.b⟩
  | 2, _ => cases h1; cases h2; exact ⟨_, _, _, rfl, rfl, .tail _ (.tail _ (.head _)), ok.st⟩
  | 3, _ => cases h1; cases h2; exact ⟨_, _, _, rfl, rfl, .tail _ (.tail _ (.tail _ (.head _))), ok.m⟩
  | 4, _ => cases h1; cases h2; exact ⟨_, _, _, rfl, rfl, .tail _ (.tail _ (.tail _ (.tail _ (.head _)))), ok.l⟩
  | 5, _ => cases h1; cases h2; exact ⟨_, _, _, rfl, rfl, .tail _ (.tail _ (.tail _ (.tail _ (.tail _ (.head _))))), ok.k⟩
  | 6, _ => cases h1; cases h2; exact ⟨_, _, _, rfl, rfl, .tail _ (.tail _ (.tail _ (.tail _ (.tail _ (.tail _ (.head _)))))), ok.bk⟩
end TP

namespace TP
open PySem PySem.Spec PyProof.Rows L2

/-! ### an own exception class over an own base class -/
def oexB (K : PySem.W.Frag) (x : Str) : Bool := (match K.lookup (He.ga K x) with
    | some ⟨.type t, _, .cls cd, sl⟩ => decide (t = "type") && (match cd.mro, sl.toList with
      | .ref C' :: bm, [_, _, _, _, some (.builtin n), _] => decide (C' = He.ga K x) && (decide (n = "ValueError.__new__") && (!cd.hasDel && (cd.hasDict && PySem.HandSPX.refsVE bm)))
      | _, _ => false)
    | _ => false) &&
  (He.eqO (PySem.W.findIn K (.ref (He.ga K x)) "__setattr__") (some (some (.builtin "object.__setattr__"))) && (decide (PySem.W.subIn K (.ref (He.ga K x)) (.type "BaseException") = some true) &&
    (decide (PySem.W.typeIn K (.ref (He.ga K x)) = some (.type "type")) && PySem.W.keepIn K (.ref (He.ga K x)))))
theorem oexB_ok {K : PySem.W.Frag} {x : Str} (h : oexB K x = true) : OexC K (He.ga K x) := by
  obtain ⟨h0, h⟩ := He.ba h
  obtain ⟨h1, h⟩ := He.ba h
  obtain ⟨h2, h⟩ := He.ba h
  obtain ⟨h3, h4⟩ := He.ba h
  refine ⟨?_, He.eqO_ok h1, of_decide_eq_true h2, of_decide_eq_true h3, h4⟩
  split at h0
  · rename_i t dd cd sl ho
    obtain ⟨ht, hb⟩ := He.ba h0
    clear h0
    obtain rfl : t = "type" := of_decide_eq_true ht
    split at hb
    · rename_i C' bm k0 k1 k2 k3 n k5 hm hs
      obtain ⟨a1, hb⟩ := He.ba hb
      obtain ⟨a2, hb⟩ := He.ba hb
      obtain ⟨a3, hb⟩ := He.ba hb
      obtain ⟨a4, a5⟩ := He.ba hb
      have e1 : C' = He.ga K x := of_decide_eq_true a1
      have e2 : n = "ValueError.__new__" := of_decide_eq_true a2
      subst e2
      obtain ⟨nm, bs, mro, ns, qn, hd, sn, sub, ab, col, del⟩ := cd
      dsimp only at hm a3 a4
      have e3 : del = false := by simpa using a3
      subst e3 a4 hm
      have hsl : sl = #[k0, k1, k2, k3, some (.builtin "ValueError.__new__"), k5] := by
        obtain ⟨l⟩ := sl
        simp only at hs
        rw [hs]
      subst hsl
      rw [← e1] at ho ⊢
      exact ⟨nm, qn, ns, bs, bm, sn, sub, ab, col, dd, k0, k1, k2, k3, k5, ho, a5⟩
    · cases hb
  · cases h0
/-- its base's __init__ is ValueError's -/
def baseB (K : PySem.W.Frag) (x : Str) : Bool := PySem.W.readsIn K (He.ga K x) (.type "type") && (He.eqO (PySem.W.specialIn K (.ref (He.ga K x)) "__getattribute__") (some (some (.builtin "type.__getattribute__"))) &&
  ((match PySem.W.findCls K (.ref (He.ga K x)) (.type "type") "__init__" with
    | some (.val (.builtin n)) => decide (n = "ValueError.__init__")
    | _ => false) && PySem.W.keepIn K (.ref (He.ga K x))))
structure BaseC (K : PySem.W.Frag) (B : Addr) : Prop where
  rd : PySem.W.readsIn K B (.type "type") = true
  ga : PySem.W.specialIn K (.ref B) "__getattribute__" = some (some (.builtin "type.__getattribute__"))
  it : PySem.W.findCls K (.ref B) (.type "type") "__init__" = some (.val (.builtin "ValueError.__init__"))
theorem baseB_ok {K : PySem.W.Frag} {x : Str} (h : baseB K x = true) : BaseC K (He.ga K x) := by
  obtain ⟨h1, h⟩ := He.ba h
  obtain ⟨h2, h⟩ := He.ba h
  obtain ⟨h3, h4⟩ := He.ba h
  refine ⟨h1, He.eqO_ok h2, ?_⟩
  split at h3
  · rename_i n e
    rw [e, of_decide_eq_true h3]
  · cases h3
/-- the init of such a class stands, its fields are not the class's -/
def einB (K : PySem.W.Frag) (x : Str) : Bool := He.eqO (PySem.W.findIn K (.ref (He.ga K x)) "__init__") (some (some (.ref (He.fAd K (x, some "__init__"))))) && decide (PySem.W.typeIn K (.ref (He.fAd K (x, some "__init__"))) = some (.type "function"))
theorem einB_ok {K : PySem.W.Frag} {x : Str} (h : einB K x = true) : PySem.W.findIn K (.ref (He.ga K x)) "__init__" = some (some (.ref (He.fAd K (x, some "__init__")))) ∧ PySem.W.typeIn K (.ref (He.fAd K (x, some "__init__"))) = some (.type "function") := by
  obtain ⟨h1, h2⟩ := He.ba h
  exact ⟨He.eqO_ok h1, of_decide_eq_true h2⟩
def excCB (K : PySem.W.Frag) (x : Str) : Bool := He.eqO (PySem.W.findIn K (.ref (He.ga K x)) "__getattribute__") (some (some (.builtin "BaseException.__getattribute__"))) && (He.eqO (PySem.W.findIn K (.ref (He.ga K x)) "__getattr__") (some none) &&
  (decide (PySem.W.subIn K (.ref (He.ga K x)) (.type "BaseException") = some true) && (PySem.W.hasDictIn K (He.ga K x) && (He.eqO (PySem.W.findIn K (.ref (He.ga K x)) "__class__") (some (some (.builtin "object.__class__"))) &&
    (He.eqO (PySem.W.specialIn K (.builtin "object.__class__") "__get__") (some (some (.builtin "getset_descriptor.__get__"))) && (decide (PySem.W.takesIn K (.builtin "object.__class__") = some true) && decide (PySem.W.mroIn K (He.ga K x) (.type "object") = some true)))))))
theorem excCB_ok {K : PySem.W.Frag} {x : Str} (h : excCB K x = true) : ExcC K (He.ga K x) := by
  obtain ⟨h1, h⟩ := He.ba h
  obtain ⟨h2, h⟩ := He.ba h
  obtain ⟨h3, h⟩ := He.ba h
  obtain ⟨h4, h⟩ := He.ba h
  obtain ⟨h5, h⟩ := He.ba h
  obtain ⟨h6, h⟩ := He.ba h
  obtain ⟨h7, h8⟩ := He.ba h
  exact ⟨He.eqO_ok h1, He.eqO_ok h2, of_decide_eq_true h3, h4, He.eqO_ok h5, He.eqO_ok h6, of_decide_eq_true h7, of_decide_eq_true h8⟩
/-- isinstance by classes -/
def kitB2 (K : PySem.W.Frag) (xs ys : List Str) (t : Str → Str → Bool) : Bool := xs.all fun x => ys.all fun y => decide (PySem.W.kitOne K (.ref (He.ga K x)) (.ref (He.ga K y)) = some (t x y))
theorem kitB2_ok {K : PySem.W.Frag} {xs ys : List Str} {t : Str → Str → Bool} (h : kitB2 K xs ys t = true) {x y : Str} (hx : x ∈ xs) (hy : y ∈ ys) : PySem.W.kitOne K (.ref (He.ga K x)) (.ref (He.ga K y)) = some (t x y) :=
  of_decide_eq_true (List.all_eq_true.mp (List.all_eq_true.mp h x hx) y hy)

section
variable {X : Cx} {o e : Expr} {es : List Expr} {to te : TE} {ta : TA} {f x : Str} {p p' p1 p2 pos : Pos}
/-- B.__init__(self, ..), B a class of the text over ValueError without own __init__ -/
theorem pe_poinit {pl : Sem Bool} {B : Addr} (b : BaseC X.K B) (hm : X.mg x = some (.ref B)) (ha : PA X (e :: es) ta) (hg : Gl X x := by rfl) (hdb : (x == ("__debug__" : Str)) = false := by decide)
    (hc : eval (.Call (.Attribute (.Name x p1) "__init__" p2) (e :: es) [] pos) X.env = (do
      let ov ← eval (.Name x p1) X.env
      standAt p2.atName
      let (f, first) ← holding [ov] (getMethod ov "__init__" pl)
      callWith pos f first (backTo pos (starEach (e :: es) X.env)) (backToKw pos (keywordEach [] X.env))) := by rfl)
    (he : starEach (e :: es) X.env = (false, eval e X.env) :: starEach es X.env := by rfl) (hpl : (backTo pos (starEach es X.env)).any (·.1) = false := by rfl) :
    PE X (.Call (.Attribute (.Name x p1) "__init__" p2) (e :: es) [] pos) (tVeI X.K ta) := by
  refine ⟨fun pins s σ H Q I h => ?_⟩
  refine PySem.W.methodCall_KW (ld_glob I hg hm ?_ hdb) hc
  refine PySem.W.method_cls I.kIn b.ga (PySem.W.cls_value I.kIn b.rd b.it rfl ?_)
  show wpAny _ _ (callWith pos (Value.builtin "ValueError.__init__") [] (backTo pos (starEach (e :: es) X.env)) []) _ _ _
  refine PyProof.Rows.callWith_method1 (thn (ha.run pos pins _ σ H _ (I.tok _) h) fun us s1 ⟨vs, H1, I1, r1, a, C, ws, ev, hl, T, ea, q⟩ => ?_) he hpl
  subst ev
  cases r1 with
  | @cons _ u0 _ ur ra rw' =>
    obtain rfl : u0 = Value.ref a := ra
    have hlen : ur.length ≤ sizeLine := by
      rw [← Paired.length rw', sizeLine_eq]
      omega
    exact oinit_ok T I1 ea hlen fun s' J => ⟨.non, H1, J, rfl, q⟩
/-- C(e, ..) as a value -/
def tMkV (C : Addr) (sp : Sp) (E : XK) (ta : TA) : TE := fun σ H Q => ta σ H fun vs H1 => vs.length ≤ 1000 ∧ ∀ a, H1 a = none → sp (.ref a :: vs) (upd H1 a (exo a C none)) (fun v H2 => v = .non ∧ Q (.ref a) H2) E
theorem pe_mkV {CX : CXT} {C : Addr} {k : Nat} {d : He.DefD} {ps : List Str} {sp : Sp} {E : XK} (T : OexC X.K C) (iC : PySem.W.findIn X.K (.ref C) "__init__" = some (some (.ref (He.fAd X.K d.at_))) ∧ PySem.W.typeIn X.K (.ref (He.fAd X.K d.at_)) = some (.type "function"))
    (G : GtF X.prog X.w X.K X.mg X.base CX k d ps sp) (hdf : d.dfl = []) (hbn : BindN d ps) (hm : X.mg x = some (.ref C)) (hr : Room (k + 1) X.A) (hx : Passes CX X E) (ha : PA X (e :: es) ta) (hg : Gl X x := by rfl)
    (hdb : (x == ("__debug__" : Str)) = false := by decide) (he : starEach (e :: es) X.env = (false, eval e X.env) :: starEach es X.env := by rfl) (hpl : (backTo pos (starEach es X.env)).any (·.1) = false := by rfl) :
    PE X (.Call (.Name x p) (e :: es) [] pos) (tMkV C sp E ta) := by
  obtain ⟨fd, F1, hb⟩ := G.bn hdf hbn
  obtain ⟨iC, tI⟩ := iC
  refine ⟨fun pins s σ H Q I h => ?_⟩
  obtain ⟨nm, q, N, bs, bm, sn, sub, ab, col, dd, k0, k1, k2, k3, k5, hC, hbm⟩ := T.cls
  refine wpAny_Call_Name_kw (ld_glob I hg hm ?_ hdb)
  refine PySem.W.callWith_K (h₀ := X.base) I.ok.mod.kin T.kC (thn (ha.run pos pins s σ H _ I h) fun us s1 ⟨vs, H1, I1, r1, hz, q1⟩ => ⟨I1.kIn, ?_⟩) he hpl
  show wpAny _ _ (call (.ref C) us) _ _ _
  obtain ⟨hp, g, dr, tk, os⟩ := s1
  have hsz : hp.objs.size ≤ hp.objs.size + 1 := Nat.le_succ _
  have hn : H1 (hp.objs.size + 1) = none := I1.hok.fresh hsz
  have hq := q1 (hp.objs.size + 1) hn
  have kk : ∀ b o, hp.get? b = some o → ((hp.push (PySem.W.kdv_tup us)).push (PySem.HandSPX.excO C hp.objs.size)).get? b = some o := fun b o e => Heap.get?_push_of_some _ (Heap.get?_push_of_some _ e)
  have hget : ((hp.push (PySem.W.kdv_tup us)).push (PySem.HandSPX.excO C hp.objs.size)).get? (hp.objs.size + 1) = some (PySem.HandSPX.excO C hp.objs.size) := by heap_get
  have I2 : Inv X pins σ (upd H1 (hp.objs.size + 1) (exo (hp.objs.size + 1) C none)) ⟨(hp.push (PySem.W.kdv_tup us)).push (PySem.HandSPX.excO C hp.objs.size), g, dr, tk, os⟩ :=
    I1.laid (t' := tk) (a := hp.objs.size + 1) (o := exo (hp.objs.size + 1) C none) (h' := (hp.push (PySem.W.kdv_tup us)).push (PySem.HandSPX.excO C hp.objs.size)) kk hsz (exo_ok hget)
  have r2 : Vals (V.ref (hp.objs.size + 1) :: vs) (Value.ref (hp.objs.size + 1) :: us) := .cons rfl r1
  have hl : (Value.ref (hp.objs.size + 1) :: us ++ []).length = ps.length := by
    have e := r2.length
    rw [F1.len _ _ _ _ hq] at e
    rw [List.append_nil]
    exact e.symm
  have hus : us.length ≤ sizeLine := by
    rw [← Paired.length r1, sizeLine_eq]
    omega
  have hb2 := hb _ (Value.ref (hp.objs.size + 1) :: us) I2.kIn hl
  rw [List.append_nil] at hb2
  refine wpAny_call (PySem.HandSPX.call_own F.excBase_ValueError (fun Y => PySem.HandSPX.refsVE_contains Y bm hbm) (I1.kIn _ _ hC) (PySem.W.looks_findIn I1.kIn iC) (fun self => PySem.W.bind_fn I1.kIn self tI) hus
    (codeAny_mono (F1.run _ X.stack _ _ ⟨Value.ref (hp.objs.size + 1) :: us, []⟩ (Value.ref (hp.objs.size + 1) :: us) _ _ E (hr.make C us []) (I2.env0.make C us []) hb2 r2 hq) fun r s' hq' => ?_))
  cases r with
  | error er => exact hx pins σ _ _ er s' I2 hq'
  | ok fl =>
    cases fl with
    | ret u =>
      obtain ⟨v, H', I3, rv, ev, q3⟩ := I2.after hq'
      subst ev
      exact ⟨rv, ⟨V.ref (hp.objs.size + 1), H', I3, rfl, q3⟩⟩
    | next => exact False.elim hq'
    | brk => exact False.elim hq'
    | cont => exact False.elim hq'
/-- an error stands at a, its fields fs -/
def Er (H : Hp) (a C : Addr) (fs : List (Str × V)) : Prop := ∃ d, H a = some (exo a C (some d)) ∧ H d = some (exd d fs)
theorem Er.ex {H H' : Hp} {a C : Addr} {fs : List (Str × V)} (h : Er H a C fs) (e : Evl.Ex H H') : Er H' a C fs := by
  obtain ⟨d, h1, h2⟩ := h
  exact ⟨d, e _ _ h1, e _ _ h2⟩
theorem er_at {pins : List (Addr × Obj)} {σ : L2.St} {H : Hp} {s : Shared} {a C : Addr} {fs : List (Str × V)} (I : Inv X pins σ H s) (h : Er H a C fs) :
    ∃ (ox od : Obj) (mA : Str → Option Value), PySem.W.InstAt s.heap a ox C (some od) ∧ (∀ n, PySem.W.lookIn n od = some (mA n)) ∧ ∀ f, RelO (fs.lookup f) (mA f) := by
  obtain ⟨d, h1, h2⟩ := h
  obtain ⟨t1, he⟩ := exo_at I.hok h1
  obtain ⟨mA, hns, hr⟩ := exd_at I.hok h2
  obtain ⟨od, ho, hl⟩ := lookIn_ns hns
  exact ⟨_, od, mA, ⟨he, rfl, rfl, ho⟩, hl, hr⟩
/-- e.f -/
def tXv (K : PySem.W.Frag) (f : Str) (te : TE) : TE := fun σ H Q => te σ H fun x H1 => ∃ (a C : Addr) (fs : List (Str × V)) (v : V), x = .ref a ∧ ExcC K C ∧ PySem.W.findIn K (.ref C) f = some none ∧ Er H1 a C fs ∧ fs.lookup f = some v ∧ Q v H1
theorem pe_xv (he : PE X e te) (hb : attributeBase e f X.env (eval e X.env) = eval e X.env := by rfl) : PE X (.Attribute e f pos) (tXv X.K f te) := by
  refine ⟨fun pins s σ H Q I h => ?_⟩
  refine attr_of hb (thn (he.run pins s σ H _ I h) fun u s1 hh => ?_)
  obtain ⟨x, H1, I1, rx, a, C, fs, v, ex, T, hno, er, l, q⟩ := hh
  subst ex
  obtain rfl : u = Value.ref a := rx
  obtain ⟨ox, od, mA, J, hl, hr⟩ := er_at I1 er
  obtain ⟨u, hu, ru⟩ := RelO.some_of (v := v) (o := mA f) (by rw [← l]; exact hr f)
  exact HandSPX.exc_get I1.kIn J T.hg T.hk T.hs (PySem.W.findObj_own T.hd hno rfl (by rw [hl, hu])) (handed_of ru) ⟨v, H1, I1.tok _, ru, q⟩
/-- isinstance(e, c) -/
def rIsX (K : PySem.W.Frag) : List V → Hp → VK → Prop := fun xs H Q => ∃ (a C : Addr) (fs : List (Str × V)) (c : V) (cv : Value) (b : Bool), xs = [.ref a, c] ∧ ClsV c cv ∧ ExcC K C ∧ Er H a C fs ∧ PySem.W.kitOne K (.ref C) cv = some b ∧ Q (.bl b) H
theorem call_isx : CallR X (.builtin "isinstance") (rIsX X.K) := by
  intro pins s σ H xs us Q I r h
  obtain ⟨a, C, fs, c, cv, b, rfl, hcv, T, er, e, q⟩ := h
  obtain ⟨u1, u2, rfl, r1, r2⟩ := vals2 r
  obtain rfl : u1 = Value.ref a := r1
  have ec := hcv.eq r2
  subst ec
  obtain ⟨ox, od, mA, J, hl, hr⟩ := er_at I er
  have hcl : (PySem.W.clsIn X.K C).isSome = true := by
    obtain ⟨cd, hc, _⟩ := PySem.W.any_some T.hd
    rw [hc]
    rfl
  exact PySem.W.kia_one (PySem.W.kitx_exc hcl T.hg T.hk T.hs T.ha T.hn T.ht T.hm) I.kIn J e (fun z => nomatch z) fun tk => ⟨.bl b, H, I.kept (t' := tk) fun _ _ z => z, rfl, q⟩
end
/-! ### errors with one field, with two -/
abbrev eC (K : PySem.W.Frag) (x : Str) : Addr := He.ga K x
def spErr1 (K : PySem.W.Frag) (x f : Str) : Sp := fun vs H Q _ => ∃ (a : Addr) (v : V), vs = [.ref a, v] ∧ H a = some (exo a (eC K x) none) ∧
  ∀ dx, H dx = none → dx ≠ a → Q .non (upd (upd H dx (exd dx [(f, v)])) a (exo a (eC K x) (some dx)))
def spErr2 (K : PySem.W.Frag) (x f g : Str) : Sp := fun vs H Q _ => ∃ (a : Addr) (v u : V), vs = [.ref a, v, u] ∧ H a = some (exo a (eC K x) none) ∧
  ∀ dx, H dx = none → dx ≠ a → Q .non (upd (upd (upd H dx (exd dx [(f, v)])) a (exo a (eC K x) (some dx))) dx (exd dx [(g, u), (f, v)]))
def ktT (x y : Str) : Bool := decide (x = y) || decide (y = "PostError")
def exmB2 (K : PySem.W.Frag) (xs ys : List Str) (t : Str → Str → Bool) : Bool := xs.all fun x => ys.all fun y => decide (PySem.W.exmOne K (.ref (He.ga K x)) (.ref (He.ga K y)) = some (t x y))
theorem exmB2_ok {K : PySem.W.Frag} {xs ys : List Str} {t : Str → Str → Bool} (h : exmB2 K xs ys t = true) {x y : Str} (hx : x ∈ xs) (hy : y ∈ ys) : PySem.W.exmOne K (.ref (He.ga K x)) (.ref (He.ga K y)) = some (t x y) :=
  of_decide_eq_true (List.all_eq_true.mp (List.all_eq_true.mp h x hx) y hy)
/-- an error as a value is laid -/
theorem er_new {H1 : Hp} {a C dx : Addr} {fs : List (Str × V)} (hn : H1 a = none) (hd : upd H1 a (exo a C none) dx = none) (ne : dx ≠ a) :
    Evl.Ex H1 (upd (upd (upd H1 a (exo a C none)) dx (exd dx fs)) a (exo a C (some dx))) ∧ Er (upd (upd (upd H1 a (exo a C none)) dx (exd dx fs)) a (exo a C (some dx))) a C fs := by
  rw [upd_ne ne] at hd
  refine ⟨fun b o hb => ?_, dx, upd_same, ?_⟩
  · rw [upd_ne (ne_of_none hb hn), upd_ne (ne_of_none hb hd), upd_ne (ne_of_none hb hn)]
    exact hb
  · rw [upd_ne ne, upd_same]
theorem er_new2 {H1 : Hp} {a C dx : Addr} {fs gs : List (Str × V)} (hn : H1 a = none) (hd : upd H1 a (exo a C none) dx = none) (ne : dx ≠ a) :
    Evl.Ex H1 (upd (upd (upd (upd H1 a (exo a C none)) dx (exd dx fs)) a (exo a C (some dx))) dx (exd dx gs)) ∧ Er (upd (upd (upd (upd H1 a (exo a C none)) dx (exd dx fs)) a (exo a C (some dx))) dx (exd dx gs)) a C gs := by
  rw [upd_ne ne] at hd
  refine ⟨fun b o hb => ?_, dx, ?_, upd_same⟩
  · rw [upd_ne (ne_of_none hb hd), upd_ne (ne_of_none hb hn), upd_ne (ne_of_none hb hd), upd_ne (ne_of_none hb hn)]
    exact hb
  · rw [upd_ne (Ne.symm ne), upd_same]
end TP

namespace TP
open PySem PySem.Spec PyProof.Rows L2
/-! ### sizes of data, by depth -/
structure Sz (B k : Nat) (d : PyData) : Prop where
  sh : d.showable = true
  wt : TP.wt d ≤ B
  dp : d.depth ≤ k
theorem Sz.mono {B C k j : Nat} {d : PyData} (h : Sz B k d) (l : B ≤ C) (m : k ≤ j) : Sz C j d := ⟨h.sh, Nat.le_trans h.wt l, Nat.le_trans h.dp m⟩
theorem Sz.rp {B k : Nat} {d : PyData} (h : Sz B k d) (hb : B ≤ 10000000 := by decide) (hk : k ≤ 50 := by decide) : d.showable = true ∧ d.depth ≤ 50 ∧ d.shown.length ≤ sizeLine :=
  ⟨h.sh, Nat.le_trans h.dp hk, Nat.le_trans (shown_wt d) (Nat.le_trans h.wt (Nat.le_trans hb (by rw [sizeLine_eq]; decide)))⟩
theorem Sz.non : Sz 5 0 .none := ⟨rfl, by decide, by decide⟩
theorem Sz.bl (b : Bool) : Sz 5 0 (.bool b) := ⟨rfl, Nat.le_refl _, by rw [PyData.depth]; exact Nat.le_refl _⟩
theorem Sz.nat {i : Int} (h0 : 0 ≤ i) (h : i < 10 ^ 100) : Sz 100 0 (.int i) := by
  have q := smInt h0 h
  exact ⟨q.sh, q.wt, by rw [PyData.depth]; exact Nat.le_refl _⟩
theorem Sz.int {i : Int} (h : i.natAbs < 10 ^ 100) : Sz 101 0 (.int i) := by
  refine ⟨?_, ?_, by rw [PyData.depth]; exact Nat.le_refl _⟩
  · show decide (i.natAbs.log2 < 1920) = true
    refine decide_eq_true ?_
    by_cases h1 : i.natAbs = 0
    · rw [h1]
      decide
    · exact Nat.lt_of_lt_of_le ((Nat.log2_lt h1).mpr (show i.natAbs < 2 ^ 400 by omega)) (by decide)
  · rw [TP.wt]
    show (Str.ofString (toString i)).length ≤ 101
    rw [PyProof.Rows.ofString_length]
    exact int_text_length_le10 (k := 100) (by decide) h
theorem Sz.str {B : Nat} {z : Str} (h : As B z) : Sz (10 * B + 2) 0 (.str z) := by
  have q := Sm.str h
  exact ⟨q.sh, q.wt, by rw [PyData.depth]; exact Nat.le_refl _⟩
theorem Sz.all {B k : Nat} : ∀ {l : List PyData}, (∀ d ∈ l, Sz B k d) → PyData.showableAll l = true ∧ wtAll l ≤ l.length * (B + 2) ∧ PyData.depthAll l ≤ k
  | [], _ => ⟨rfl, Nat.zero_le _, by rw [PyData.depthAll]; exact Nat.zero_le _⟩
  | d :: l, h => by
    have h1 := h d (.head _)
    obtain ⟨h2, h3, h4⟩ := Sz.all (l := l) fun e he => h e (.tail _ he)
    have h5 := h1.wt
    have h6 := h1.dp
    refine ⟨by rw [PyData.showableAll, h1.sh, h2]; rfl, ?_, ?_⟩
    · rw [wtAll, List.length_cons, Nat.add_mul]
      omega
    · rw [PyData.depthAll]
      omega
theorem Sz.lst {B k n : Nat} {l : List PyData} (h : ∀ d ∈ l, Sz B k d) (hn : l.length ≤ n) : Sz (n * (B + 2) + 3) (k + 1) (.list l) := by
  obtain ⟨h1, h2, h3⟩ := Sz.all h
  have := Nat.mul_le_mul hn (Nat.le_refl (B + 2))
  exact ⟨h1, by rw [TP.wt]; omega, by rw [PyData.depth]; omega⟩
theorem Sz.tup {B k n : Nat} {l : List PyData} (h : ∀ d ∈ l, Sz B k d) (hn : l.length ≤ n) : Sz (n * (B + 2) + 3) (k + 1) (.tuple l) := by
  obtain ⟨h1, h2, h3⟩ := Sz.all h
  have := Nat.mul_le_mul hn (Nat.le_refl (B + 2))
  exact ⟨h1, by rw [TP.wt]; omega, by rw [PyData.depth]; omega⟩
theorem Sz.kv {B k : Nat} : ∀ {l : List (PyData × PyData)}, (∀ d ∈ l, Sz B k d.1 ∧ Sz B k d.2) → PyData.showableKv l = true ∧ wtKv l ≤ l.length * (2 * B + 4) ∧ PyData.depthKv l ≤ k
  | [], _ => ⟨rfl, Nat.zero_le _, by rw [PyData.depthKv]; exact Nat.zero_le _⟩
  | (x, d) :: l, h => by
    obtain ⟨h0, h1⟩ := h (x, d) (.head _)
    obtain ⟨h2, h3, h4⟩ := Sz.kv (l := l) fun e he => h e (.tail _ he)
    have h5 := h1.wt
    have h6 := h1.dp
    have h7 := h0.wt
    have h8 := h0.dp
    dsimp only at h5 h6 h7 h8
    refine ⟨by rw [PyData.showableKv, h0.sh, h1.sh, h2]; rfl, ?_, ?_⟩
    · rw [wtKv, List.length_cons, Nat.add_mul]
      omega
    · rw [PyData.depthKv]
      omega
theorem Sz.dct {B k n : Nat} {l : List (PyData × PyData)} (h : ∀ d ∈ l, Sz B k d.1 ∧ Sz B k d.2) (hn : l.length ≤ n) : Sz (n * (2 * B + 4) + 3) (k + 1) (.dict l) := by
  obtain ⟨h1, h2, h3⟩ := Sz.kv h
  have := Nat.mul_le_mul hn (Nat.le_refl (2 * B + 4))
  exact ⟨h1, by rw [TP.wt]; omega, by rw [PyData.depth]; omega⟩
theorem forall1 {α : Type} {P : α → Prop} {a : α} (h : P a) : ∀ x ∈ [a], P x := fun x hx => by
  obtain rfl : x = a := by simpa using hx
  exact h
theorem forall2 {α : Type} {P : α → Prop} {a b : α} (h : P a) (g : P b) : ∀ x ∈ [a, b], P x := fun x hx => by
  rcases List.mem_cons.mp hx with rfl | hx
  · exact h
  · exact forall1 g x hx
theorem dpBls {K : PySem.W.Frag} {H : Hp} : ∀ l : List Bool, DpAll K H (l.map V.bl) (l.map PyData.bool)
  | [] => .nil
  | _ :: l => .cons (.bl _) (dpBls l)
theorem canBls : ∀ l : List Bool, PyData.canLayAll0 (l.map PyData.bool) = true ∧ PyData.depthAll (l.map PyData.bool) = 0 ∧ PyData.eqvAll (l.map PyData.bool) (l.map PyData.bool) = true
  | [] => ⟨rfl, rfl, rfl⟩
  | b :: l => by
    obtain ⟨h1, h2, h3⟩ := canBls l
    refine ⟨?_, ?_, ?_⟩
    · show (true && PyData.canLayAll0 (l.map PyData.bool)) = true
      rw [h1]
      rfl
    · show max 0 (PyData.depthAll _) = 0
      rw [h2]
      rfl
    · show ((b == b) && PyData.eqvAll (l.map PyData.bool) (l.map PyData.bool)) = true
      rw [h3]
      simp
theorem shapedBls (l : List Bool) : SeqAt.shaped (.list (l.map PyData.bool)) = true := by
  unfold SeqAt.shaped
  rw [show PyData.canLay0 (.list (l.map PyData.bool)) = true from (canBls l).1, show (PyData.list (l.map PyData.bool)).depth = PyData.depthAll (l.map PyData.bool) + 1 from rfl, (canBls l).2.1]
  decide
/-- a list of truths is as itself -/
theorem eqBls {K : PySem.W.Frag} {H : Hp} {p q : Addr} {l : List Bool} {xs ys : List V} {Q : VK} (h1 : H p = some (.lst xs)) (h2 : H q = some (.lst ys)) (e1 : xs = l.map V.bl) (e2 : ys = l.map V.bl) (k : Q (.bl true) H) : rEqD K (.ref p) (.ref q) H Q := by
  subst e1 e2
  refine ⟨_, _, .lst (SqL.of h1) (dpBls l), .lst (SqL.of h2) (dpBls l), shapedBls l, shapedBls l, ?_⟩
  rw [show PyData.eqv (.list (l.map PyData.bool)) (.list (l.map PyData.bool)) = true from (canBls l).2.2]
  exact k
/-! ### raise of an own error -/
theorem GtF.pmk {X : Cx} {e : Expr} {es : List Expr} {ta : TA} {x : Str} {p pos : Pos} {CX : CXT} {C : Addr} {k : Nat} {d : He.DefD} {ps : List Str} {sp : Sp} (T : OexC X.K C) (iC : PySem.W.findIn X.K (.ref C) "__init__" = some (some (.ref (He.fAd X.K d.at_))) ∧ PySem.W.typeIn X.K (.ref (He.fAd X.K d.at_)) = some (.type "function"))
    (G : GtF X.prog X.w X.K X.mg X.base CX k d ps sp) (hdf : d.dfl = []) (hbn : BindN d ps) (hm : X.mg x = some (.ref C)) (hr : Room (k + 1) X.A) (hx : Passes CX X (fun _ _ _ => False)) (ha : PA X (e :: es) ta) (hg : Gl X x := by rfl)
    (hdb : (x == ("__debug__" : Str)) = false := by decide) (he : starEach (e :: es) X.env = (false, eval e X.env) :: starEach es X.env := by rfl) (hpl : (backTo pos (starEach es X.env)).any (·.1) = false := by rfl) :
    PMk X (.Call (.Name x p) (e :: es) [] pos) (tMkO C sp [] ta) := by
  obtain ⟨fd, F1, hb⟩ := G.bn hdf hbn
  exact pmk_oex T iC.1 iC.2 F1 hr hb .nil hx hg hm ha hdb he hpl
end TP

namespace TP
open PySem PySem.Spec PyProof.Rows L2 PySem.SeqAt
/-! ### x == text, x any data -/
theorem dct_eq_txt (l : Addr) (es : Array DictEntry) (ep : Nat) (dd : Option Addr) (sl : Array (Option Value)) (b : Str) (u : Tok) :
    Meets (Builtin.«dict.__eq__» ⟨[.ref l, .str b u], []⟩) (fun _ R s => s.heap.get? l = some { cls := .type "dict", dict := dd, data := .dict es ep, slots := sl } ∧ R (.ok (.ret .notImplemented)) s) :=
  .of_wp fun prog w A R s h => by
    obtain ⟨hp, g, d, tk, os⟩ := s
    obtain ⟨hl, h⟩ := h
    have f1 := F.sub_str_dict
    wp_walk using wpAny_loadPart' hl
    exact ⟨_, rfl, h⟩
theorem txt_eq_dct (b : Str) (u : Tok) (l : Addr) (es : Array DictEntry) (ep : Nat) (dd : Option Addr) (sl : Array (Option Value)) :
    Meets (Builtin.«str.__eq__» ⟨[.str b u, .ref l], []⟩) (fun _ R s => s.heap.get? l = some { cls := .type "dict", dict := dd, data := .dict es ep, slots := sl } ∧ R (.ok (.ret .notImplemented)) s) :=
  .of_wp fun prog w A R s h => by
    obtain ⟨hp, g, d, tk, os⟩ := s
    obtain ⟨hl, h⟩ := h
    wp_walk using wpAny_loadPart' hl, wpAny_load hl
    exact ⟨_, rfl, h⟩
theorem rc_dct_txt {A : Around} {s : Shared} {l : Addr} {es : Array DictEntry} {ep : Nat} {dd : Option Addr} {sl : Array (Option Value)} (b : Str) (u : Tok) (ho : s.heap.get? l = some { cls := .type "dict", dict := dd, data := .dict es ep, slots := sl }) (hu : A.units < cLine) :
    RcAt A s (.ref l) (.str b u) false := fun prog w E Q h =>
  rc_eq_decline_or (k := false) ⟨_, ho, rfl⟩ (typeIs_str s b u) (by decide) F.sub_str_dict F.slot_dict_eq F.slot_str_eq_refl
    (fun _ q => call_meets F.slot_dict_eq ⟨_, ho, rfl⟩ F.entry_dict_eq (F.args_dict_eq_2 _ _) (dct_eq_txt l es ep dd sl b u) ⟨ho, q⟩)
    (fun _ q => call_meets F.slot_str_eq_refl (typeIs_str s b u) F.entry_str_eq (F.args_str_eq_2 _ _) (txt_eq_dct b u l es ep dd sl) ⟨ho, q⟩)
    (fun _ q => wpAny_of_eq (rfl : isSame (.ref l) (.str b u) = pure false) q) (.inr hu) h
def isTx (d : PyData) (z : Str) : Bool := match d with
  | .str y => decide (y = z)
  | _ => false
/-- x == z -/
def rEqS (K : PySem.W.Frag) : R2 := fun x y H Q => ∃ (d : PyData) (z : Str), y = .str z ∧ Dr K H x d ∧ Q (.bl (isTx d z)) H
theorem op_eqS {X : Cx} (hS : SysK X.K) (hu : X.A.units + 64 < cLine) : OpR X (compareOp .Eq) (rEqS X.K) := by
  intro pins s σ H x y v u Q I rx ry h
  obtain ⟨d, z, rfl, hd, q⟩ := h
  obtain ⟨as, r1, _⟩ := Dr.reads hS I d x v hd rx
  obtain ⟨t, rfl⟩ : ∃ t, u = Value.str z t := ry
  have hu0 : X.A.units < cLine := by omega
  have fin : ∀ b : Bool, b = isTx d z → EP X pins σ Q (.bool b) s := fun b e => ⟨.bl b, H, I, rfl, by rw [e]; exact q⟩
  cases r1 with
  | none => exact RcAt.none_str z t X.prog X.w X.xe _ (fin false rfl)
  | bool b => exact RcAt.bool_str b z t X.prog X.w X.xe _ (fin false rfl)
  | int i t' => exact RcAt.int_str i t' z t X.prog X.w X.xe _ (fin false rfl)
  | str x' t' =>
    refine RcAt.str_str x' t' z t X.prog X.w X.xe _ (fin _ ?_)
    show (x' == z) = decide (x' = z)
    by_cases e : x' = z
    · simp [e]
    · simp [e]
  | list k1 k2 k3 k4 => exact RcAt.list_str z t ⟨_, k1, k2, _, k3⟩ hu0 X.prog X.w X.xe _ (fin false rfl)
  | tuple k1 k2 k3 k4 => exact RcAt.tuple_str z t ⟨_, k1, k2, _, k3⟩ hu0 X.prog X.w X.xe _ (fin false rfl)
  | @dict a o es n kvs as bs k1 k2 k3 k4 k5 =>
    obtain ⟨oc, od, dt, sl⟩ := o
    dsimp only at k2 k3
    subst k2 k3
    exact rc_dct_txt z t k1 hu0 X.prog X.w X.xe _ (fin false rfl)
theorem ExcC.xf {K : PySem.W.Frag} {C : Addr} (h : ExcC K C) : XfC K C := ⟨h.hg, h.hk, h.hs, h.hd⟩
/-! ### isinstance of a caught error with fields -/
section
variable {X : Cx} {a C : Addr} {oe : Obj} {cls : Value} {d : Option Addr} {pn : List (Addr × Obj)}
theorem caught_at {pins : List (Addr × Obj)} {σ : L2.St} {H : Hp} {s : Shared} {dd : Addr} {fs : List (Str × V)} (hz : Zc (.ref C) (some dd) oe) (hf : ∃ vs, oe.data = .fields vs) (I : Inv (X.suite a ((a, oe) :: pn)) pins σ H s) (e : H dd = some (.xd fs)) :
    ∃ od, PySem.W.InstAt s.heap a oe C (some od) := by
  obtain ⟨ha, _⟩ := I.pin (a, oe) (List.mem_append_left _ List.mem_cons_self)
  obtain ⟨vs, hv⟩ := hf
  have hx : ObjOk X.prog X.w H s.heap dd (.xd fs) := I.hok dd _ e
  obtain ⟨mA, hns, hr⟩ := hx
  obtain ⟨od, ho, hl⟩ := lookIn_ns hns
  exact ⟨od, ha, hz.1, by unfold PySem.W.notCls; rw [hv] <;> rfl, by rw [hz.2]; exact ho⟩
theorem excC_cls {K : PySem.W.Frag} (T : ExcC K C) : (PySem.W.clsIn K C).isSome = true := by
  obtain ⟨cd, hc, _⟩ := PySem.W.any_some T.hd
  rw [hc]
  rfl
/-- isinstance(e, c), e caught -/
def rIsC (K : PySem.W.Frag) (a : Addr) (cls : Value) (d : Option Addr) : List V → Hp → VK → Prop := fun xs H Q => ∃ (C dd : Addr) (fs : List (Str × V)) (c : V) (cv : Value) (b : Bool), xs = [.ref a, c] ∧ cls = .ref C ∧ d = some dd ∧ H dd = some (.xd fs) ∧ ClsV c cv ∧ ExcC K C ∧
  PySem.W.kitOne K (.ref C) cv = some b ∧ Q (.bl b) H
theorem call_isC (hz : Zc cls d oe) (hf : ∃ vs, oe.data = .fields vs) : CallR (X.suite a ((a, oe) :: pn)) (.builtin "isinstance") (rIsC X.K a cls d) := by
  intro pins s σ H xs us Q I r h
  obtain ⟨C, dd, fs, c, cv, b, rfl, rfl, rfl, e0, hcv, T, e, q⟩ := h
  obtain ⟨u1, u2, rfl, r1, r2⟩ := vals2 r
  obtain rfl : u1 = Value.ref a := r1
  have ec := hcv.eq r2
  subst ec
  obtain ⟨od, J⟩ := caught_at hz hf I e0
  exact PySem.W.kia_one (PySem.W.kitx_exc (excC_cls T) T.hg T.hk T.hs T.ha T.hn T.ht T.hm) I.kIn J e (fun z => nomatch z) fun tk => ⟨.bl b, H, I.kept (t' := tk) fun _ _ z => z, rfl, q⟩
/-- isinstance(e, (c1, c2, ..)), e caught -/
def rIsCT (K : PySem.W.Frag) (a : Addr) (cls : Value) (d : Option Addr) : List V → Hp → VK → Prop := fun xs H Q => ∃ (C dd tp : Addr) (fs : List (Str × V)) (cs : List V) (us : List Value) (b : Bool), xs = [.ref a, .ref tp] ∧ cls = .ref C ∧ d = some dd ∧ H dd = some (.xd fs) ∧ H tp = some (.tup cs) ∧ Paired ClsV cs us ∧ ExcC K C ∧
  PySem.W.kitAny K (.ref C) us = some b ∧ Q (.bl b) H
theorem call_isCT (hz : Zc cls d oe) (hf : ∃ vs, oe.data = .fields vs) : CallR (X.suite a ((a, oe) :: pn)) (.builtin "isinstance") (rIsCT X.K a cls d) := by
  intro pins s σ H xs us Q I r h
  obtain ⟨C, dd, tp, fs, cs, ws, b, rfl, rfl, rfl, e0, hT, k, T, e, q⟩ := h
  obtain ⟨u1, u2, rfl, r1, r2⟩ := vals2 r
  obtain rfl : u1 = Value.ref a := r1
  cases (show u2 = Value.ref tp from r2)
  obtain ⟨od, J⟩ := caught_at hz hf I e0
  obtain ⟨_, its, rv, o, h1, h2, n, h3⟩ := (show ObjOk X.prog X.w H s.heap tp (.tup cs) from I.hok tp _ hT)
  have e3 := ClsV.all k rv
  subst e3
  obtain ⟨oc, ow, dt, sl⟩ := o
  simp only at h2 h3
  subst h2 h3
  exact PySem.W.kia_tup (PySem.W.kitx_exc (excC_cls T) T.hg T.hk T.hs T.ha T.hn T.ht T.hm) I.kIn J h1 e (fun z => nomatch z) fun tk => ⟨.bl b, H, I.kept (t' := tk) fun _ _ z => z, rfl, q⟩
end
section
variable {X : Cx} {CX : CXT} {k : Nat} {ps : List Str} {sp : Sp} {E : L2.St → XK} {x : Str} {p pos : Pos} {e : Expr} {es : List Expr} {t : TA}
/-- a call within a try -/
theorem Gt.peS (G : Gt X.prog X.w X.K X.mg X.base CX k x ps sp) (hr : Room k X.A) (hx : ∀ σ, PassesAt CX X σ (E σ)) (ha : PA X (e :: es) t) (hg : Gl X x := by rfl) (hdb : (x == ("__debug__" : Str)) = false := by decide)
    (he : starEach (e :: es) X.env = (false, eval e X.env) :: starEach es X.env := by rfl) (hpl : (backTo pos (starEach es X.env)).any (·.1) = false := by rfl) : PE X (.Call (.Name x p) (e :: es) [] pos) (tCallS sp E t) := by
  obtain ⟨f, fd, hm, hk, hb, F⟩ := G.ex
  exact pe_callS F hr hg hm hk hb hx ha hdb he hpl
end
end TP

namespace TP
open PySem PySem.Spec PyProof.Rows L2
/-! ### try with a first clause that names the error, and further ones: all that is raised is of the first -/
def wAs1 (K : PySem.W.Frag) (c : Value) (i : Nat) (ts : Addr → Value → Option Addr → TS) (D : Ends) : WX := fun cls d σ H =>
  PySem.W.exmOne K cls c = some true ∧ ∀ a, H a = none → ts a cls d ⟨fun σ' H' => D.nx (σ'.set i none) H', D.rt, fun σ' H' => D.bk (σ'.set i none) H', fun σ' H' => D.ct (σ'.set i none) H'⟩ (σ.set i (some (.ref a))) H
section
variable {X : Cx} {x n : Str} {c : Value} {i : Nat} {body suite : List Stmt} {b0 : Stmt} {hds : List ExceptHandler} {np pos pos' : Pos} {tb : WX → TS} {ts : Addr → Value → Option Addr → TS}
theorem sky_free {B h : Heap} {a : Addr} {o : Obj} {vs : Array Value} {es : List Env} (ff : h.FunFrames B es) (e : h.get? a = some o) (dd : o.data = .fields vs) : a ∉ frs es := fun hm => by
  obtain ⟨_, o2, e2, no⟩ := ff.mem hm
  rw [e] at e2
  cases e2
  exact no _ dd
theorem ps_try_as1 (hs : X.stack = X.env :: X.outer) (hf : X.env.frame = some X.env.locals) (hN : X.N.Nodup) (hi : X.N[i]? = some n) (hln : X.env.kindOf n = some .local) (hc : Names X x c)
    (hb : ∀ (W : WX) (pn : List (Addr × Obj)) (xe : Value → Shared → Prop), Takes (X.tr pn xe) W → PassesOwn (model X.prog X.w) X.A X.env xe → PSs (X.tr pn xe) body (tb W))
    (hsu : ∀ (a : Addr) (oe : Obj) (cls : Value) (d : Option Addr) (pn : List (Addr × Obj)), Zc cls d oe → (∃ vs, oe.data = .fields vs) → PSs (X.suite a ((a, oe) :: pn)) (b0 :: suite) (ts a cls d)) :
    PS X (.Try body (.ExceptHandler (some (.Name x np)) (some n) (b0 :: suite) pos' :: hds) [] [] pos) (fun D σ H => tb (wAs1 X.K c i ts D) D σ H) := by
  constructor
  intro pins s σ H D I h
  have ok := I.ok
  have fr : X.A.frames = some (X.env :: X.outer) := ok.frames.trans (by rw [hs])
  refine wpAny_Try_except ?_
  refine wpAny_mono ((hb (wAs1 X.K c i ts D) (X.pn ++ pins) (fun e s1 => wpAny (model X.prog X.w) X.A (noteFrame e X.env) (fun _ s2 => wpAny (model X.prog X.w) X.A (setFlight e none) (fun _ s3 =>
    wpAny (model X.prog X.w) X.A (handleBy e X.env (.ExceptHandler (some (.Name x np)) (some n) (b0 :: suite) pos' :: hds)) (SP X pins D) X.xe s3) X.xe s2) X.xe s1) (fun u s' xx => ?_) PassesOwn.looking).run [] s σ H D (I.toTry _) h) (fun f s1 q => ?_) (fun _ _ z => z)
  · obtain ⟨a, B, sI, p', σ', H', cls, d, rfl, J0, nb, up, sky, na, os, ag, hm, go⟩ := xx
    have J := J0.ofTry ok
    rw [show (X.tr (X.pn ++ pins) _).stack = X.env :: X.outer from hs] at sky
    refine Sky.land Zc.steady fr hf sky fun g1 f1 u1 => ?_
    have J1 : Inv X pins σ' H' { s' with heap := g1 } := J.landed nb f1.1 (up.trans u1) os ag
    obtain ⟨o1, v1, e1, z1, d1⟩ := f1.there
    have nfr := sky_free f1.2.2.1 e1 d1
    have nL : a ≠ X.env.locals := fun z => nfr (List.mem_filterMap.mpr ⟨X.env, List.mem_cons_self, by rw [hf, z]⟩)
    have nF : a ∉ X.fs := fun q => by
      obtain ⟨e, q1, q2⟩ := List.mem_filterMap.mp q
      exact nfr (List.mem_filterMap.mpr ⟨e, List.mem_cons_of_mem _ q1, q2⟩)
    have S1 := J1.suite e1 d1 na nL nF
    refine wpAny_handleBy_cons (codeAny_handlers_test ?_) (fun q => nomatch q)
    have lt : PySem.W.Looks (model X.prog X.w) g1 (typeOf (.ref a)) cls := fun _ _ _ _ k q => wpAny_typeOf_ref (k _ _ e1) (by rw [z1.1]; exact q)
    have named : ∀ {Q : Value → Shared → Prop} {E : Value → Shared → Prop}, Q c { s' with heap := g1 } → wpAny (model X.prog X.w) (X.A.mark (some (.ref a))) (eval (.Name x np) X.env) Q E { s' with heap := g1 } := by
      intro Q E q
      obtain ⟨k1, k2, k3 | ⟨k3, k4, k5⟩⟩ := hc
      · exact ld_glob (X := X.suite a ((a, o1) :: (X.pn ++ pins))) S1 k1 k3 q k2
      · exact ld_blt (X := X.suite a ((a, o1) :: (X.pn ++ pins))) S1 k1 k3 k4 q k5 k2
    refine named ((PySem.W.exm_one (M := model X.prog X.w) J1.kIn lt hm).here ?_)
    refine codeAny_handlers_suite_as (HandSPX.lands_againZ f1 fun g2 f2 u2 => ?_)
    have J2 : Inv X pins σ' H' { s' with heap := g2 } := J.landed nb f2.1 ((up.trans u1).trans u2) os ag
    obtain ⟨o2, v2, e2, z2, d2⟩ := f2.there
    refine store_ok (X := X.suite a ((a, o2) :: (X.pn ++ pins))) (v := .ref a) (J2.suite e2 d2 na nL nF) hN hi (.inl hln) rfl (fun s5 S5 => ?_) (.inr hln)
    refine wpAny_mono ((hsu a o2 cls d (X.pn ++ pins) z2 ⟨_, d2⟩).run [] s5 _ H' _ S5 (go a na)) (fun f s6 q => ?_) (fun _ _ z => z.elim)
    cases f with
    | next =>
      obtain ⟨σ6, H6, S6, q6⟩ := q
      exact gone_ok (S6.unsuite ok) hN hi hln fun s7 J7 => ⟨_, _, J7, q6⟩
    | brk =>
      obtain ⟨σ6, H6, S6, q6⟩ := q
      exact gone_ok (S6.unsuite ok) hN hi hln fun s7 J7 => ⟨_, _, J7, q6⟩
    | cont =>
      obtain ⟨σ6, H6, S6, q6⟩ := q
      exact gone_ok (S6.unsuite ok) hN hi hln fun s7 J7 => ⟨_, _, J7, q6⟩
    | ret u =>
      obtain ⟨v6, σ6, H6, S6, r6, q6⟩ := q
      exact gone_ok (S6.unsuite ok) hN hi hln fun s7 J7 => ⟨_, _, _, J7, r6, q6⟩
  · cases f with
    | next =>
      obtain ⟨σ1, H1, J1, q⟩ := q
      exact wpAny_execs_nil ⟨σ1, H1, J1.ofTry ok, q⟩
    | brk =>
      obtain ⟨σ1, H1, J1, q⟩ := q
      exact ⟨σ1, H1, J1.ofTry ok, q⟩
    | cont =>
      obtain ⟨σ1, H1, J1, q⟩ := q
      exact ⟨σ1, H1, J1.ofTry ok, q⟩
    | ret u =>
      obtain ⟨v, σ1, H1, J1, r, q⟩ := q
      exact ⟨v, σ1, H1, J1.ofTry ok, r, q⟩
end
/-! ### a def that may raise, where it does not -/
theorem cr_no {P : Program} {w : World} {outer : List Env} {H : Hp} {s : Shared} {Q : VK} {r : Result} {s' : Shared} (h : CR (L2.CX P w) outer P w H s Q (fun _ _ _ => False) r s') (E : XK) : CR CX0 outer P w H s Q E r s' := by
  cases r with
  | error e =>
    obtain ⟨_, _, _, _, _, _, _, _, _, _, _, _, z⟩ := h
    exact z.elim
  | ok f => cases f <;> exact h
theorem fn_no {P : Program} {w : World} {K : PySem.W.Frag} {mg : Str → Option Value} {base : Heap} {k : Nat} {f : Addr} {fd : FuncData} {ps : List Str} {sp : Sp} (F : FnOk P w K mg base (L2.CX P w) k f fd ps sp) : FnOk P w K mg base CX0 k f fd ps (fun vs H Q _ => sp vs H Q fun _ _ _ => False) :=
  ⟨fun vs H Q E h => F.len vs H Q _ h, fun A outer s H args us vs Q E hr h0 hb r h => codeAny_mono (F.run A outer s H args us vs Q _ hr h0 hb r h) fun r s' q => cr_no q E⟩
theorem GtF.no {P : Program} {w : World} {K : PySem.W.Frag} {mg : Str → Option Value} {base : Heap} {k : Nat} {d : He.DefD} {ps : List Str} {sp : Sp} (G : GtF P w K mg base (L2.CX P w) k d ps sp) : GtF P w K mg base CX0 k d ps (fun vs H Q _ => sp vs H Q fun _ _ _ => False) := by
  obtain ⟨fd, h1, h2⟩ := G.ex
  exact ⟨fd, h1, fn_no h2⟩
theorem Gt.no {P : Program} {w : World} {K : PySem.W.Frag} {mg : Str → Option Value} {base : Heap} {k : Nat} {x : Str} {ps : List Str} {sp : Sp} (G : Gt P w K mg base (L2.CX P w) k x ps sp) : Gt P w K mg base CX0 k x ps (fun vs H Q _ => sp vs H Q fun _ _ _ => False) := by
  obtain ⟨f, fd, h1, h2, h3, h4⟩ := G.ex
  exact ⟨f, fd, h1, h2, h3, fn_no h4⟩
/-! ### rules of any things -/
def badOf : List (Str × Int) → List PyData → Option Str
  | (z, l) :: ks, d :: ds => if isFromD d l = true then badOf ks ds else some z
  | _, _ => none
abbrev LSl : List (Str × Int) := [("since", 0), ("base", 0), ("step", 1), ("more", 0), ("leg", 0), ("kept", 0), ("back", 0)]
theorem bad_step {ks : List (Str × Int)} {ds : List PyData} {i : Nat} {z : Str} {l : Int} {d : PyData} (h1 : ks[i]? = some (z, l)) (h2 : ds[i]? = some d) :
    badOf (ks.drop i) (ds.drop i) = if isFromD d l = true then badOf (ks.drop (i + 1)) (ds.drop (i + 1)) else some z := by
  obtain ⟨i1, e1⟩ := List.getElem?_eq_some_iff.mp h1
  obtain ⟨i2, e2⟩ := List.getElem?_eq_some_iff.mp h2
  rw [List.drop_eq_getElem_cons i1, List.drop_eq_getElem_cons i2, e1, e2]
  rfl
theorem rule_key {i : Nat} {x : V} (hi : i < 7) (h1 : (LKs[i]?).map V.str = some x) : ∃ (z : Str) (l : Int), x = .str z ∧ LSl[i]? = some (z, l) ∧ (z, He.Dv.int l) ∈ LKv := by
  have h : ∀ i : Nat, i < 7 → ∃ q, LKs[i]? = some q ∧ ∃ l : Int, LSl[i]? = some (q, l) ∧ (q, He.Dv.int l) ∈ LKv := by
    intro i hi
    match i, hi with
    | 0, _ => exact ⟨_, rfl, _, rfl, by simp [LKv]⟩
    | 1, _ => exact ⟨_, rfl, _, rfl, by simp [LKv]⟩
    | 2, _ => exact ⟨_, rfl, _, rfl, by simp [LKv]⟩
    | 3, _ => exact ⟨_, rfl, _, rfl, by simp [LKv]⟩
    | 4, _ => exact ⟨_, rfl, _, rfl, by simp [LKv]⟩
    | 5, _ => exact ⟨_, rfl, _, rfl, by simp [LKv]⟩
    | 6, _ => exact ⟨_, rfl, _, rfl, by simp [LKv]⟩
  obtain ⟨q, e1, l, e2, e3⟩ := h i hi
  rw [e1] at h1
  exact ⟨q, l, (Option.some.inj h1).symm, e2, e3⟩
abbrev V7 := V × V × V × V × V × V × V
def rfs (u0 u1 u2 u3 u4 u5 u6 : V) : List (Str × V) := [("since", u0), ("base", u1), ("step", u2), ("more", u3), ("leg", u4), ("kept", u5), ("back", u6)]
/-- a rule is made of anything -/
def spRuleX (K : PySem.W.Frag) : Sp := fun vs H Q E => ∃ (x dx : Addr) (u0 u1 u2 u3 u4 u5 u6 : V) (ds : List PyData), vs = [.ref x, u0, u1, u2, u3, u4, u5, u6] ∧ DrAll K H [u0, u1, u2, u3, u4, u5, u6] ds ∧ H x = some (.ins (He.ga K "Rule") dx []) ∧
  (badOf LSl ds = none → ∀ H', Wk x H H' → H' x = some (.ins (He.ga K "Rule") dx (rfs u0 u1 u2 u3 u4 u5 u6)) → Q .non H') ∧
  (∀ z, badOf LSl ds = some z → ∀ d H', Evl.Ex H H' → H d = none → H' d = some (.xd [("at", .str z)]) → E (.ref (eC K "NoRule")) (some d) H')
/-- the heap behind a raise -/
theorem raised {H : Hp} {a C dx : Addr} {fs : List (Str × V)} (hn : H a = none) (hd : upd H a (exo a C none) dx = none) (ne : dx ≠ a) :
    Evl.Ex H (upd (del (upd (upd (upd H a (exo a C none)) dx (exd dx fs)) a (exo a C (some dx))) a) dx (.xd fs)) ∧ H dx = none := by
  rw [upd_ne ne] at hd
  refine ⟨fun b o hb => ?_, hd⟩
  have n1 := ne_of_none hb hn
  have n2 := ne_of_none hb hd
  rw [upd_ne n2, del_ne n1, upd_ne n1, upd_ne n2, upd_ne n1]
  exact hb
end TP

namespace TP
open PySem PySem.Spec PyProof.Rows L2
/-! ### comprehensions by any invariant over all but the new list -/
theorem hid_upd {D : Addr} {H : Hp} {o : HO} : hid D (upd H D o) = hid D H := by
  funext b
  by_cases h : b = D
  · rw [h, hid_same, hid_same]
  · rw [hid_ne h, hid_ne h, upd_ne h]
theorem hid_free {D : Addr} {H : Hp} (h : H D = none) : hid D H = H := by
  funext b
  by_cases e : b = D
  · rw [e, hid_same, h]
  · rw [hid_ne e]
theorem Ex.hid {D : Addr} {H H' : Hp} (e : Evl.Ex H H') : Evl.Ex (hid D H) (hid D H') := (Ex.wk D e).hx
theorem lc_acc {J : It} {n : Nat} {G : Hp → Prop} {Y : Nat → Hp → V → Hp → Prop} (w : Walk J n G Y) {g : TG} {tt : TT} {te : TE} {vs : List Nat} {σ : L2.St} {H1 : Hp} {D : Addr} {Qd : Hp → Prop} (I : Nat → List V → Hp → Prop)
    (hD : H1 D = none) (hn : n < 1000000) (hl : ∀ i acc H, I i acc H → acc.length ≤ i) (h0 : I 0 [] H1) (hG : ∀ i acc H, H D = some (.lst acc) → I i acc (hid D H) → G H)
    (hs : ∀ (i : Nat) (x : V) (H H' : Hp) (acc : List V) (C : V → Hp → Prop) (N : Hp → Prop), i < n → H D = some (.lst acc) → I i acc (hid D H) → Y i H x H' → (∀ y H4, H4 D = some (.lst acc) → I (i + 1) (acc ++ [y]) (hid D H4) → C y H4) →
      (∀ H3, H3 D = some (.lst acc) → I (i + 1) acc (hid D H3) → N H3) → g x (wipe σ vs) H' fun σ2 H2 => wipe σ2 vs = wipe σ vs ∧ tt σ2 H2 fun b H3 => if b = true then te σ2 H3 C else N H3)
    (hd : ∀ H' acc, H' D = some (.lst acc) → I n acc (hid D H') → Qd H') :
    ∃ W : Nat → Nat → Hp → Prop, (∃ m, W 0 m (upd H1 D (.lst []))) ∧ ∀ i m H, W i m H →
      (J.stop i H ∧ Qd H) ∨ (J.go i H ∧ ∃ Nx : Hp → Prop, (∀ H', Nx H' → ∃ m', m' < m ∧ W (i + 1) m' H') ∧ ∀ x H', J.yld i H x H' → g x (wipe σ vs) H' fun σ2 H2 => wipe σ2 vs = wipe σ vs ∧ tt σ2 H2 fun b H3 =>
        if b = true then te σ2 H3 fun y H4 => ∃ acc, H4 D = some (.lst acc) ∧ acc.length < sizeLine ∧ Nx (upd H4 D (.lst (acc ++ [y]))) else Nx H3) := by
  refine lc_it w (fun i H => ∃ acc, H D = some (.lst acc) ∧ I i acc (hid D H)) ⟨[], upd_same, by rw [hid_upd, hid_free hD]; exact h0⟩ (fun i H _ ⟨acc, q1, q2⟩ => hG i acc H q1 q2) (fun i x H H' hi ⟨acc, q1, q2⟩ y => ?_) (fun H ⟨acc, q1, q2⟩ => hd H acc q1 q2)
  refine hs i x H H' acc _ _ hi q1 q2 y (fun v H4 e1 e2 => ⟨acc, e1, ?_, acc ++ [v], upd_same, by rw [hid_upd]; exact e2⟩) (fun H3 e1 e2 => ⟨acc, e1, e2⟩)
  have := hl i acc _ q2
  have : sizeLine = 16777216 := sizeLine_eq
  omega
/-! ### dicts of pairs -/
theorem putK_new {kvs : List (Key × V)} {k : Key} {v : V} (h : k ∉ kvs.map (·.1)) : putK kvs k v = kvs ++ [(k, v)] := by
  unfold putK
  rw [if_neg]
  intro e
  obtain ⟨q, hq, e⟩ := List.any_eq_true.mp e
  exact h (List.mem_map.mpr ⟨q, hq, of_decide_eq_true e⟩)
theorem mergeK_nodup : ∀ {more kvs : List (Key × V)}, ((kvs ++ more).map (·.1)).Nodup → mergeK kvs more = kvs ++ more
  | [], kvs, _ => by rw [List.append_nil]; rfl
  | (k, v) :: more, kvs, h => by
    show mergeK (putK kvs k v) more = _
    have hk : k ∉ kvs.map (·.1) := by
      rw [List.map_append, List.map_cons] at h
      intro z
      exact (List.nodup_append.mp h).2.2 k z k (List.mem_cons_self ..) rfl
    rw [putK_new hk, mergeK_nodup (by rw [List.append_assoc]; exact h), List.append_assoc]
    rfl
theorem paired_at {α β : Type} {R : α → β → Prop} : ∀ {xs : List α} {ys : List β}, xs.length = ys.length → (∀ (i : Nat) x y, xs[i]? = some x → ys[i]? = some y → R x y) → Paired R xs ys
  | [], [], _, _ => .nil
  | x :: xs, y :: ys, hl, h => .cons (h 0 x y rfl rfl) (paired_at (by simpa using hl) fun i a b e1 e2 => h (i + 1) a b e1 e2)
/-! ### what is new -/
def nw (H H' : Hp) : Hp := fun b => match H b with
  | none => H' b
  | some _ => none
theorem nw_of {H H' : Hp} {b : Addr} {o : HO} (h : H b = none) (h' : H' b = some o) : nw H H' b = some o := by
  unfold nw
  rw [h]
  exact h'
theorem nw_ne {H H' : Hp} {b c : Addr} {o u : HO} (h : nw H H' b = some o) (hc : H c = some u) : b ≠ c := fun z => by
  unfold nw at h
  rw [z, hc] at h
  cases h
theorem nw_ex {H H' : Hp} : Evl.Ex (nw H H') H' := fun b o h => by
  unfold nw at h
  cases e : H b with
  | none =>
    rw [e] at h
    exact h
  | some u =>
    rw [e] at h
    cases h
theorem nw_hid {H H' G : Hp} {a : Addr} {u : HO} (e : Evl.Ex (nw H H') G) (ha : H a = some u) : Evl.Ex (nw H H') (hid a G) := fun b o h => by
  rw [hid_ne (nw_ne h ha)]
  exact e b o h
theorem Wl.hid {H : Hp} {a D : Addr} {n : Nat} (h : Wl H a n) (ne : a ≠ D) : Wl (hid D H) a n := by
  obtain ⟨x, y, c, e, r⟩ := h
  exact ⟨x, y, c, by rw [hid_ne ne]; exact e, r⟩
theorem Wk.hid {a D : Addr} {H H' : Hp} (k : Wk a H H') : Wk a (hid D H) (hid D H') := fun b o nb h => by
  by_cases e : b = D
  · rw [e, hid_same] at h
    cases h
  · rw [hid_ne e] at h ⊢
    exact k b o nb h
theorem hid_hid_ex {a b : Addr} {H : Hp} : Evl.Ex (TP.hid a (TP.hid b H)) H := hid_ex.trans hid_ex
theorem nil_at {α : Type} {j : Nat} {x : α} {P : Prop} (h : ([] : List α)[j]? = some x) : P := absurd h (by simp)
/-- a row that has grown by one -/
theorem snoc_at {α : Type} {xs : List α} {x y : α} {j : Nat} (h : (xs ++ [x])[j]? = some y) : xs[j]? = some y ∨ (j = xs.length ∧ y = x) := by
  by_cases hj : j < xs.length
  · rw [List.getElem?_append_left hj] at h
    exact .inl h
  · rw [List.getElem?_append_right (by omega)] at h
    have hj0 : j - xs.length = 0 := by
      rcases Nat.eq_zero_or_pos (j - xs.length) with q | q
      · exact q
      · rw [List.getElem?_eq_none (by show 1 ≤ _; omega)] at h
        cases h
    rw [hj0] at h
    exact .inr ⟨by omega, (Option.some.inj h).symm⟩
end TP

namespace TP
open PySem PySem.Spec PyProof.Rows L2
/-! ### len(set(row of texts)) -/
def ddK (σ : List Str) (k : Str) : List Str := if σ.any (· == k) = true then σ else σ ++ [k]
def firsts (xs : List Str) : List Str := xs.foldl ddK []
theorem dd_any (σ : List Str) (v k : Str) : (ddK σ v).any (· == k) = (σ.any (· == k) || decide (k = v)) := by
  unfold ddK
  by_cases e : k = v
  · subst e
    by_cases h : σ.any (· == k) = true
    · rw [if_pos h, h]
      rfl
    · rw [if_neg h, List.any_append]
      simp
  · rw [decide_eq_false e, Bool.or_false]
    by_cases h : σ.any (· == v) = true
    · rw [if_pos h]
    · have q : (v == k) = false := by simpa using (fun z : v = k => e z.symm)
      rw [if_neg h, List.any_append]
      simp [q]
theorem dd_len (σ : List Str) (v : Str) : (ddK σ v).length = if σ.any (· == v) = true then σ.length else σ.length + 1 := by
  unfold ddK
  by_cases h : σ.any (· == v) = true
  · rw [if_pos h, if_pos h]
  · rw [if_neg h, if_neg h, List.length_append]
    rfl
theorem firsts_snoc {xs : List Str} {i : Nat} (h : i < xs.length) : firsts (xs.take (i + 1)) = ddK (firsts (xs.take i)) (xs.getD i Str.empty) := by
  unfold firsts
  rw [List.take_succ_eq_append_getElem h, List.foldl_append, List.getD_eq_getElem?_getD, List.getElem?_eq_getElem h]
  rfl
theorem firsts_le (xs : List Str) : ∀ i, i ≤ xs.length → (firsts (xs.take i)).length ≤ i
  | 0, _ => by rw [List.take_zero]; exact Nat.le_refl _
  | i + 1, h => by
    have := firsts_le xs i (by omega)
    rw [firsts_snoc (by omega), dd_len]
    split <;> omega
theorem firsts_nodup {xs : List Str} (h : xs.Nodup) : firsts xs = xs := by
  have key : ∀ (ys acc : List Str), (acc ++ ys).Nodup → ys.foldl ddK acc = acc ++ ys := by
    intro ys
    induction ys with
    | nil =>
      intro acc _
      rw [List.append_nil]
      rfl
    | cons y ys ih =>
      intro acc hn
      have q : ddK acc y = acc ++ [y] := by
        unfold ddK
        rw [if_neg]
        intro e
        obtain ⟨z, hz, e⟩ := List.any_eq_true.mp e
        have e : z = y := by simpa using e
        exact (List.nodup_append.mp hn).2.2 z hz y (List.mem_cons_self ..) e
      rw [List.foldl_cons, q, ih _ (by rw [List.append_assoc]; exact hn), List.append_assoc]
      rfl
  exact key xs [] h
/-- the row is gone through, each text is added -/
theorem addAll {prog : Program} {w : World} {A : Around} {R : Result → Shared → Prop} {J : Addr} {fp wr : List Addr} {G : Array GenState → Array GenState → Prop} {n : Nat} {P : Nat → Value → Prop} {St : Nat → Shared → Prop}
    (W : WalksS prog w A.in1 J fp wr G n P St) (S : Addr) (nS : S ∉ fp) (xs : List Str) (hn : xs.length = n) (few : n < 60) (tx : ∀ i v, P i v → ∃ t, v = .str (xs.getD i Str.empty) t) :
    ∀ (m i : Nat) (s : Shared), n - i = m → i ≤ n → St i s → s.heap.SetOf (strKind prog w) S (fun k => (firsts (xs.take i)).any (· == k)) (firsts (xs.take i)).length →
      (∀ s', Moved (S :: wr) G s s' → s'.heap.SetOf (strKind prog w) S (fun k => (firsts (xs.take n)).any (· == k)) (firsts (xs.take n)).length → R (.ok (.ret .none)) s') →
      codeAny (model prog w) A (.builtin "set.update.loop" ⟨[.ref S, .ref J], []⟩) R s := by
  have nw' : S ∉ wr := fun h => nS (W.sub _ h)
  have sub : ∀ b ∈ wr, b ∈ S :: wr := fun b h => List.mem_cons_of_mem _ h
  have keep : ∀ {s s' : Shared} {T : Str → Bool} {c : Nat}, Moved wr G s s' → s.heap.SetOf (strKind prog w) S T c → s'.heap.SetOf (strKind prog w) S T c := fun mv h => by
    obtain ⟨o, es, ep, tb, e, r⟩ := h
    exact ⟨o, es, ep, tb, mv.heap S _ nw' e, r⟩
  intro m
  induction m with
  | zero =>
    intro i s e1 e2 st hS hR
    obtain rfl : i = n := by omega
    refine codeAny_builtin PyProof.Rows.F.entry_set_update_loop ?_
    rw [Around.under_plainId PyProof.Rows.F.plain_set_update_loop _]
    exact wpAny_bind (W.done s _ _ st fun s' mv => wpAny_pure (hR s' (mv.mono sub) (keep mv hS)))
  | succ m ih =>
    intro i s e1 e2 st hS hR
    have lt : i < n := by omega
    refine codeAny_builtin PyProof.Rows.F.entry_set_update_loop ?_
    rw [Around.under_plainId PyProof.Rows.F.plain_set_update_loop _]
    refine wpAny_bind (W.item i s _ _ lt st fun v s' p st' mv => ?_)
    obtain ⟨t, rfl⟩ := tx i v p
    refine wpAny_bind (wpAny_holding ?_)
    unfold setAdd
    refine wpAny_holding (wpAny_bind ((strKind prog w).pyHash (k := xs.getD i Str.empty) (strKind_is _ _ _ _) ?_))
    have room : (firsts (xs.take i)).length + 1 < scanBound := by
      have := firsts_le xs i (by omega)
      unfold scanBound
      omega
    refine wpAny_setAddHashed_of (knd := strKind prog w) (s := { s' with toks := s'.toks + 1 }) (strKind_is _ _ _ _) rfl (keep (s' := s') mv hS) room fun h' but hS2 => ?_
    have hS3 : h'.SetOf (strKind prog w) S (fun k => (firsts (xs.take (i + 1))).any (· == k)) (firsts (xs.take (i + 1))).length :=
      SetOf_congr hS2 (fun k => by rw [firsts_snoc (by omega), dd_any]) (by rw [firsts_snoc (by omega), dd_len])
    refine wpAny_pure ⟨plainId_quiet PyProof.Rows.F.plain_set_update_loop _, ih (i + 1) _ (by omega) lt (W.frame _ s' _ _ st' (Nat.le_succ _) fun b hb o e => ?_) hS3 fun s2 mv2 q2 => ?_⟩
    · exact (but.2 b (fun z => nS (by rw [← z]; exact hb))).trans e
    · exact hR s2 (Moved.trans W.gtrans ((mv.mono sub).then_heap (Nat.le_succ _) fun b o hb e => (but.2 b (fun z => hb (by rw [z]; exact List.mem_cons_self))).trans e) mv2) q2
abbrev newSet (led : Bool) : Obj := { cls := .type "set", dict := none, data := .set #[] 0 (.fresh 0 0 led) }
/-- set(xs), xs a list of texts -/
theorem set_of_list {prog : Program} {w : World} {A : Around} {E : Value → Shared → Prop} {s : Shared} {l : Addr} {its : Array Value} {xs : List Str} {Q : Value → Shared → Prop} (hh : A.handled = none) (hl : s.heap.IsList l its) (hi : StrsAre its.toList xs) (few : xs.length < 60)
    (h : ∀ (h' : Heap) (tk : Nat), h'.SetOf (strKind prog w) s.heap.objs.size (fun k => (firsts xs).any (· == k)) (firsts xs).length → (∀ b o, b < s.heap.objs.size → s.heap.get? b = some o → h'.get? b = some o) → Q (.ref s.heap.objs.size) { s with heap := h', toks := tk }) :
    wpAny (model prog w) A (call (.type "set") [.ref l]) Q E s := by
  obtain ⟨c0, c1, mro⟩ := PySem.F.called_set.mro
  have made := PySem.F.called_set.made
  have sub0 := PySem.F.called_set.sub
  have not := PySem.F.called_set.notType
  have can := PySem.F.called_set.canCreate
  have tc := PySem.F.typeCall_set_1 (.ref l)
  refine wpAny_call (codeAny_of_tree (wpAny_pure ⟨Code.quiet_builtin _ (by decide +kernel), codeAny_builtin PySem.F.entry_type_call ?_⟩))
  rw [Around.under_plain (weight_type_call_type "set" [.ref l] []) rfl]
  repeat (any_goals (first | assumption | wp_step))
  refine codeAny_mono (code_set_new_1 (.ref l) (E := E) (Q₁ := fun ob s1 => ∃ led : Bool, ob = .ref s.heap.objs.size ∧ s1 = { s with heap := s.heap.push (newSet led) }) fun led => ⟨led, rfl, rfl⟩) fun r s1 hr => ?_
  cases r with
  | error e => exact hr
  | ok fl =>
    cases fl with
    | next => exact hr.elim
    | brk => exact hr.elim
    | cont => exact hr.elim
    | ret ob =>
      obtain ⟨led, rfl, rfl⟩ := hr
      have at0 : (s.heap.push (newSet led)).get? s.heap.objs.size = some (newSet led) := Heap.get?_push_size _ rfl
      have ty0 : Shared.TypeIs { s with heap := s.heap.push (newSet led) } (.ref s.heap.objs.size) "set" := ⟨_, at0, rfl⟩
      have li := PySem.F.called_set.init.lookup
      have bi := PySem.F.called_set.init.bind (.ref s.heap.objs.size)
      repeat (any_goals (first | assumption | wp_step))
      refine codeAny_mono (codeAny_call_builtin (R := wants (fun r s2 => r = .none ∧ ∃ h' tk, s2 = { s with heap := h', toks := tk } ∧ h'.SetOf (strKind prog w) s.heap.objs.size (fun k => (firsts xs).any (· == k)) (firsts xs).length ∧
          ∀ b o, b < s.heap.objs.size → s.heap.get? b = some o → h'.get? b = some o) E) PySem.F.called_set.init.plain PySem.F.entry_set_init (check_set_init_1 ty0 ?_)) fun r2 s2 hr2 => ?_
      · obtain ⟨⟨oc, od, odt, os⟩, ho, k1, nl, k2⟩ := hl
        dsimp only at k1 k2
        subst k1 k2
        have at1 : (s.heap.push (newSet led)).get? l = some { cls := .type "list", dict := od, data := .seq its nl, slots := os } := Heap.get?_push_of_some _ ho
        have b1 := PySem.F.sub_list_set
        have b2 := PySem.F.sub_list_frozenset
        have b3 : (Value.type "list" == Value.type "dict") = false := by decide
        have row : (s.heap.push (newSet led)).IsList l its := ⟨_, at1, rfl, nl, rfl⟩
        unfold Builtin.«set.__init__» noKeywords Builtin.Frozenset.updateFrom
        generalize hp : pyIter = PI
        wp_walk
        subst hp
        refine wpAny_pyIter_list row (wpAny_bind (wpAny_runValue ?_))
        have ls : l < s.heap.objs.size := Heap.lt_size ho
        have sz : xs.length = its.size := by rw [← StrsAre.len_eq hi, Array.length_toList]
        have e1 : (s.heap.push (newSet led)).objs.size = s.heap.objs.size + 1 := Heap.size_push ..
        refine addAll ((Walks.list (by simp [hh]) _ l (by rw [e1]; exact Nat.ne_of_lt (Nat.lt_succ_of_lt ls)) its).toS) s.heap.objs.size (by
            rw [e1]
            simp only [List.mem_cons, List.not_mem_nil, or_false, not_or]
            exact ⟨Nat.ne_of_lt (Nat.lt_succ_self _), Nat.ne_of_gt ls⟩) xs sz (by omega) (fun i v hv => SS.strs_at hi i v (by rw [Array.getElem?_toList]; exact hv)) (its.size - 0) 0 _ (by omega) (Nat.zero_le _)
          ⟨⟨_, Heap.get?_push_size _ rfl, rfl, rfl⟩, row.push _⟩ ?_ ?_
        · exact SetOf_congr ((setObjOf_fresh (knd := strKind prog w) led).setOf (Heap.get?_push_of_some _ at0) (by unfold scanBound; omega)) (fun _ => rfl) rfl
        · intro s' mv q
          obtain ⟨h', g', d', tk', os'⟩ := s'
          obtain rfl : g' = s.gens := mv.gens
          obtain rfl : d' = s.drawn := mv.drawn
          obtain rfl : os' = s.os := mv.os
          rw [← sz, List.take_length] at q
          refine wpAny_pure (wpAny_pure ⟨rfl, h', tk', rfl, q, fun b o hb e => ?_⟩)
          refine mv.heap b o ?_ (Heap.get?_push_of_some _ (Heap.get?_push_of_some _ e))
          rw [e1]
          simp only [List.mem_cons, List.not_mem_nil, or_false, not_or]
          exact ⟨Nat.ne_of_lt hb, Nat.ne_of_lt (Nat.lt_succ_of_lt hb)⟩
      · cases r2 with
        | error e => exact hr2
        | ok fl2 =>
          cases fl2 with
          | next => exact hr2.elim
          | brk => exact hr2.elim
          | cont => exact hr2.elim
          | ret r =>
            obtain ⟨rfl, h', tk, rfl, q1, q2⟩ := hr2
            repeat (any_goals (first | assumption | wp_step))
            exact h _ _ q1 q2
/-- set(xs), xs a tuple of texts -/
theorem set_of_tuple {prog : Program} {w : World} {A : Around} {E : Value → Shared → Prop} {s : Shared} {l : Addr} {its : Array Value} {xs : List Str} {Q : Value → Shared → Prop} (hh : A.handled = none) (hl : s.heap.IsTuple l its) (hi : StrsAre its.toList xs) (few : xs.length < 60)
    (h : ∀ (h' : Heap) (tk : Nat), h'.SetOf (strKind prog w) s.heap.objs.size (fun k => (firsts xs).any (· == k)) (firsts xs).length → (∀ b o, b < s.heap.objs.size → s.heap.get? b = some o → h'.get? b = some o) → Q (.ref s.heap.objs.size) { s with heap := h', toks := tk }) :
    wpAny (model prog w) A (call (.type "set") [.ref l]) Q E s := by
  obtain ⟨c0, c1, mro⟩ := PySem.F.called_set.mro
  have made := PySem.F.called_set.made
  have sub0 := PySem.F.called_set.sub
  have not := PySem.F.called_set.notType
  have can := PySem.F.called_set.canCreate
  have tc := PySem.F.typeCall_set_1 (.ref l)
  refine wpAny_call (codeAny_of_tree (wpAny_pure ⟨Code.quiet_builtin _ (by decide +kernel), codeAny_builtin PySem.F.entry_type_call ?_⟩))
  rw [Around.under_plain (weight_type_call_type "set" [.ref l] []) rfl]
  repeat (any_goals (first | assumption | wp_step))
  refine codeAny_mono (code_set_new_1 (.ref l) (E := E) (Q₁ := fun ob s1 => ∃ led : Bool, ob = .ref s.heap.objs.size ∧ s1 = { s with heap := s.heap.push (newSet led) }) fun led => ⟨led, rfl, rfl⟩) fun r s1 hr => ?_
  cases r with
  | error e => exact hr
  | ok fl =>
    cases fl with
    | next => exact hr.elim
    | brk => exact hr.elim
    | cont => exact hr.elim
    | ret ob =>
      obtain ⟨led, rfl, rfl⟩ := hr
      have at0 : (s.heap.push (newSet led)).get? s.heap.objs.size = some (newSet led) := Heap.get?_push_size _ rfl
      have ty0 : Shared.TypeIs { s with heap := s.heap.push (newSet led) } (.ref s.heap.objs.size) "set" := ⟨_, at0, rfl⟩
      have li := PySem.F.called_set.init.lookup
      have bi := PySem.F.called_set.init.bind (.ref s.heap.objs.size)
      repeat (any_goals (first | assumption | wp_step))
      refine codeAny_mono (codeAny_call_builtin (R := wants (fun r s2 => r = .none ∧ ∃ h' tk, s2 = { s with heap := h', toks := tk } ∧ h'.SetOf (strKind prog w) s.heap.objs.size (fun k => (firsts xs).any (· == k)) (firsts xs).length ∧
          ∀ b o, b < s.heap.objs.size → s.heap.get? b = some o → h'.get? b = some o) E) PySem.F.called_set.init.plain PySem.F.entry_set_init (check_set_init_1 ty0 ?_)) fun r2 s2 hr2 => ?_
      · obtain ⟨⟨oc, od, odt, os⟩, ho, k1, nl, k2⟩ := hl
        dsimp only at k1 k2
        subst k1 k2
        have at1 : (s.heap.push (newSet led)).get? l = some { cls := .type "tuple", dict := od, data := .seq its nl, slots := os } := Heap.get?_push_of_some _ ho
        have b1 := PySem.F.sub_tuple_set
        have b2 := PySem.F.sub_tuple_frozenset
        have b3 : (Value.type "tuple" == Value.type "dict") = false := by decide
        have row : (s.heap.push (newSet led)).IsTuple l its := ⟨_, at1, rfl, nl, rfl⟩
        unfold Builtin.«set.__init__» noKeywords Builtin.Frozenset.updateFrom
        generalize hp : pyIter = PI
        wp_walk
        subst hp
        refine wpAny_pyIter_tuple row (wpAny_bind (wpAny_runValue ?_))
        have ls : l < s.heap.objs.size := Heap.lt_size ho
        have sz : xs.length = its.size := by rw [← StrsAre.len_eq hi, Array.length_toList]
        have e1 : (s.heap.push (newSet led)).objs.size = s.heap.objs.size + 1 := Heap.size_push ..
        refine addAll ((Walks.tuple (by simp [hh]) _ l (by rw [e1]; exact Nat.ne_of_lt (Nat.lt_succ_of_lt ls)) its).toS) s.heap.objs.size (by
            rw [e1]
            simp only [List.mem_cons, List.not_mem_nil, or_false, not_or]
            exact ⟨Nat.ne_of_lt (Nat.lt_succ_self _), Nat.ne_of_gt ls⟩) xs sz (by omega) (fun i v hv => SS.strs_at hi i v (by rw [Array.getElem?_toList]; exact hv)) (its.size - 0) 0 _ (by omega) (Nat.zero_le _)
          ⟨⟨_, Heap.get?_push_size _ rfl, rfl, rfl⟩, row.push _⟩ ?_ ?_
        · exact SetOf_congr ((setObjOf_fresh (knd := strKind prog w) led).setOf (Heap.get?_push_of_some _ at0) (by unfold scanBound; omega)) (fun _ => rfl) rfl
        · intro s' mv q
          obtain ⟨h', g', d', tk', os'⟩ := s'
          obtain rfl : g' = s.gens := mv.gens
          obtain rfl : d' = s.drawn := mv.drawn
          obtain rfl : os' = s.os := mv.os
          rw [← sz, List.take_length] at q
          refine wpAny_pure (wpAny_pure ⟨rfl, h', tk', rfl, q, fun b o hb e => ?_⟩)
          refine mv.heap b o ?_ (Heap.get?_push_of_some _ (Heap.get?_push_of_some _ e))
          rw [e1]
          simp only [List.mem_cons, List.not_mem_nil, or_false, not_or]
          exact ⟨Nat.ne_of_lt hb, Nat.ne_of_lt (Nat.lt_succ_of_lt hb)⟩
      · cases r2 with
        | error e => exact hr2
        | ok fl2 =>
          cases fl2 with
          | next => exact hr2.elim
          | brk => exact hr2.elim
          | cont => exact hr2.elim
          | ret r =>
            obtain ⟨rfl, h', tk, rfl, q1, q2⟩ := hr2
            repeat (any_goals (first | assumption | wp_step))
            exact h _ _ q1 q2
def tLenSetN (K : PySem.W.Frag) (ta : TE) : TE := fun σ H Q => ta σ H fun x H1 => ∃ (l : Addr) (xs : List Str), x = .ref l ∧ (SqL K H1 l (xs.map V.str) ∨ SqT K H1 l (xs.map V.str)) ∧ xs.length < 60 ∧ Q (.int (firsts xs).length) H1
theorem pe_lenSetN {X : Cx} {a : Expr} {ta : TE} {p p2 q pos : Pos} (hc : X.calm = true) (hg : Gl X "len") (hm : X.mg "len" = none) (hg2 : Gl X "set") (hm2 : X.mg "set" = none) (ha : PE X a ta)
    (na : starEach [a] X.env = (false, eval a X.env) :: starEach [] X.env := by rfl) : PE X (.Call (.Name "len" p) [.Call (.Name "set" p2) [a] [] q] [] pos) (tLenSetN X.K ta) := by
  constructor
  intro pins s σ H Q I h
  refine Call_ (ld_blt I hg hm boot_len (PyProof.Rows.callWith_builtin1 (PyProof.Rows.args_cons ?_ rfl) rfl rfl))
  refine Call_ (ld_blt I hg2 hm2 boot_set (PyProof.Rows.callWith_type1 (PyProof.Rows.args_cons (thn (ha.run pins s σ H _ I h) fun v s1 z => PyProof.Rows.args_nil ?_) na) na rfl))
  obtain ⟨x, H1, I1, r1, l, xs, rfl, hq, few, k⟩ := z
  cases r1
  have fl : (firsts xs).length ≤ xs.length := by
    have := firsts_le xs xs.length (Nat.le_refl _)
    rwa [List.take_length] at this
  have fin : ∀ (h' : Heap) (tk : Nat), h'.SetOf (strKind X.prog X.w) s1.heap.objs.size (fun k => (firsts xs).any (· == k)) (firsts xs).length → (∀ b o, b < s1.heap.objs.size → s1.heap.get? b = some o → h'.get? b = some o) →
      wpAny (model X.prog X.w) X.A (spliced (backTo pos (starEach [] X.env))) (fun vs s2 => wpAny (model X.prog X.w) X.A (call (.builtin "len") (Value.ref s1.heap.objs.size :: vs)) (EP X pins σ Q) X.xe s2) X.xe { s1 with heap := h', toks := tk } := by
    intro h' tk hS hk
    refine PyProof.Rows.args_nil ?_
    obtain ⟨o, es, ep, t, ho, hex, hd, _, _, _, hf, hn⟩ := hS
    have I2 : Inv X pins σ H1 { s1 with heap := h', toks := tk } := I1.kept fun b o e => hk b o (Heap.lt_size e) e
    exact call_len_set ho hex hd hf (by rw [hn]; omega) ⟨.int (firsts xs).length, H1, I2.tok _, ⟨_, by rw [hn]⟩, k⟩
  rcases hq with hq | hq
  · obtain ⟨its, r, pl, hz⟩ := I1.list hq
    exact set_of_list (I1.ok.hd hc) pl.isList (by simpa using strsAre_of r) few fin
  · obtain ⟨its, r, pl, hz⟩ := I1.tuple hq
    exact set_of_tuple (I1.ok.hd hc) pl (by simpa using strsAre_of r) few fin
end TP

namespace TP
open PySem PySem.Spec PyProof.Rows L2
section
variable {X : Cx} {CX : CXT} {k n : Nat} {d : He.DefD} {C : Addr} {ps ks : List Str} {sp : Sp} {E : XK} {x m f : Str} {p pos apos : Pos} {o e : Expr} {es : List Expr} {kws : List Keyword} {t tk : TA} {ta : TE} {js is : List Nat}
/-- o.m(k = v, ..) within a comprehension: the written part by its name -/
theorem GtF.methKL (K : PySem.W.Frag) (G : GtF X.prog X.w X.K X.mg X.base CX k d ps sp) (B : Kb d ps 1 ks js is) (c : Cls X.K C) (hm : Meth X.K C m (He.fAd X.K d.at_)) (hr : Room k X.A) (hx : Passes CX X E) (he : PE X o ta) (hkw : PK X kws tk) {pl : Sem Bool} (hK : X.K = K := by rfl)
    (hall : (backToKw pos (keywordEach kws X.env)).all (·.1.isSome) = true := by rfl) (hks : (backToKw pos (keywordEach kws X.env)).filterMap (·.1) = ks := by rfl)
    (hpl : ((backTo pos (starEach [] X.env)).any (·.1) || (backToKw pos (keywordEach kws X.env)).any (·.1.isNone)) = false := by rfl)
    (ht : eval (.Call (.Attribute o m apos) [] kws pos) X.env = (do
      let ov ← eval o X.env
      standAt apos.atName
      let (f, first) ← holding [ov] (getMethod ov m pl)
      callWith pos f first (backTo pos (starEach [] X.env)) (backToKw pos (keywordEach kws X.env))) := by rfl) :
    PE X (.Call (.Attribute o m apos) [] kws pos) (tMethK C m ks.length sp (gK d js is K) E ta tk) := by
  subst hK
  exact GtF.methK (pl := pl) G B c hm hr hx he hkw hall hks hpl ht
theorem pe_fldL (K : PySem.W.Frag) (he : PE X e ta) (hb : attributeBase e f X.env (eval e X.env) = eval e X.env) (hK : X.K = K := by rfl) : PE X (.Attribute e f pos) (tFld K ta f) := by
  subst hK
  exact pe_fld he hb
end
theorem in_two {i m : Int} (h : i = 0 ∨ i = m) : inV (.int i) [.int 0, .int m] = true := by
  rcases h with rfl | rfl <;> simp [inV, eqV]
/-! ### fees by parts -/
theorem fee_leg (r : RN) (wt lg : Int) (c : Bool) : r.fee wt (lg + 1) c = r.fee wt lg c + r.l := by
  unfold RN.fee
  rw [Int.mul_add, Int.mul_one]
  omega
theorem fee_step {r : RN} (ok : r.ok) (wt lg : Int) (c : Bool) : r.fee (wt + r.st) lg c = r.fee wt lg c + r.m := by
  unfold RN.fee
  have h := ok.st
  rw [show wt + r.st - 1 = wt - 1 + 1 * r.st by omega, Int.add_mul_ediv_right _ _ (by omega), Int.mul_add, Int.mul_one]
  omega
theorem fee_first {r : RN} (ok : r.ok) (wt lg : Int) (c : Bool) : r.fee (wt - (wt - 1) % r.st) lg c = r.fee wt lg c := by
  unfold RN.fee
  have h := ok.st
  have e : (wt - (wt - 1) % r.st - 1) / r.st = (wt - 1) / r.st := by
    have h1 := Int.emod_add_mul_ediv (wt - 1) r.st
    rw [show wt - (wt - 1) % r.st - 1 = (wt - 1) / r.st * r.st by rw [Int.mul_comm]; omega]
    exact Int.mul_ediv_cancel _ (by omega)
  rw [e]
theorem fee_next {r : RN} (ok : r.ok) (wt lg : Int) (c : Bool) : r.fee (wt + 1) lg c - r.fee wt lg c = 0 ∨ r.fee (wt + 1) lg c - r.fee wt lg c = r.m := by
  unfold RN.fee
  have h := ok.st
  have e : (wt + 1 - 1) / r.st = (wt - 1) / r.st ∨ (wt + 1 - 1) / r.st = (wt - 1) / r.st + 1 := by
    have h1 : (wt - 1) / r.st ≤ (wt + 1 - 1) / r.st := Int.ediv_le_ediv (by omega) (by omega)
    have h2 : (wt + 1 - 1) / r.st ≤ (wt - 1 + 1 * r.st) / r.st := Int.ediv_le_ediv (by omega) (by omega)
    rw [Int.add_mul_ediv_right _ _ (by omega)] at h2
    omega
  rcases e with e | e
  · left
    rw [e]
    omega
  · right
    rw [e, Int.mul_add, Int.mul_one]
    omega
theorem fee_by {r : RN} (b wt lg : Int) (c : Bool) (s bk : Int) : RN.fee ⟨s, r.b * b, r.st, r.m * b, r.l * b, r.k * b, bk⟩ wt lg c = r.fee wt lg c * b := by
  unfold RN.fee
  simp only [Int.add_mul, Int.mul_right_comm]
  cases c <;> simp
theorem fee_parts (r : RN) (wt lg : Int) (c : Bool) : RN.fee ⟨0, r.b, r.st, 0, 0, 0, 0⟩ wt lg c + (RN.fee ⟨0, 0, r.st, r.m, 0, 0, 0⟩ wt lg c + (RN.fee ⟨0, 0, r.st, 0, r.l, 0, 0⟩ wt lg c + (RN.fee ⟨0, 0, r.st, 0, 0, r.k, 0⟩ wt lg c + 0))) = r.fee wt lg c := by
  unfold RN.fee
  cases c <;> simp <;> omega
theorem fee_kept (r : RN) (wt lg : Int) : r.fee wt lg true = r.fee wt lg false + r.k := by
  unfold RN.fee
  simp
end TP

namespace TP
open PySem PySem.Spec PyProof.Rows L2
/-! ### empty tuples as defaults -/
def kwAd (f : Str × Option Str) (x : Str) (K : PySem.W.Frag) : Addr := match K.lookup (He.fAd K f) with
  | some ⟨_, _, .func fd, _⟩ => (match fd.kwdefaults with
    | .ref D => (match PySem.W.nsIn K D x with
      | some (some (.ref a)) => a
      | _ => 0)
    | _ => 0)
  | _ => 0
def emB (K : PySem.W.Frag) (a : Addr) : Bool := match K.lookup a with
  | some ⟨.type t, _, .seq its _, _⟩ => decide (t = "tuple") && its.isEmpty
  | _ => false
theorem emB_ok {K : PySem.W.Frag} {a : Addr} (h : emB K a = true) (H : Hp) : SqT K H a [] := by
  unfold emB at h
  split at h
  · rename_i t dd its n sl ho
    obtain ⟨h1, h2⟩ := Bool.and_eq_true_iff.mp h
    obtain rfl : t = "tuple" := of_decide_eq_true h1
    have e : its = #[] := by simpa using h2
    subst e
    exact .inr ⟨_, #[], n, ho, rfl, rfl, Nat.zero_le _, .nil⟩
  · cases h
/-! ### isinstance with an own class -/
def insB (K : PySem.W.Frag) (x : Str) : Bool := He.eqO (PySem.W.findIn K (.ref (He.ga K x)) "__class__") (some (some (.builtin "object.__class__"))) && (He.eqO (PySem.W.specialIn K (.builtin "object.__class__") "__get__") (some (some (.builtin "getset_descriptor.__get__"))) &&
  (decide (PySem.W.takesIn K (.builtin "object.__class__") = some true) && (decide (PySem.W.mroIn K (He.ga K x) (.type "object") = some true) && (decide (PySem.W.kitOne K (.ref (He.ga K x)) (.ref (He.ga K x)) = some true) &&
    tyNs.all fun t => decide (PySem.W.kitOne K (.type t) (.ref (He.ga K x)) = some false)))))
structure InsC (K : PySem.W.Frag) (x : Str) : Prop where
  ha : PySem.W.findIn K (.ref (He.ga K x)) "__class__" = some (some (.builtin "object.__class__"))
  hn : PySem.W.specialIn K (.builtin "object.__class__") "__get__" = some (some (.builtin "getset_descriptor.__get__"))
  ht : PySem.W.takesIn K (.builtin "object.__class__") = some true
  hm : PySem.W.mroIn K (He.ga K x) (.type "object") = some true
  hk : PySem.W.kitOne K (.ref (He.ga K x)) (.ref (He.ga K x)) = some true
  no : ∀ t ∈ tyNs, PySem.W.kitOne K (.type t) (.ref (He.ga K x)) = some false
theorem insB_ok {K : PySem.W.Frag} {x : Str} (h : insB K x = true) : InsC K x := by
  obtain ⟨h1, h⟩ := He.ba h
  obtain ⟨h2, h⟩ := He.ba h
  obtain ⟨h3, h⟩ := He.ba h
  obtain ⟨h4, h⟩ := He.ba h
  obtain ⟨h5, h6⟩ := He.ba h
  exact ⟨He.eqO_ok h1, He.eqO_ok h2, of_decide_eq_true h3, of_decide_eq_true h4, of_decide_eq_true h5, fun t ht => of_decide_eq_true (List.all_eq_true.mp h6 t ht)⟩
theorem InsC.ty {K : PySem.W.Frag} {x : Str} {H : Hp} {a dx : Addr} {fs : List (Str × V)} (I : InsC K x) (c : Cls K (He.ga K x)) (h : H a = some (.ins (He.ga K x) dx fs)) : TyX K H (.ref a) (.ref (He.ga K x)) := .base (.ins h c I.ha I.hn I.ht I.hm)
/-! ### rows: lists or tuples -/
def Rw (K : PySem.W.Frag) (H : Hp) (a : Addr) (xs : List V) : Prop := SqL K H a xs ∨ SqT K H a xs
def RIt (K : PySem.W.Frag) (H : Hp) (a : Addr) (xs : List V) (J : It) : Prop := (SqL K H a xs ∧ J = Itl K a) ∨ (SqT K H a xs ∧ J = Itt K a)
def iRow (K : PySem.W.Frag) (tl : TE) : TI := fun σ H R => tl σ H fun x H1 => ∃ a xs, x = .ref a ∧ Rw K H1 a xs ∧ ∀ J, RIt K H1 a xs J → R J H1
theorem pi_row {X : Cx} {tg l : Expr} {tl : TE} (hl : PE X l tl) : PI X tg l (iRow X.K tl) := by
  constructor
  intro pins s σ H R I h
  refine thn (hl.run pins s σ H _ I h) fun v s1 z => ?_
  obtain ⟨x, H1, I1, r1, a, xs, rfl, hq, q⟩ := z
  cases r1
  have fresh : ∀ b ∈ [s1.heap.objs.size], b = s1.heap.objs.size := fun b hb => by simpa using hb
  have kp : ∀ o, Inv X pins σ H1 { s1 with heap := s1.heap.push o } := fun o => I1.kept (t' := s1.toks) fun b o e => Heap.get?_push_of_some _ e
  rcases hq with hq | hq
  · obtain ⟨its, rv, p, hz⟩ := I1.list hq
    refine wpAny_pyIter_list p.isList ⟨s1.heap.objs.size, [s1.heap.objs.size], _, _, H1, rfl, kp _, turn_list a _, ⟨_, Heap.get?_push_size _ rfl, rfl, rfl⟩, fun b hb => ?_, q _ (.inl ⟨hq, rfl⟩)⟩
    obtain rfl := fresh b hb
    exact I1.fpOk (Nat.le_refl _) (I1.hok.fresh (Nat.le_refl _))
  · obtain ⟨its, rv, p, hz⟩ := I1.tuple hq
    refine wpAny_pyIter_tuple (show s1.heap.IsTuple a its.toArray from p) ⟨s1.heap.objs.size, [s1.heap.objs.size], _, _, H1, rfl, kp _, turn_tuple a _, ⟨_, Heap.get?_push_size _ rfl, rfl, rfl⟩, fun b hb => ?_, q _ (.inr ⟨hq, rfl⟩)⟩
    obtain rfl := fresh b hb
    exact I1.fpOk (Nat.le_refl _) (I1.hok.fresh (Nat.le_refl _))
theorem rd_stay {H H' : Hp} {a : Addr} {u : HO} (e : ∀ o, H a = some o → H' a = some o) (h : Rd H a u) : Rd H' a u := by
  rcases h with h | ⟨o, h⟩
  · exact .inl (e _ h)
  · exact .inr ⟨o, e _ h⟩
theorem sql_stay {K : PySem.W.Frag} {H H' : Hp} {a : Addr} {xs : List V} (e : ∀ o, H a = some o → H' a = some o) (h : SqL K H a xs) : SqL K H' a xs := by
  rcases h with h | h
  · exact .inl (rd_stay e h)
  · exact .inr h
theorem sqt_stay {K : PySem.W.Frag} {H H' : Hp} {a : Addr} {xs : List V} (e : ∀ o, H a = some o → H' a = some o) (h : SqT K H a xs) : SqT K H' a xs := by
  rcases h with h | h
  · exact .inl (rd_stay e h)
  · exact .inr h
theorem Rw.stay {K : PySem.W.Frag} {H H' : Hp} {a : Addr} {xs : List V} (e : ∀ o, H a = some o → H' a = some o) (h : Rw K H a xs) : Rw K H' a xs := by
  rcases h with h | h
  · exact .inl (sql_stay e h)
  · exact .inr (sqt_stay e h)
theorem Rw.ex {K : PySem.W.Frag} {H H' : Hp} {a : Addr} {xs : List V} (h : Rw K H a xs) (e : Evl.Ex H H') : Rw K H' a xs := h.stay fun o q => e _ _ q
theorem sqt_ex {K : PySem.W.Frag} {H H' : Hp} {a : Addr} {xs : List V} (h : SqT K H a xs) (e : Evl.Ex H H') : SqT K H' a xs := sqt_stay (fun o q => e _ _ q) h
theorem sql_ex {K : PySem.W.Frag} {H H' : Hp} {a : Addr} {xs : List V} (h : SqL K H a xs) (e : Evl.Ex H H') : SqL K H' a xs := sql_stay (fun o q => e _ _ q) h
theorem walk_row {K : PySem.W.Frag} {H : Hp} {a : Addr} {xs : List V} {J : It} (h : RIt K H a xs J) : ∃ G : Hp → Prop, Walk J xs.length G (YAt xs) ∧ ∀ H', (∀ o, H a = some o → H' a = some o) → G H' := by
  rcases h with ⟨h, rfl⟩ | ⟨h, rfl⟩
  · exact ⟨_, walk_list (K := K) (a := a) (xs := xs), fun H' e => sql_stay e h⟩
  · exact ⟨_, walk_tup (K := K) (a := a) (xs := xs), fun H' e => sqt_stay e h⟩
/-- is_row -/
def isRowT (t : String) : Bool := decide (t = "list") || decide (t = "tuple")
theorem sql_ty {K : PySem.W.Frag} {H : Hp} {a : Addr} {xs : List V} (h : SqL K H a xs) : TyX K H (.ref a) (.type "list") := by
  rcases h with (a | ⟨o, a⟩) | a
  · exact .base (.lst a)
  · exact .base (.frz a)
  · obtain ⟨o, its, n, h1, h2, _⟩ := a
    exact .kList h1 h2
theorem sqt_ty {K : PySem.W.Frag} {H : Hp} {a : Addr} {xs : List V} (h : SqT K H a xs) : TyX K H (.ref a) (.type "tuple") := by
  rcases h with (a | ⟨o, a⟩) | a
  · exact .base (.tup a)
  · exact .fTuple a
  · obtain ⟨o, its, n, h1, h2, _⟩ := a
    exact .kTuple h1 h2
theorem Rw.ty {K : PySem.W.Frag} {H : Hp} {a : Addr} {xs : List V} (h : Rw K H a xs) : ∃ t, t ∈ tyNs ∧ isRowT t = true ∧ ∀ H', Evl.Ex H H' → TyX K H' (.ref a) (.type t) := by
  rcases h with h | h
  · exact ⟨"list", by simp [tyNs], rfl, fun H' e => sql_ty (sql_stay (fun o q => e _ _ q) h)⟩
  · exact ⟨"tuple", by simp [tyNs], rfl, fun H' e => sqt_ty (sqt_stay (fun o q => e _ _ q) h)⟩
def spRow (K : PySem.W.Frag) : Sp := fun vs H Q _ => ∃ (x : V) (t : String), vs = [x] ∧ t ∈ tyNs ∧ (∀ H', Evl.Ex H H' → TyX K H' x (.type t)) ∧ ∀ H', Evl.Ex H H' → Q (.bl (isRowT t)) H'
theorem kit_row {K : PySem.W.Frag} {t : String} (h : t ∈ tyNs) : PySem.W.kitAny K (.type t) [.type "list", .type "tuple"] = some (isRowT t) := by
  have h1 := kit_ty (K := K) (kit_tab t h "list" (by simp))
  have h2 := kit_ty (K := K) (kit_tab t h "tuple" (by simp))
  unfold PySem.W.kitAny isRowT
  rw [h1]
  cases decide (t = "list")
  · show PySem.W.kitAny K (.type t) [.type "tuple"] = _
    unfold PySem.W.kitAny
    rw [h2]
    cases decide (t = "tuple") <;> rfl
  · rfl
/-- is_between -/
def isBetwD (d : PyData) (l m : Int) : Bool := match d with
  | .int i => decide (l ≤ i) && decide (i ≤ m)
  | _ => false
def spBetw (K : PySem.W.Frag) : Sp := fun vs H Q _ => ∃ (x : V) (d : PyData) (l m : Int), vs = [x, .int l, .int m] ∧ Dr K H x d ∧ Q (.bl (isBetwD d l m)) H
/-! ### houses, streets, roads -/
structure HsOk (hs : List Str) : Prop where
  lo : 1 ≤ hs.length
  hi : hs.length ≤ 8
  nm : ∀ z ∈ hs, NmP z
  nd : hs.Nodup
def spHouses (K : PySem.W.Frag) : Sp := fun vs H Q _ => ∃ (a : Addr) (hs : List Str), vs = [.ref a] ∧ Rw K H a (hs.map V.str) ∧ HsOk hs ∧ ∀ H', Evl.Ex H H' → Q (.bl true) H'
def ssK (ss : List (Str × Str)) : List (Key × V) := ss.map fun q => (.inr q.1, .str q.2)
structure SsOk (hs : List Str) (ss : List (Str × Str)) : Prop where
  lo : 1 ≤ ss.length
  hi : ss.length ≤ 20
  nm : ∀ q ∈ ss, NmP q.1 ∧ NmP q.2 ∧ q.2 ∈ hs
  nd : (ss.map (·.1)).Nodup
def spStreets (K : PySem.W.Frag) : Sp := fun vs H Q _ => ∃ (a h : Addr) (ss : List (Str × Str)) (hs : List Str), vs = [.ref a, .ref h] ∧ H a = some (.dK (ssK ss)) ∧ Rw K H h (hs.map V.str) ∧ a ≠ h ∧ SsOk hs ss ∧ ∀ H', Evl.Ex H H' → Q (.bl true) H'
structure RD where
  b : Str
  g : Str
  f : Int
  e : Int
  t : Int
def RD.vs (r : RD) : List V := [.str r.b, .str r.g, .int r.f, .int r.e, .int r.t]
structure RD.ok (hs : List Str) (r : RD) : Prop where
  nb : NmP r.b
  ng : NmP r.g
  ne : r.b ≠ r.g
  hb : r.b ∈ hs
  hg : r.g ∈ hs
  f0 : 0 ≤ r.f
  e1 : 1 ≤ r.e
  t1 : 1 ≤ r.t
def spRoad (K : PySem.W.Frag) : Sp := fun vs H Q _ => ∃ (p h : Addr) (r : RD) (hs : List Str), vs = [.ref p, .ref h] ∧ SqT K H p r.vs ∧ Rw K H h (hs.map V.str) ∧ r.ok hs ∧ ∀ H', Evl.Ex H H' → Q (.bl true) H'
def rqV (rq : List (Addr × RD)) : List V := rq.map fun q => V.ref q.1
def spRoads (K : PySem.W.Frag) : Sp := fun vs H Q _ => ∃ (a h : Addr) (rq : List (Addr × RD)) (hs : List Str), vs = [.ref a, .ref h] ∧ Rw K H a (rqV rq) ∧ (∀ q ∈ rq, SqT K H q.1 q.2.vs ∧ q.2.ok hs) ∧ rq.length ≤ 16 ∧ Rw K H h (hs.map V.str) ∧ ∀ H', Evl.Ex H H' → Q (.bl true) H'
theorem inV_str {z : Str} {hs : List Str} : inV (.str z) (hs.map V.str) = decide (z ∈ hs) := by
  unfold inV
  induction hs with
  | nil => rfl
  | cons y hs ih =>
    rw [List.map_cons, List.any_cons, ih]
    by_cases e : y = z
    · subst e
      simp [eqV]
    · have e2 : eqV (.str y) (.str z) = false := by simp [eqV, e]
      rw [e2, Bool.false_or]
      refine decide_eq_decide.mpr ⟨fun h => List.mem_cons_of_mem _ h, fun h => ?_⟩
      rcases List.mem_cons.mp h with h | h
      · exact absurd h.symm e
      · exact h
theorem flat_strs' (hs : List Str) : (hs.map V.str).all flatV = true := by
  rw [List.all_eq_true]
  intro x hx
  obtain ⟨z, _, rfl⟩ := List.mem_map.mp hx
  rfl
theorem map_at {α β : Type} {f : α → β} {l : List α} {i : Nat} {y : β} (h : (l.map f)[i]? = some y) : ∃ x, l[i]? = some x ∧ y = f x := by
  rw [List.getElem?_map] at h
  cases e : l[i]? with
  | none =>
    rw [e] at h
    cases h
  | some x =>
    rw [e] at h
    exact ⟨x, rfl, (Option.some.inj h).symm⟩
/-! ### rules -/
def uqV (uq : List (Addr × RN)) : List V := uq.map fun q => V.ref q.1
def rising : List Int → Bool
  | a :: b :: l => decide (a < b) && rising (b :: l)
  | _ => true
def rulesOk : List Int → Bool
  | [] => false
  | t :: l => decide (t = 0) && rising (t :: l)
def spRules (K : PySem.W.Frag) : Sp := fun vs H Q _ => ∃ (a : Addr) (uq : List (Addr × RN)), vs = [.ref a] ∧ Rw K H a (uqV uq) ∧ (∀ q ∈ uq, Ru K H q.1 q.2) ∧ uq.length ≤ 60 ∧ ∀ H', Evl.Ex H H' → Q (.bl (rulesOk (uq.map fun q => q.2.s))) H'
/-! ### reaching -/
inductive Rc (ps : List (Str × Str)) (h : Str) : Str → Prop
  | here : Rc ps h h
  | step {b g : Str} : Rc ps h b → (b, g) ∈ ps → Rc ps h g
def pqV (pq : List (Addr × Str × Str)) : List V := pq.map fun q => V.ref q.1
def pqP (pq : List (Addr × Str × Str)) : List (Str × Str) := pq.map fun q => q.2
def spReached (K : PySem.W.Frag) : Sp := fun vs H Q _ => ∃ (a : Addr) (pq : List (Addr × Str × Str)) (h : Str), vs = [.ref a, .str h] ∧ SqL K H a (pqV pq) ∧ (∀ q ∈ pq, SqT K H q.1 [.str q.2.1, .str q.2.2]) ∧ pq.length ≤ 100 ∧
  ∀ (l : Addr) (f : List Str) H', Evl.Ex H H' → H' l = some (.lst (f.map V.str)) → f.Nodup → (∀ z, z ∈ f ↔ Rc (pqP pq) h z) → f.length ≤ 200 → Q (.ref l) H'
def sw (ps : List (Str × Str)) : List (Str × Str) := ps.map fun q => (q.2, q.1)
def rdP (rq : List (Addr × RD)) : List (Str × Str) := rq.map fun q => (q.2.b, q.2.g)
def Tied (hs : List Str) (ps : List (Str × Str)) : Prop := ∀ h0 ∈ hs.head?, ∀ z ∈ hs, Rc ps h0 z ∧ Rc (sw ps) h0 z
def spTied (K : PySem.W.Frag) : Sp := fun vs H Q _ => ∃ (h a : Addr) (hs : List Str) (rq : List (Addr × RD)), vs = [.ref h, .ref a] ∧ Rw K H h (hs.map V.str) ∧ HsOk hs ∧ Rw K H a (rqV rq) ∧ (∀ q ∈ rq, SqT K H q.1 q.2.vs ∧ q.2.ok hs) ∧ rq.length ≤ 16 ∧
  ∀ (b : Bool) H', Evl.Ex H H' → (b = true ↔ Tied hs (rdP rq)) → Q (.bl b) H'
theorem rc_len {hs f : List Str} {ps : List (Str × Str)} {h0 : Str} (hnd : hs.Nodup) (h0m : h0 ∈ hs) (hp : ∀ q ∈ ps, q.2 ∈ hs) (fnd : f.Nodup) (hf : ∀ z, z ∈ f ↔ Rc ps h0 z) : f.length = hs.length ↔ ∀ z ∈ hs, Rc ps h0 z := by
  have sub : ∀ z ∈ f, z ∈ hs := fun z hz => by
    have := (hf z).mp hz
    induction this with
    | here => exact h0m
    | step _ q _ => exact hp _ q
  constructor
  · intro e z hz
    refine (hf z).mp ?_
    refine Classical.byContradiction fun no => ?_
    have n1 : (z :: f).Nodup := List.nodup_cons.mpr ⟨no, fnd⟩
    have s1 : z :: f ⊆ hs := fun y hy => by
      rcases List.mem_cons.mp hy with rfl | hy
      · exact hz
      · exact sub y hy
    have := n1.length_le_of_subset s1
    rw [List.length_cons] at this
    omega
  · intro h
    have p : f.Perm hs := (List.perm_ext_iff_of_nodup fnd hnd).mpr fun z => ⟨sub z, fun hz => (hf z).mpr (h z hz)⟩
    exact p.length_eq
def rLenS (K : PySem.W.Frag) : List V → Hp → VK → Prop := fun xs H Q => ∃ p ys, xs = [.ref p] ∧ (SqL K H p ys ∨ SqT K H p ys) ∧ Q (.int ys.length) H
theorem call_lenS {X : Cx} : CallR X (.builtin "len") (rLenS X.K) := call_len_seq
/-- a comprehension that gives True at each turn -/
def trues (n : Nat) : List Bool := (List.range n).map fun _ => true
theorem allT (n : Nat) : (trues n).all id = true := by simp [trues]
theorem lc_true {J : It} {n : Nat} {G : Hp → Prop} {Y : Nat → Hp → V → Hp → Prop} (w : Walk J n G Y) {g : TG} {tt : TT} {te : TE} {vs : List Nat} {σ : L2.St} {H1 : Hp} {D : Addr} {Qd : Hp → Prop} (hD : H1 D = none) (hn : n < 1000000) (hG : ∀ H, Evl.Ex H1 H → G H)
    (hs : ∀ (i : Nat) (x : V) (H H' : Hp) (C : V → Hp → Prop) (N : Hp → Prop), i < n → Evl.Ex H1 H → Y i H x H' → (∀ H4, Evl.Ex H H4 → C (.bl true) H4) → g x (wipe σ vs) H' fun σ2 H2 => wipe σ2 vs = wipe σ vs ∧ tt σ2 H2 fun b H3 => if b = true then te σ2 H3 C else N H3)
    (hd : ∀ H', Evl.Ex H1 H' → H' D = some (.lst ((trues n).map V.bl)) → Qd H') :
    ∃ W : Nat → Nat → Hp → Prop, (∃ m, W 0 m (upd H1 D (.lst []))) ∧ ∀ i m H, W i m H →
      (J.stop i H ∧ Qd H) ∨ (J.go i H ∧ ∃ Nx : Hp → Prop, (∀ H', Nx H' → ∃ m', m' < m ∧ W (i + 1) m' H') ∧ ∀ x H', J.yld i H x H' → g x (wipe σ vs) H' fun σ2 H2 => wipe σ2 vs = wipe σ vs ∧ tt σ2 H2 fun b H3 =>
        if b = true then te σ2 H3 fun y H4 => ∃ acc, H4 D = some (.lst acc) ∧ acc.length < sizeLine ∧ Nx (upd H4 D (.lst (acc ++ [y]))) else Nx H3) := by
  refine lc_fm w (fun _ => true) (fun _ => .bl true) hD hn hG (fun i x H H' C N hi he y hc _ => hs i x H H' C N hi he y (hc rfl)) (fun H' he hD' => hd H' he ?_)
  rw [hD', filter_yes, trues, List.map_map]
  rfl
theorem iteT' {b : Bool} {A B : Prop} (h : b = true) (a : A) : if b = true then A else B := by rw [if_pos h]; exact a
theorem unlock {H H' : Hp} {l : Addr} {o : Obj} {u : HO} (hl : H l = some u) (e : Evl.Ex (upd H l (.frz o u)) H') : Evl.Ex H (upd H' l u) := fun b v hb => by
  by_cases h : b = l
  · rw [h] at hb ⊢
    rw [upd_same, ← hl, hb]
  · rw [upd_ne h]
    exact e _ _ (by rw [upd_ne h]; exact hb)
end TP
namespace TP
open PySem PySem.Spec PyProof.Rows L2
theorem rIx_mono {K : PySem.W.Frag} {x y : V} {H : Hp} {Q Q' : VK} (h : rIx K x y H Q) (m : ∀ v H', Q v H' → Q' v H') : rIx K x y H Q' := by
  rcases h with ⟨p, xs, i, v, e1, e2, s, a, q⟩ | ⟨p, xs, i, v, e1, e2, s, a, q⟩ | ⟨z, i, c, e1, e2, s, a, q⟩
  · exact .inl ⟨p, xs, i, v, e1, e2, s, a, m _ _ q⟩
  · exact .inr (.inl ⟨p, xs, i, v, e1, e2, s, a, m _ _ q⟩)
  · exact .inr (.inr ⟨z, i, c, e1, e2, s, a, m _ _ q⟩)
end TP

namespace TP
open PySem PySem.Spec PyProof.Rows L2
theorem rd_hid {H : Hp} {x a : Addr} {o u : HO} (hx : H x = some o) (n1 : o ≠ u) (n2 : ∀ ob, o ≠ .frz ob u) (h : Rd H a u) : Rd (hid x H) a u := by
  rcases h with h | ⟨ob, h⟩
  · exact .inl (hid_of h fun e => n1 (by rw [e, hx] at h; exact Option.some.inj h))
  · exact .inr ⟨ob, hid_of h fun e => n2 ob (by rw [e, hx] at h; exact Option.some.inj h)⟩
/-- what stands at x is no row -/
structure NoRow (o : HO) : Prop where
  l : ∀ xs, o ≠ .lst xs
  t : ∀ xs, o ≠ .tup xs
  f : ∀ ob u, o ≠ .frz ob u
theorem noRow_ins {C dx : Addr} {fs : List (Str × V)} : NoRow (.ins C dx fs) := ⟨fun _ h => (nomatch h), fun _ h => (nomatch h), fun _ _ h => nomatch h⟩
theorem sqt_hid {K : PySem.W.Frag} {H : Hp} {x a : Addr} {o : HO} {xs : List V} (hx : H x = some o) (n1 : ∀ xs, o ≠ .tup xs) (n2 : ∀ ob u, o ≠ .frz ob u) (h : SqT K H a xs) : SqT K (hid x H) a xs := by
  rcases h with h | h
  · exact .inl (rd_hid hx (n1 _) (fun _ => n2 _ _) h)
  · exact .inr h
theorem sql_hid {K : PySem.W.Frag} {H : Hp} {x a : Addr} {o : HO} {xs : List V} (hx : H x = some o) (n1 : ∀ xs, o ≠ .lst xs) (n2 : ∀ ob u, o ≠ .frz ob u) (h : SqL K H a xs) : SqL K (hid x H) a xs := by
  rcases h with h | h
  · exact .inl (rd_hid hx (n1 _) (fun _ => n2 _ _) h)
  · exact .inr h
theorem Rw.hid {K : PySem.W.Frag} {H : Hp} {x a : Addr} {o : HO} {xs : List V} (hx : H x = some o) (n : NoRow o) (h : Rw K H a xs) : Rw K (hid x H) a xs := by
  rcases h with h | h
  · exact .inl (sql_hid hx n.l n.f h)
  · exact .inr (sqt_hid hx n.t n.f h)
theorem Ru.hid {K : PySem.W.Frag} {H : Hp} {x a : Addr} {o : HO} {r : RN} (hx : H x = some o) (n : ∀ dx, o ≠ .ins (He.ga K "Rule") dx r.fs) (h : Ru K H a r) : Ru K (TP.hid x H) a r := by
  obtain ⟨dx, h⟩ := h
  exact ⟨dx, hid_of h fun e => n dx (by rw [e, hx] at h; exact Option.some.inj h)⟩
theorem tupOf {K : PySem.W.Frag} {H : Hp} {p : Addr} {ys : List V} {Q : VK} (h : Rw K H p ys) (k : ∀ l H', Evl.Ex H H' → SqT K H' l ys → Q (.ref l) H') :
    ∃ p' ys', [V.ref p] = [.ref p'] ∧ ((SqL K H p' ys' ∧ ∀ l, H l = none → Q (.ref l) (upd H l (.tup ys'))) ∨ (SqT K H p' ys' ∧ Q (.ref p') H)) := by
  rcases h with h | h
  · exact ⟨p, ys, rfl, .inl ⟨h, fun l hl => k l _ (Evl.Ex.new hl) (SqT.of upd_same)⟩⟩
  · exact ⟨p, ys, rfl, .inr ⟨h, k p H (Evl.Ex.refl _) h⟩⟩
/-- tuple(row) -/
def rTup (K : PySem.W.Frag) : List V → Hp → VK → Prop := fun xs H Q => ∃ p ys, xs = [.ref p] ∧ Rw K H p ys ∧ ∀ l H', Evl.Ex H H' → SqT K H' l ys → Q (.ref l) H'
theorem call_tupR {X : Cx} : CallR X (.type "tuple") (rTup X.K) := by
  intro pins s σ H xs us Q I r h
  obtain ⟨p, ys, rfl, hr, k⟩ := h
  exact call_tuple_of pins s σ H _ us Q I r (tupOf hr k)
structure LandD where
  hs : List Str
  ss : List (Str × Str)
  rq : List (Addr × RD)
  bn : Int
  uq : List (Addr × RN)
def landFs (ht st rt : Addr) (bn : Int) (ut : Addr) : List (Str × V) := [("houses", .ref ht), ("streets", .ref st), ("roads", .ref rt), ("bins", .int bn), ("rules", .ref ut)]
/-- a land lies at a -/
structure LandI (K : PySem.W.Frag) (H : Hp) (a dx ht st rt ut : Addr) (L : LandD) : Prop where
  o : H a = some (.ins (He.ga K "Land") dx (landFs ht st rt L.bn ut))
  h : SqT K H ht (L.hs.map V.str)
  s : H st = some (.dK (ssK L.ss))
  r : SqT K H rt (rqV L.rq)
  rs : ∀ q ∈ L.rq, SqT K H q.1 q.2.vs
  u : SqT K H ut (uqV L.uq)
  us : ∀ q ∈ L.uq, Ru K H q.1 q.2
def LandAt (K : PySem.W.Frag) (H : Hp) (a : Addr) (L : LandD) : Prop := ∃ dx ht st rt ut, LandI K H a dx ht st rt ut L
theorem LandI.ex {K : PySem.W.Frag} {H H' : Hp} {a dx ht st rt ut : Addr} {L : LandD} (h : LandI K H a dx ht st rt ut L) (e : Evl.Ex H H') : LandI K H' a dx ht st rt ut L :=
  ⟨e _ _ h.o, sqt_ex h.h e, e _ _ h.s, sqt_ex h.r e, fun q hq => sqt_ex (h.rs q hq) e, sqt_ex h.u e, fun q hq => (h.us q hq).ex e⟩
theorem LandAt.ex {K : PySem.W.Frag} {H H' : Hp} {a : Addr} {L : LandD} (h : LandAt K H a L) (e : Evl.Ex H H') : LandAt K H' a L := by
  obtain ⟨dx, ht, st, rt, ut, h⟩ := h
  exact ⟨dx, ht, st, rt, ut, h.ex e⟩
theorem LandAt.hid {K : PySem.W.Frag} {H : Hp} {a w : Addr} {L : LandD} {xs : List V} (h : LandAt K H a L) (hw : H w = some (.lst xs)) : LandAt K (TP.hid w H) a L := by
  obtain ⟨dx, ht, st, rt, ut, h⟩ := h
  have ne : ∀ {b : Addr} {o : HO}, H b = some o → o ≠ .lst xs → TP.hid w H b = some o := fun {b o} hb no => hid_of hb fun e => no (by rw [e, hw] at hb; exact (Option.some.inj hb).symm)
  have t1 : ∀ {p : Addr} {ys : List V}, SqT K H p ys → SqT K (TP.hid w H) p ys := fun h => sqt_hid hw (fun _ z => nomatch z) (fun _ _ z => nomatch z) h
  exact ⟨dx, ht, st, rt, ut, ⟨ne h.o (fun z => nomatch z), t1 h.h, ne h.s (fun z => nomatch z), t1 h.r, fun q hq => t1 (h.rs q hq), t1 h.u, fun q hq => (h.us q hq).hid hw (fun _ z => nomatch z)⟩⟩
def r0 : RN := ⟨0, 0, 1, 0, 0, 0, 0⟩
/-- what a land is made of, as handed in -/
structure LandIn (K : PySem.W.Frag) (H : Hp) (ha sa ra ua : Addr) (L : LandD) : Prop where
  h : Rw K H ha (L.hs.map V.str)
  hok : HsOk L.hs
  s : H sa = some (.dK (ssK L.ss))
  sok : SsOk L.hs L.ss
  ne : sa ≠ ha
  r : Rw K H ra (rqV L.rq)
  rs : ∀ q ∈ L.rq, SqT K H q.1 q.2.vs ∧ q.2.ok L.hs
  rl : L.rq.length ≤ 16
  u : Rw K H ua (uqV L.uq)
  us : ∀ q ∈ L.uq, Ru K H q.1 q.2
  ul : L.uq.length ≤ 60
theorem LandIn.ex {K : PySem.W.Frag} {H H' : Hp} {ha sa ra ua : Addr} {L : LandD} (h : LandIn K H ha sa ra ua L) (e : Evl.Ex H H') : LandIn K H' ha sa ra ua L :=
  ⟨h.h.ex e, h.hok, e _ _ h.s, h.sok, h.ne, h.r.ex e, fun q hq => ⟨sqt_ex (h.rs q hq).1 e, (h.rs q hq).2⟩, h.rl, h.u.ex e, fun q hq => (h.us q hq).ex e, h.ul⟩
def bnOk (b : Int) : Bool := isBetwD (.int b) 2 5
def ruOk (uq : List (Addr × RN)) : Bool := match uq with
  | [] => true
  | _ => rulesOk (uq.map fun q => q.2.s)
/-- a land lies at a, its table of streets is new -/
def LandNw (K : PySem.W.Frag) (H0 H : Hp) (a : Addr) (L : LandD) : Prop := ∃ dx ht st rt ut, LandI K H a dx ht st rt ut L ∧ H0 st = none
theorem LandNw.at {K : PySem.W.Frag} {H0 H : Hp} {a : Addr} {L : LandD} (h : LandNw K H0 H a L) : LandAt K H a L := by
  obtain ⟨dx, ht, st, rt, ut, h, _⟩ := h
  exact ⟨dx, ht, st, rt, ut, h⟩
def spLandX (K : PySem.W.Frag) : Sp := fun vs H Q E => ∃ (x dx ha sa ra ua : Addr) (L : LandD), vs = [.ref x, .ref ha, .ref sa, .ref ra, .int L.bn, .ref ua] ∧ H x = some (.ins (He.ga K "Land") dx []) ∧ He.ga K "Land" ≠ He.ga K "Rule" ∧ LandIn K H ha sa ra ua L ∧
  (bnOk L.bn = true → ruOk L.uq = true → Tied L.hs (rdP L.rq) → ∀ H' uq, Wk x H H' → (L.uq ≠ [] → uq = L.uq) → (L.uq = [] → ∃ u, H u = none ∧ uq = [(u, r0)]) → LandNw K H H' x { L with uq := uq } → Q .non H') ∧
  (∀ w : Str, (bnOk L.bn = false ∧ w = "bins" ∨ bnOk L.bn = true ∧ ruOk L.uq = false ∧ w = "rules" ∨ bnOk L.bn = true ∧ ruOk L.uq = true ∧ ¬ Tied L.hs (rdP L.rq) ∧ w = "ways") → ∀ d H', Evl.Ex H H' → H' d = some (.xd [("why", .str w)]) → E (.ref (eC K "NoLand")) (some d) H')
section
variable {X : Cx} {CX : CXT} {k n : Nat} {d : He.DefD} {ps ks : List Str} {js is : List Nat} {sp : Sp} {E : XK} {x : Str} {p pos : Pos} {e : Expr} {es : List Expr} {kws : List Keyword} {t tk : TA}
/-- f(e, .., k = v, ..) -/
theorem GtF.callK (G : GtF X.prog X.w X.K X.mg X.base CX k d ps sp) (B : Kb d ps n ks js is) (hm : X.mg x = some (.ref (He.fAd X.K d.at_))) (hr : Room k X.A) (hx : Passes CX X E) (ha : PA X (e :: es) t) (hkw : PK X kws tk) (hg : Gl X x := by rfl)
    (hall : (backToKw pos (keywordEach kws X.env)).all (·.1.isSome) = true := by rfl) (hks : (backToKw pos (keywordEach kws X.env)).filterMap (·.1) = ks := by rfl) (hdb : (x == ("__debug__" : Str)) = false := by decide)
    (he : starEach (e :: es) X.env = (false, eval e X.env) :: starEach es X.env := by rfl) (hpl : ((backTo pos (starEach (e :: es) X.env)).any (·.1) || (backToKw pos (keywordEach kws X.env)).any (·.1.isNone)) = false := by rfl) :
    PE X (.Call (.Name x p) (e :: es) kws pos) (tCallN n ks.length sp (gK d js is X.K) E t tk) := by
  obtain ⟨_, F0, _⟩ := G.ex
  obtain ⟨fd, mv, F, hb⟩ := G.kbn B
  exact pe_callN F hr hg hm F0.kp hb hx ha hkw hall hks hdb he hpl
/-- f(e, ..), all keyword-only parameters left out -/
theorem GtF.callD (G : GtF X.prog X.w X.K X.mg X.base CX k d ps sp) (B : Kb0 d ps n) (hm : X.mg x = some (.ref (He.fAd X.K d.at_))) (hr : Room k X.A) (hx : Passes CX X E) (ha : PA X (e :: es) t) (hg : Gl X x := by rfl) (hdb : (x == ("__debug__" : Str)) = false := by decide)
    (he : starEach (e :: es) X.env = (false, eval e X.env) :: starEach es X.env := by rfl) (hpl : (backTo pos (starEach es X.env)).any (·.1) = false := by rfl) :
    PE X (.Call (.Name x p) (e :: es) [] pos) (tCall sp ((d.kws X.K).map (·.2)) E t) := by
  obtain ⟨_, F0, _⟩ := G.ex
  obtain ⟨fd, ds, F, hd, hb⟩ := G.kb0 B
  exact pe_call F hr hg hm F0.kp hb hd hx ha hdb he hpl
end
/-! ### roads -/
def RD.goes (r : RD) (k : Int) : Int := r.f + k * r.e
def RD.comes (r : RD) (k : Int) : Int := r.f + k * r.e + r.t
def spLeav (K : PySem.W.Frag) : Sp := fun vs H Q _ => ∃ (a : Addr) (L : LandD) (i : Nat) (q : Addr × RD) (k : Int), vs = [.ref a, .int i, .int k] ∧ LandAt K H a L ∧ L.rq[i]? = some q ∧ Bd k ∧ Bd q.2.e ∧ Q (.int (q.2.goes k)) H
def spCome (K : PySem.W.Frag) : Sp := fun vs H Q _ => ∃ (a : Addr) (L : LandD) (i : Nat) (q : Addr × RD) (k : Int), vs = [.ref a, .int i, .int k] ∧ LandAt K H a L ∧ L.rq[i]? = some q ∧ Bd k ∧ Bd q.2.e ∧ Q (.int (q.2.comes k)) H
/-- the first one from k on that is not in a row -/
structure Nx (sh : List Int) (k r : Int) : Prop where
  le : k ≤ r
  no : r ∉ sh
  all : ∀ j, k ≤ j → j < r → j ∈ sh
theorem Nx.uniq {sh : List Int} {k r s : Int} (h : Nx sh k r) (g : Nx sh k s) : r = s := by
  rcases Int.lt_trichotomy r s with q | q | q
  · exact absurd (g.all r h.le q) h.no
  · exact q
  · exact absurd (h.all s g.le q) g.no
def RD.behind (r : RD) (t : Int) : Int := if (t - r.f) / r.e + 1 > 0 then (t - r.f) / r.e + 1 else 0
def spFirst (K : PySem.W.Frag) : Sp := fun vs H Q _ => ∃ (a sa : Addr) (L : LandD) (i : Nat) (q : Addr × RD) (t : Int) (sh : List Int), vs = [.ref a, .int i, .int t, .ref sa] ∧ LandAt K H a L ∧ L.rq[i]? = some q ∧ 1 ≤ q.2.e ∧ q.2.e < 2 ^ 600 ∧ Rw K H sa (sh.map V.int) ∧ ∀ r, Nx sh (q.2.behind t) r → Q (.int r) H
theorem inV_int {z : Int} {l : List Int} : inV (.int z) (l.map V.int) = decide (z ∈ l) := by
  unfold inV
  induction l with
  | nil => rfl
  | cons y l ih =>
    rw [List.map_cons, List.any_cons, ih]
    by_cases e : y = z
    · subst e
      simp [eqV]
    · have e2 : eqV (.int y) (.int z) = false := by simp [eqV, e]
      rw [e2, Bool.false_or]
      refine decide_eq_decide.mpr ⟨fun h => List.mem_cons_of_mem _ h, fun h => ?_⟩
      rcases List.mem_cons.mp h with h | h
      · exact absurd h.symm e
      · exact h
theorem flat_ints (l : List Int) : (l.map V.int).all flatV = true := by
  rw [List.all_eq_true]
  intro x hx
  obtain ⟨z, _, rfl⟩ := List.mem_map.mp hx
  rfl
theorem fil_lt {sh : List Int} {k : Int} (h : k ∈ sh) : (sh.filter fun j => decide (k + 1 ≤ j)).length < (sh.filter fun j => decide (k ≤ j)).length := by
  have e : (sh.filter fun j => decide (k + 1 ≤ j)) = (sh.filter fun j => decide (k ≤ j)).filter fun j => decide (k + 1 ≤ j) := by
    rw [List.filter_filter]
    refine List.filter_congr fun j _ => ?_
    by_cases q : k + 1 ≤ j
    · rw [decide_eq_true q, decide_eq_true (show k ≤ j by omega)]
      rfl
    · rw [decide_eq_false q]
      rfl
  rw [e]
  have hm : k ∈ sh.filter fun j => decide (k ≤ j) := List.mem_filter.mpr ⟨h, by simp⟩
  rcases Nat.lt_or_ge ((sh.filter fun j => decide (k ≤ j)).filter fun j => decide (k + 1 ≤ j)).length (sh.filter fun j => decide (k ≤ j)).length with q | q
  · exact q
  · have e2 := List.length_filter_eq_length_iff.mp (Nat.le_antisymm (List.length_filter_le _ _) q) k hm
    have := of_decide_eq_true e2
    omega
theorem run_le {sh : List Int} {k f : Int} (h : ∀ j, k ≤ j → j < f → j ∈ sh) : f - k ≤ sh.length := by
  rcases Int.lt_or_le f k with q | q
  · have : (0 : Int) ≤ sh.length := Int.natCast_nonneg _
    omega
  · have nd : ((List.range (f - k).toNat).map fun (i : Nat) => k + (i : Int)).Nodup := by
      exact List.Pairwise.map _ (fun a b e z => e (by omega)) List.nodup_range
    have sub : ((List.range (f - k).toNat).map fun (i : Nat) => k + (i : Int)) ⊆ sh := fun x hx => by
      obtain ⟨i, hi, rfl⟩ := List.mem_map.mp hx
      have := List.mem_range.mp hi
      exact h _ (by omega) (by omega)
    have := nd.length_le_of_subset sub
    rw [List.length_map, List.length_range] at this
    omega
theorem Rw.dr {K : PySem.W.Frag} {H : Hp} {a : Addr} {l : List Int} (h : Rw K H a (l.map V.int)) (hl : l.length ≤ 60) (hb : ∀ i ∈ l, i.natAbs < 10 ^ 100) : ∃ d, Dr K H (.ref a) d ∧ Sz 10000 1 d := by
  have hs : ∀ d ∈ l.map PyData.int, Sz 101 0 d := fun d hd => by
    obtain ⟨i, hi, rfl⟩ := List.mem_map.mp hd
    exact Sz.int (hb i hi)
  rcases h with h | h
  · exact ⟨_, .lst h (drInts l), (Sz.lst (n := 60) hs (by rw [List.length_map]; exact hl)).mono (by decide) (by decide)⟩
  · exact ⟨_, .tup h (drInts l), (Sz.tup (n := 60) hs (by rw [List.length_map]; exact hl)).mono (by decide) (by decide)⟩
theorem fil_le (sh : List Int) (k : Int) : (sh.filter fun j => decide (k + 1 ≤ j)).length ≤ (sh.filter fun j => decide (k ≤ j)).length := by
  have e : (sh.filter fun j => decide (k + 1 ≤ j)) = (sh.filter fun j => decide (k ≤ j)).filter fun j => decide (k + 1 ≤ j) := by
    rw [List.filter_filter]
    refine List.filter_congr fun j _ => ?_
    by_cases q : k + 1 ≤ j
    · rw [decide_eq_true q, decide_eq_true (show k ≤ j by omega)]
      rfl
    · rw [decide_eq_false q]
      rfl
  rw [e]
  exact List.length_filter_le _ _
end TP

namespace TP
open PySem PySem.Spec PyProof.Rows L2
theorem dpInts {K : PySem.W.Frag} {H : Hp} : ∀ l : List Int, DpAll K H (l.map V.int) (l.map PyData.int)
  | [] => .nil
  | _ :: l => .cons (.int _) (dpInts l)
theorem canInts : ∀ l : List Int, PyData.canLayAll0 (l.map PyData.int) = true ∧ PyData.depthAll (l.map PyData.int) = 0
  | [] => ⟨rfl, rfl⟩
  | i :: l => by
    obtain ⟨h1, h2⟩ := canInts l
    exact ⟨by show (true && PyData.canLayAll0 (l.map PyData.int)) = true; rw [h1]; rfl, by show max 0 (PyData.depthAll _) = 0; rw [h2]; rfl⟩
theorem shapedInts (l : List Int) : SeqAt.shaped (.list (l.map PyData.int)) = true := by
  unfold SeqAt.shaped
  rw [show PyData.canLay0 (.list (l.map PyData.int)) = true from (canInts l).1, show (PyData.list (l.map PyData.int)).depth = PyData.depthAll (l.map PyData.int) + 1 from rfl, (canInts l).2]
  decide
theorem neInts {K : PySem.W.Frag} {H : Hp} {p q : Addr} {l : List Int} {xs ys : List V} {Q : VK} (h1 : H p = some (.lst xs)) (h2 : H q = some (.lst ys)) (e1 : xs = l.map V.int) (e2 : ys = l.map V.int) (k : Q (.bl false) H) : rNeD K (.ref p) (.ref q) H Q := by
  subst e1 e2
  refine ⟨_, _, .lst (SqL.of h1) (dpInts l), .lst (SqL.of h2) (dpInts l), shapedInts l, shapedInts l, ?_⟩
  rw [show PyData.eqv (.list (l.map PyData.int)) (.list (l.map PyData.int)) = true from PySem.SeqAt.eqv_refl _ (canInts l).1]
  exact k
theorem nx_nil {k r : Int} (h : Nx [] k r) : r = k := h.uniq ⟨Int.le_refl _, by simp, fun j a b => by omega⟩
theorem behind_of {r : RD} {t : Int} (e1 : 1 ≤ r.e) (h : r.f ≤ t) : r.behind t = (t - r.f) / r.e + 1 ∧ 0 ≤ (t - r.f) / r.e ∧ r.f + (t - r.f) / r.e * r.e ≤ t := by
  have h0 : 0 ≤ (t - r.f) / r.e := Int.ediv_nonneg (by omega) (by omega)
  refine ⟨if_pos (by omega), h0, ?_⟩
  have := Int.ediv_mul_le (t - r.f) (show r.e ≠ 0 by omega)
  omega
theorem behind_no {r : RD} {t : Int} (e1 : 1 ≤ r.e) (h : t < r.f) : r.behind t = 0 := by
  refine if_neg ?_
  have h1 : (t - r.f) / r.e < 0 := Int.ediv_neg_of_neg_of_pos (by omega) (by omega)
  omega
theorem behind_gt {r : RD} {t j : Int} (e1 : 1 ≤ r.e) (hj : r.behind t ≤ j) (hj0 : 0 ≤ j) : t < r.f + j * r.e := by
  rcases Int.lt_or_le t r.f with h | h
  · have : 0 ≤ j * r.e := Int.mul_nonneg hj0 (by omega)
    omega
  · obtain ⟨a1, a2, a3⟩ := behind_of e1 h
    have h2 := Int.lt_ediv_add_one_mul_self (t - r.f) (show 0 < r.e by omega)
    have h3 : ((t - r.f) / r.e + 1) * r.e ≤ j * r.e := Int.mul_le_mul_of_nonneg_right (by omega) (by omega)
    omega
theorem behind_nn {r : RD} {t : Int} : 0 ≤ r.behind t := by
  unfold RD.behind
  split <;> omega
theorem behind_le {r : RD} {t : Int} (e1 : 1 ≤ r.e) (f0 : 0 ≤ r.f) (ht : 0 ≤ t) : r.behind t ≤ t + 1 := by
  unfold RD.behind
  split
  · rcases Int.lt_or_le t r.f with h | h
    · have h1 : (t - r.f) / r.e < 0 := Int.ediv_neg_of_neg_of_pos (by omega) (by omega)
      omega
    · have := Int.ediv_le_self r.e (show 0 ≤ t - r.f by omega)
      omega
  · omega
theorem behind_goes {r : RD} {k : Int} (e1 : 1 ≤ r.e) (k0 : 0 ≤ k) : r.behind (r.goes k) = k + 1 := by
  unfold RD.behind RD.goes
  have h : (r.f + k * r.e - r.f) / r.e = k := by
    rw [show r.f + k * r.e - r.f = k * r.e by omega]
    exact Int.mul_ediv_cancel _ (by omega)
  rw [h]
  exact if_pos (by omega)
theorem rep_one (v : V) : ∀ n : Nat, (List.replicate n [v]).flatten = List.replicate n v
  | 0 => rfl
  | n + 1 => by
    rw [List.replicate_succ, List.flatten_cons, rep_one v n, List.replicate_succ]
    rfl
end TP

namespace TP
open PySem PySem.Spec PyProof.Rows L2
/-- a method of a built-in type within a comprehension -/
theorem pe_bmL {X : Cx} {T : String} {name : Str} {id : String} {r : V → List V → Hp → VK → Prop} {o e : Expr} {es : List Expr} {to : TE} {t : TA} {apos cpos : Pos} (K : PySem.W.Frag) (pa : PlainAttrs T) (slot : Slot T name id) (hty : typeOf (.builtin id) = pure (.type "method_descriptor")) (hm : MtR X id r) (ho : PE X o to) (ha : PA X (e :: es) t)
    (hK : X.K = K := by rfl) (hbase : attributeBase o name X.env (eval o X.env) = eval o X.env := by rfl)
    (hfew : ((backTo cpos (starEach (e :: es) X.env)).all (fun x => !x.1) && (backToKw cpos (keywordEach [] X.env)).all (fun x => x.1.isSome)
      && decide ((e :: es).length + ([] : List Keyword).length + (if ([] : List Keyword).isEmpty then 0 else 1) < 30)) = true := by rfl)
    (hline : (apos.endLine == cpos.line) = true := by rfl) (hs : starEach (e :: es) X.env = (false, eval e X.env) :: starEach es X.env := by rfl) (hplain : (backTo cpos (starEach es X.env)).any (·.1) = false := by rfl) :
    PE X (.Call (.Attribute o name apos) (e :: es) [] cpos) (tBM K T r to t) := by
  subst hK
  exact pe_bm pa slot hty hm ho ha hbase hfew hline hs hplain
/-! ### rows of unlike names, mixed rows -/
def spNames : Sp := fun vs H Q _ => ∃ (w : Addr) (n m : Nat), vs = [.ref w, .int m] ∧ Wl H w n ∧ n < 800000 ∧ m ≤ 20 ∧
  ∀ (l : Addr) (zs : List Str) (H' : Hp), Dn w (n + 20 * m) H H' → H l = none → l ≠ w → H' l = some (.lst (zs.map V.str)) → zs.length = m → zs.Nodup → (∀ z ∈ zs, NmP z) → Q (.ref l) H'
def spMixed (K : PySem.W.Frag) : Sp := fun vs H Q _ => ∃ (w p : Addr) (n : Nat) (xs : List V), vs = [.ref w, .ref p] ∧ Wl H w n ∧ n < 800000 ∧ Rw K H p xs ∧ p ≠ w ∧ xs.length ≤ 60 ∧
  ∀ (l : Addr) (ys : List V) (H' : Hp), Dn w (n + xs.length) H H' → H l = none → l ≠ w → H' l = some (.lst ys) → ys.Perm xs → Q (.ref l) H'
def vNm (j : Nat) : Str := ("v" : Str) ++ (⟨#[97 + j]⟩ : Str)
theorem vNm_inj {i j : Nat} (h : vNm i = vNm j) : i = j := by
  have e := congrArg (fun z : Str => z.cps.toList) h
  dsimp only [vNm] at e
  rw [app_codes, app_codes] at e
  have e2 := List.append_cancel_left e
  have e3 : (97 + i) = 97 + j := by simpa using e2
  omega
theorem vNm_nm {j : Nat} (h : j < 26) : NmP (vNm j) := by
  have hl : (vNm j).length = 2 := by
    unfold vNm
    rw [strLen_append]
    rfl
  refine ⟨by omega, by omega, fun c hc => ?_⟩
  unfold vNm at hc
  rw [app_codes] at hc
  rcases List.mem_append.mp hc with h1 | h1
  · have : c = 118 := by
      have e : ("v" : Str).cps.toList = [118] := by decide +kernel
      rw [e] at h1
      simpa using h1
    exact LT_mem.mpr (by omega)
  · have : c = 97 + j := by simpa using h1
    exact LT_mem.mpr (by omega)
theorem LT_at {j : Nat} (h : j < 26) : LT.cps.toList[j]? = some (97 + j) := by
  rw [LT_list]
  have hd : ∀ j, j < 26 → ([97, 98, 99, 100, 101, 102, 103, 104, 105, 106, 107, 108, 109, 110, 111, 112, 113, 114, 115, 116, 117, 118, 119, 120, 121, 122] : List Nat)[j]? = some (97 + j) := by decide
  exact hd j h
/-- so many of these are in a row at most -/
theorem v_few {f : List Str} {k : Nat} (h : ∀ j, j < k → vNm j ∈ f) : k ≤ f.length := by
  have nd : ((List.range k).map vNm).Nodup := List.Pairwise.map _ (fun a b e z => e (vNm_inj z)) List.nodup_range
  have sub : ((List.range k).map vNm) ⊆ f := fun x hx => by
    obtain ⟨j, hj, rfl⟩ := List.mem_map.mp hx
    exact h j (List.mem_range.mp hj)
  have := nd.length_le_of_subset sub
  rwa [List.length_map, List.length_range] at this
theorem Dn.putL {w l : Addr} {m : Nat} {H H' : Hp} {o : HO} (d : Dn w m H H') (hl : H l = none) (n : l ≠ w) : Dn w m H (upd H' l o) := d.put hl n
end TP

namespace TP
open PySem PySem.Spec PyProof.Rows L2
def spLStreets (K : PySem.W.Frag) : Sp := fun vs H Q _ => ∃ (w hl : Addr) (n : Nat) (hs : List Str), vs = [.ref w, .ref hl] ∧ Wl H w n ∧ n < 700000 ∧ SqL K H hl (hs.map V.str) ∧ hl ≠ w ∧ HsOk hs ∧
  ∀ (d : Addr) (ss : List (Str × Str)) (H' : Hp), Dn w (n + 500) H H' → H d = none → d ≠ w → H' d = some (.dK (ssK ss)) → SsOk hs ss → Q (.ref d) H'
structure RB (r : RD) : Prop where
  f : r.f < 10 ^ 7
  e : r.e < 100
  t : r.t < 10 ^ 7
def spLRoads (K : PySem.W.Frag) : Sp := fun vs H Q _ => ∃ (w hl : Addr) (n : Nat) (hs : List Str), vs = [.ref w, .ref hl] ∧ Wl H w n ∧ n < 700000 ∧ SqL K H hl (hs.map V.str) ∧ hl ≠ w ∧ HsOk hs ∧
  ∀ (pl : Addr) (rq : List (Addr × RD)) (H' : Hp), Dn w (n + 500) H H' → H pl = none → pl ≠ w → H' pl = some (.lst (rqV rq)) → (∀ q ∈ rq, H q.1 = none ∧ q.1 ≠ w ∧ q.1 ≠ pl ∧ H' q.1 = some (.tup q.2.vs) ∧ q.2.ok hs ∧ RB q.2) → rq.length ≤ 16 → Tied hs (rdP rq) → Q (.ref pl) H'
theorem perm_strs {ys : List V} {hs : List Str} (h : ys.Perm (hs.map V.str)) : ∃ os : List Str, ys = os.map V.str ∧ os.Perm hs := by
  have hall : ∀ y ∈ ys, ∃ z, y = V.str z := fun y hy => by
    obtain ⟨z, _, e⟩ := List.mem_map.mp (h.mem_iff.mp hy)
    exact ⟨z, e.symm⟩
  have g : ∀ ys : List V, (∀ y ∈ ys, ∃ z, y = V.str z) → ∃ os : List Str, ys = os.map V.str := by
    intro ys
    induction ys with
    | nil => exact fun _ => ⟨[], rfl⟩
    | cons y ys ih =>
      intro hh
      obtain ⟨os, e⟩ := ih fun z hz => hh z (List.mem_cons_of_mem _ hz)
      obtain ⟨z, ez⟩ := hh y (List.mem_cons_self ..)
      exact ⟨z :: os, by rw [e, ez]; rfl⟩
  obtain ⟨os, rfl⟩ := g ys hall
  refine ⟨os, rfl, ?_⟩
  have m := h.map (fun v => match v with | V.str z => z | _ => Str.empty)
  rw [List.map_map, List.map_map] at m
  have i : ∀ l : List Str, l.map ((fun v => match v with | V.str z => z | _ => Str.empty) ∘ V.str) = l := fun l => by
    rw [show ((fun v => match v with | V.str z => z | _ => Str.empty) ∘ V.str) = id from rfl, List.map_id]
  rw [i, i] at m
  exact m
theorem perm_refs {α : Type} {ys : List V} {fq : List (Addr × α)} (h : ys.Perm (fq.map fun q => V.ref q.1)) : ∃ gq : List (Addr × α), ys = (gq.map fun q => V.ref q.1) ∧ gq.Perm fq := by
  have key : ∀ (ys zs : List V), ys.Perm zs → ∀ fq : List (Addr × α), zs = (fq.map fun q => V.ref q.1) → ∃ gq : List (Addr × α), ys = (gq.map fun q => V.ref q.1) ∧ gq.Perm fq := by
    intro ys zs h
    induction h with
    | nil =>
      intro fq e
      cases fq with
      | nil => exact ⟨[], rfl, .nil⟩
      | cons q l => cases e
    | cons x _ ih =>
      intro fq e
      cases fq with
      | nil => cases e
      | cons q l =>
        obtain ⟨e1, e2⟩ := List.cons.inj e
        obtain ⟨gq, g1, g2⟩ := ih l e2
        exact ⟨q :: gq, by rw [e1, g1]; rfl, .cons _ g2⟩
    | swap x y l =>
      intro fq e
      match fq, e with
      | q :: r :: l', e =>
        obtain ⟨e1, e2⟩ := List.cons.inj e
        obtain ⟨e3, e4⟩ := List.cons.inj e2
        exact ⟨r :: q :: l', by rw [e1, e3, e4]; rfl, .swap _ _ _⟩
    | trans _ _ ih1 ih2 =>
      intro fq e
      obtain ⟨gq, g1, g2⟩ := ih2 fq e
      obtain ⟨hq, h1, h2⟩ := ih1 gq g1
      exact ⟨hq, h1, h2.trans g2⟩
  exact key ys _ h fq rfl
/-- a ring ties all -/
theorem ring_tied {hs os : List Str} {ps : List (Str × Str)} (hp : os.Perm hs) (hr : ∀ i x y, os[i]? = some x → os[(i + 1) % os.length]? = some y → (x, y) ∈ ps) : Tied hs ps := by
  intro h0 hh z hz
  have h0m : h0 ∈ os := hp.mem_iff.mpr (List.mem_of_mem_head? hh)
  have hzm : z ∈ os := hp.mem_iff.mpr hz
  obtain ⟨s, hs1⟩ := List.mem_iff_getElem?.mp h0m
  obtain ⟨t, ht1⟩ := List.mem_iff_getElem?.mp hzm
  have ls := (List.getElem?_eq_some_iff.mp hs1).1
  have lt := (List.getElem?_eq_some_iff.mp ht1).1
  have N0 : 0 < os.length := by omega
  have at_ : ∀ i, ∃ x, os[i % os.length]? = some x := fun i => ⟨_, List.getElem?_eq_getElem (Nat.mod_lt _ N0)⟩
  have fwd : ∀ (k a : Nat) (x y : Str), os[a % os.length]? = some x → os[(a + k) % os.length]? = some y → Rc ps x y := by
    intro k
    induction k with
    | zero =>
      intro a x y h1 h2
      rw [Nat.add_zero, h1] at h2
      obtain rfl := Option.some.inj h2
      exact .here
    | succ k ih =>
      intro a x y h1 h2
      obtain ⟨u, hu⟩ := at_ (a + k)
      refine .step (ih a x u h1 hu) (hr ((a + k) % os.length) u y hu ?_)
      rw [← h2, Nat.mod_add_mod]
      rfl
  have bwd : ∀ (k a : Nat) (x y : Str), os[(a + k) % os.length]? = some x → os[a % os.length]? = some y → Rc (sw ps) x y := by
    intro k
    induction k with
    | zero =>
      intro a x y h1 h2
      rw [Nat.add_zero, h2] at h1
      obtain rfl := Option.some.inj h1
      exact .here
    | succ k ih =>
      intro a x y h1 h2
      obtain ⟨u, hu⟩ := at_ (a + 1)
      refine .step (ih (a + 1) x u (by rw [← h1, show a + 1 + k = a + (k + 1) by omega]) hu) (List.mem_map.mpr ⟨(y, u), hr (a % os.length) y u h2 ?_, rfl⟩)
      rw [← hu, Nat.mod_add_mod]
  have es : os[s % os.length]? = some h0 := by rw [Nat.mod_eq_of_lt ls]; exact hs1
  have et : os[t % os.length]? = some z := by rw [Nat.mod_eq_of_lt lt]; exact ht1
  refine ⟨fwd (t + os.length - s) s h0 z es ?_, bwd (s + os.length - t) t h0 z ?_ et⟩
  · rw [show s + (t + os.length - s) = t + os.length by omega, Nat.add_mod_right]
    exact et
  · rw [show t + (s + os.length - t) = s + os.length by omega, Nat.add_mod_right]
    exact es
theorem atI_neg {α : Type} {xs : List α} {i : Int} {j : Nat} {v : α} (h1 : i < 0) (h2 : i + (xs.length : Int) = (j : Int)) (h : xs[j]? = some v) : atI xs i = some v := by
  have hj : j < xs.length := (List.getElem?_eq_some_iff.mp h).1
  have e : ixN xs.length i = some j := by
    unfold ixN
    rw [if_neg (by omega), if_pos (by omega)]
    congr 1
    omega
  unfold atI; rw [e]; exact h
end TP

namespace TP
open PySem PySem.Spec PyProof.Rows L2
theorem atI_str {os : List Str} {i : Int} (h1 : -(os.length : Int) ≤ i) (h2 : i < (os.length : Int)) : ∃ (j : Nat) (x : Str), os[j]? = some x ∧ atI (os.map V.str) i = some (.str x) ∧ ((j : Int) = i ∨ (j : Int) = i + os.length) := by
  have hl : (os.map V.str).length = os.length := List.length_map ..
  by_cases h0 : 0 ≤ i
  · obtain ⟨j, rfl⟩ := Int.eq_ofNat_of_zero_le h0
    have hj : j < os.length := by omega
    exact ⟨j, os[j], List.getElem?_eq_getElem hj, atI_nat (by rw [List.getElem?_map, List.getElem?_eq_getElem hj]; rfl), .inl rfl⟩
  · obtain ⟨j, hj⟩ := Int.eq_ofNat_of_zero_le (show 0 ≤ i + (os.length : Int) by omega)
    have hj' : j < os.length := by omega
    exact ⟨j, os[j], List.getElem?_eq_getElem hj', atI_neg (j := j) (by omega) (by rw [hl]; exact hj) (by rw [List.getElem?_map, List.getElem?_eq_getElem hj']; rfl), .inr hj.symm⟩
/-- the found pairs of a round of houses -/
structure FqAt (w ol fl : Addr) (os : List Str) (Hb H : Hp) (fq : List (Addr × Str × Str)) (m : Nat) : Prop where
  d : Dn w m Hb H
  o : H ol = some (.lst (os.map V.str))
  f : H fl = some (.lst (pqV fq))
  q : ∀ q ∈ fq, q.1 ≠ w ∧ q.1 ≠ fl ∧ H q.1 = some (.tup [.str q.2.1, .str q.2.2]) ∧ q.2.1 ∈ os ∧ q.2.2 ∈ os ∧ q.2.1 ≠ q.2.2
theorem FqAt.step {w ol fl p : Addr} {os : List Str} {Hb H H' : Hp} {fq : List (Addr × Str × Str)} {m m' : Nat} {x y : Str} (F : FqAt w ol fl os Hb H fq m) (hb : Hb fl = none) (nfl : fl ≠ w) (nol : ol ≠ w) (hol : ol ≠ fl) (D : Dn w m' H H') (hp : H' p = none) (hx : x ∈ os) (hy : y ∈ os) (hn : x ≠ y) :
    FqAt w ol fl os Hb (upd (upd H' p (.tup [.str x, .str y])) fl (.lst (pqV fq ++ [.ref p]))) (fq ++ [(p, x, y)]) m' := by
  have npw : p ≠ w := D.wl.nep hp
  have hf' := D.k _ _ nfl F.f
  have npf : p ≠ fl := Ne.symm (ne_of_none hf' hp)
  have ho' := D.k _ _ nol F.o
  have npo : p ≠ ol := Ne.symm (ne_of_none ho' hp)
  refine ⟨((F.d.trans D).new hp).put hb nfl, ?_, ?_, fun q hq => ?_⟩
  · rw [upd_ne hol, upd_ne (Ne.symm npo)]
    exact ho'
  · rw [upd_same]
    unfold pqV
    rw [List.map_append]
    rfl
  · rcases List.mem_append.mp hq with h | h
    · obtain ⟨h1, h2, h3, h4⟩ := F.q q h
      have h3' := D.k _ _ h1 h3
      refine ⟨h1, h2, ?_, h4⟩
      rw [upd_ne h2, upd_ne (ne_of_none h3' hp)]
      exact h3'
    · obtain rfl : q = (p, x, y) := by simpa using h
      refine ⟨npw, npf, ?_, hx, hy, hn⟩
      show upd _ fl _ p = _
      rw [upd_ne npf, upd_same]
theorem nodup_at {os : List Str} (h : os.Nodup) {i j : Nat} {x y : Str} (hi : os[i]? = some x) (hj : os[j]? = some y) (n : i ≠ j) : x ≠ y := by
  rintro rfl
  obtain ⟨a, ha⟩ := List.getElem?_eq_some_iff.mp hi
  obtain ⟨b, hb⟩ := List.getElem?_eq_some_iff.mp hj
  exact n ((List.getElem_inj h).mp (ha.trans hb.symm))
theorem FqAt.dn {w ol fl : Addr} {os : List Str} {Hb H H' : Hp} {fq : List (Addr × Str × Str)} {m m' : Nat} (F : FqAt w ol fl os Hb H fq m) (nfl : fl ≠ w) (nol : ol ≠ w) (D : Dn w m' H H') : FqAt w ol fl os Hb H' fq m' :=
  ⟨F.d.trans D, D.k _ _ nol F.o, D.k _ _ nfl F.f, fun q hq => by
    obtain ⟨h1, h2, h3, h4⟩ := F.q q hq
    exact ⟨h1, h2, D.k _ _ h1 h3, h4⟩⟩
theorem cutV_all {xs : List V} {k : Nat} (h : xs.length ≤ k) : cutV xs none (some (k : Int)) = xs := by
  unfold cutV
  rw [HT.sIx_none, HT.sIx_nat, List.drop_zero, Nat.sub_zero, List.take_of_length_le (by omega)]
theorem tied_one {hs : List Str} {ps : List (Str × Str)} (h : hs.length = 1) : Tied hs ps := by
  match hs, h with
  | [a], _ =>
    intro h0 hh z hz
    obtain rfl : a = h0 := by simpa using hh
    obtain rfl : z = a := by simpa using hz
    exact ⟨.here, .here⟩
end TP

namespace TP
open PySem PySem.Spec PyProof.Rows L2
def hasD (hs : List Str) : PyData → Bool
  | .str z => isNm z && decide (z ∈ hs)
  | _ => false
def spHas (K : PySem.W.Frag) : Sp := fun vs H Q _ => ∃ (a : Addr) (L : LandD) (v : V) (D : PyData), vs = [.ref a, v] ∧ LandAt K H a L ∧ Dr K H v D ∧ (∀ z, D = .str z → z.length ≤ 1000000) ∧ ∀ H', Evl.Ex H H' → Q (.bl (hasD L.hs D)) H'
def spHasS (K : PySem.W.Frag) : Sp := fun vs H Q _ => ∃ (a : Addr) (L : LandD) (v : V) (D : PyData), vs = [.ref a, v] ∧ LandAt K H a L ∧ Dr K H v D ∧ (∀ z, D = .str z → z.length ≤ 1000000) ∧ ∀ H', Evl.Ex H H' → Q (.bl (hasD (L.ss.map (·.1)) D)) H'
theorem isNmD_str {K : PySem.W.Frag} {H : Hp} {v : V} {D : PyData} (h : Dr K H v D) (e : isNmD D = true) : ∃ z, v = .str z ∧ D = .str z ∧ NmP z := by
  cases D <;> try cases e
  obtain ⟨z, e1, e2⟩ := h.str_of rfl
  cases e2
  exact ⟨_, e1, rfl, isNm_iff.mp e⟩
theorem hasD_no {hs : List Str} {D : PyData} (e : isNmD D = false) : hasD hs D = false := by
  cases D <;> try rfl
  show (isNm _ && _) = false
  rw [show isNm _ = false from e]
  rfl
theorem hasD_yes {hs : List Str} {z : Str} (e : NmP z) : hasD hs (.str z) = decide (z ∈ hs) := by
  show (isNm _ && _) = _
  rw [isNm_iff.mpr e]
  rfl
def ssGet : List (Str × Str) → Str → Option Str
  | [], _ => none
  | q :: r, z => if q.1 = z then some q.2 else ssGet r z
theorem ssGet_val (ss : List (Str × Str)) (z : Str) : valV (ssK ss) (.inr z) = (ssGet ss z).map V.str := by
  induction ss with
  | nil => rfl
  | cons q r ih =>
    show valV ((.inr q.1, .str q.2) :: ssK r) (.inr z) = _
    unfold ssGet
    by_cases e : q.1 = z
    · subst e
      simp [valV]
    · rw [if_neg e, ← ih]
      have : (Sum.inr q.1 : Key) ≠ Sum.inr z := fun h => e (Sum.inr.inj h)
      simp [valV, this]
theorem ssGet_some (ss : List (Str × Str)) (z : Str) : (ssGet ss z).isSome = decide (z ∈ ss.map (·.1)) := by
  induction ss with
  | nil => rfl
  | cons q r ih =>
    unfold ssGet
    by_cases e : q.1 = z
    · subst e
      simp
    · rw [if_neg e, ih]
      have : z ≠ q.1 := fun h => e h.symm
      simp [this]
def spHouseX (K : PySem.W.Frag) : Sp := fun vs H Q E => ∃ (a : Addr) (L : LandD) (v : V) (D : PyData), vs = [.ref a, v] ∧ LandAt K H a L ∧ Dr K H v D ∧ (∀ z, D = .str z → z.length ≤ 1000000) ∧
  (∀ z s, v = .str z → hasD (L.ss.map (·.1)) D = true → ssGet L.ss z = some s → ∀ H', Evl.Ex H H' → Q (.str s) H') ∧
  (hasD (L.ss.map (·.1)) D = false → ∀ d H', Evl.Ex H H' → H' d = some (.xd [("street", v)]) → E (.ref (eC K "NoStreet")) (some d) H')
def rdFrom (z : Str) : Nat → List RD → List Int
  | _, [] => []
  | i, r :: rs => if r.b = z then (i : Int) :: rdFrom z (i + 1) rs else rdFrom z (i + 1) rs
def spFromX (K : PySem.W.Frag) : Sp := fun vs H Q E => ∃ (a : Addr) (L : LandD) (v : V) (D : PyData), vs = [.ref a, v] ∧ LandAt K H a L ∧ L.rq.length ≤ 16 ∧ Dr K H v D ∧ (∀ z, D = .str z → z.length ≤ 1000000) ∧
  (∀ z, v = .str z → hasD L.hs D = true → ∀ l H', Evl.Ex H H' → H l = none → H' l = some (.lst ((rdFrom z 0 (L.rq.map (·.2))).map V.int)) → Q (.ref l) H') ∧
  (hasD L.hs D = false → ∀ d H', Evl.Ex H H' → H' d = some (.xd [("house", v)]) → E (.ref (eC K "NoHouse")) (some d) H')
def lastAt (t : Int) : Addr × RN → List (Addr × RN) → Addr × RN
  | f, [] => f
  | f, q :: r => lastAt t (if q.2.s ≤ t then q else f) r
def spRuleAt (K : PySem.W.Frag) : Sp := fun vs H Q _ => ∃ (a : Addr) (L : LandD) (t : Int) (q : Addr × RN) (r : List (Addr × RN)), vs = [.ref a, .int t] ∧ LandAt K H a L ∧ L.uq = q :: r ∧ L.uq.length ≤ 60 ∧ Q (.ref (lastAt t q L.uq).1) H
end TP

namespace TP
open PySem PySem.Spec PyProof.Rows L2
/-! ### enumerate of a tuple (own text, on the kit's road for lists) -/
set_option maxHeartbeats 1000000 in
theorem meets_enumB {v : Value} {o : Obj} {H : Heap → Prop} (B : Begins v o H) :
    Meets (Builtin.«enumerate.__new__» ⟨[.type "enumerate", v], []⟩) (fun _ R s => H s.heap ∧
      R (.ok (.ret (.ref (s.heap.push o).objs.size))) { s with heap := (s.heap.push o).push { cls := .type "enumerate", data := .fields #[.none, .bool false, .ref s.heap.objs.size, rawInt 0, .none, .none] } }) :=
  .of_wp fun prog w A R s h => by
    obtain ⟨hp, g, d, tk, os⟩ := s
    obtain ⟨h1, h⟩ := h
    have hsub := sub_enumerate
    have q1 : ∀ {A' : Around} {E : Value → Shared → Prop} {Q : Value → Shared → Prop}, Q (.ref hp.objs.size) ⟨hp.push o, g, d, tk, os⟩ → wpAny (model prog w) A' (pyIter v) Q E ⟨hp, g, d, tk, os⟩ :=
      fun q => B.iter prog w _ _ ⟨hp, g, d, tk, os⟩ _ h1 q
    wp_walk using q1
    refine wpAny_stack_any fun st => wpAny_pure ?_
    split
    · rename_i c _ _ _ _ _
      cases (c == Value.type "enumerate")
      · wp_walk using q1
        exact ⟨_, rfl, h⟩
      · wp_walk using q1
        exact ⟨_, rfl, h⟩
    · wp_walk using q1
      exact ⟨_, rfl, h⟩
section
variable {prog : Program} {w : World} {A : Around} {E : Value → Shared → Prop} {s : Shared}
theorem call_enumT {t : Addr} {items : Array Value} {Q : Value → Shared → Prop} (ht : s.heap.IsTuple t items)
    (h : ∀ h', IsEnum h' (s.heap.objs.size + 1) s.heap.objs.size 0 .none → h'.IsTupleIter s.heap.objs.size t 0 → h'.objs.size = s.heap.objs.size + 2 →
      (∀ b o, s.heap.get? b = some o → h'.get? b = some o) → Q (.ref (s.heap.objs.size + 1)) { s with heap := h' }) :
    wpAny (model prog w) A (call (.type "enumerate") [.ref t]) Q E s := by
  have B := begins_tuple t items
  refine callType_new F.called_enumerate (by decide) (F.typeCall_enumerate_1 _) (F.newCall_enumerate_1 _) (fun obj => F.args_object_init_2 obj _) F.entry_enumerate_new
    (meets_enumB B) ⟨ht, ?_⟩
  have hz : ∀ o, (s.heap.push o).objs.size = s.heap.objs.size + 1 := fun o => Heap.size_push ..
  show _ ∧ _
  rw [hz]
  have he : ∀ o, IsEnum ((s.heap.push o).push { cls := .type "enumerate", data := .fields #[.none, .bool false, .ref s.heap.objs.size, rawInt 0, .none, .none] }) (s.heap.objs.size + 1) s.heap.objs.size 0 .none := fun o => by
    have := Heap.get?_push_size (s.heap.push o) (o := { cls := .type "enumerate", data := .fields #[.none, .bool false, .ref s.heap.objs.size, rawInt 0, .none, .none] }) rfl
    rw [hz] at this
    exact this
  exact ⟨⟨_, he _, rfl⟩, h _ (he _) ⟨_, Heap.get?_push_of_some _ (Heap.get?_push_size _ B.free), rfl, rfl⟩ (by rw [Heap.size_push, hz]) fun b o x => Heap.get?_push_of_some _ (Heap.get?_push_of_some _ x)⟩
end
/-- the tuple at a, each item in a new pair -/
def IteT (K : PySem.W.Frag) (a : Addr) : It :=
  ⟨fun i H => ∃ (xs : List V) (x : V), SqT K H a xs ∧ xs[i]? = some x, fun i H v H' => ∃ T x, v = .ref T ∧ H T = none ∧ H' = upd H T (.tup [.int (i : Nat), x]) ∧ ∀ xs, SqT K H a xs → xs[i]? = some x, fun i H => ∃ xs : List V, SqT K H a xs ∧ xs.length = i⟩
theorem tup_isT {h : Heap} {a : Addr} {its : Array Value} (p : IsTup h a its) : h.IsTuple a its := p
theorem turn_enumT {P : Program} {w : World} {K : PySem.W.Frag} {elts : List Expr} {kk : Nat} {tpos : Pos} (a e it : Addr) :
    Turn P w K (.Tuple elts kk tpos) (IteT K a) [e, it] e (fun i h => (∃ old, IsEnum h e it ((i : Nat) : Int) old) ∧ h.IsTupleIter it a i ∧ e ≠ it ∧ a ≠ it ∧ e ≠ a) where
  mem := by simp
  obj := fun i h st b hb => by
    obtain ⟨⟨old, he⟩, ⟨o, ho, hc, hd⟩, _⟩ := st
    have e' : b = e ∨ b = it := by simpa using hb
    rcases e' with z | z
    · rw [z]; exact ⟨_, he, fun v q => nomatch q⟩
    · rw [z]; exact ⟨o, ho, fun v q => by rw [hd] at q; cases q⟩
  keep := fun i h h' st k => let ⟨⟨old, he⟩, hi, hne⟩ := st; ⟨⟨old, k e (by simp) _ he⟩, hi.at fun o q => k it (by simp) o q, hne⟩
  item := by
    intro X hP hw hK hc i pins s σ H E I hf st hg
    subst hP hw hK
    obtain ⟨⟨old, he⟩, hit, hne, hai, hea⟩ := st
    obtain ⟨xs, x, hq, hx⟩ := hg
    obtain ⟨its, rv, p, hz⟩ := I.tuple hq
    obtain ⟨u, hu, ru⟩ := rv.get hx
    have hel : e < s.heap.objs.size := Heap.lt_size he
    have hil : it < s.heap.objs.size := by obtain ⟨_, q, _⟩ := hit; exact Heap.lt_size q
    have hlt : i < its.toArray.size := by
      have := (List.getElem?_eq_some_iff.mp hu).1
      simpa using this
    refine wpAny_pyNext_enum_itemD (Draws.tuple (A := X.A.in1) (show X.A.in1.handled = none from I.ok.hd hc) it a hai its.toArray) he ⟨hit, tup_isT p⟩ hlt hne (by simp [hne, hea]) fun x' h' tk hx' ho hit' hT hsz hk => ?_
    obtain rfl : x' = u := by
      have h2 : its.toArray[i]? = some u := by simpa using hu
      exact Option.some.inj (hx'.symm.trans h2)
    refine ⟨_, rfl, wpAny_letOwnedTupleGo_enum (s := { s with heap := h', toks := tk + 1 }) ho fun h'' he' sb => ?_⟩
    have hT2 : h''.get? s.heap.objs.size = some { cls := .type "tuple", data := .seq #[.int i tk, x'] } := (sb.2 _ (Nat.ne_of_gt hel)).trans hT
    have new : ObjOk X.prog X.w (upd H s.heap.objs.size (.tup [.int (i : Nat), x])) h'' s.heap.objs.size (.tup [.int (i : Nat), x]) :=
      ⟨by show 2 ≤ sizeLine; decide, [.int i tk, x'], .cons ⟨_, rfl⟩ (.cons ru .nil), ⟨_, hT2, rfl, _, rfl⟩⟩
    have I1 : Inv X pins σ (upd H s.heap.objs.size (.tup [.int (i : Nat), x])) { s with heap := h'', toks := tk + 1 } :=
      I.turnedNew (ch := [e, it]) (fun b ob hb q => (sb.2 b (fun z => hb (by simp [z]))).trans (hk b ob (fun z => hb (by simp [z])) (fun z => hb (by simp [z])) q)) hf (Nat.le_refl _) new
    refine ⟨.ref s.heap.objs.size, _, I1, rfl, ⟨_, x, rfl, I.hok.fresh (Nat.le_refl _), rfl, fun ys hy => by rw [I.tuple_inj hy hq]; exact hx⟩, ⟨⟨x', ?_⟩, hit'.1.at fun o q => (sb.2 it (Ne.symm hne)).trans q, hne, hai, hea⟩, fun b hb => ?_⟩
    · have e1 : ((i + 1 : Nat) : Int) = (i : Int) + 1 := by omega
      rw [e1]; exact he'
    · have hb' : b < s.heap.objs.size := by
        have e' : b = e ∨ b = it := by simpa using hb
        rcases e' with z | z
        · rw [z]; exact hel
        · rw [z]; exact hil
      rw [upd_ne (Nat.ne_of_lt hb')]
      exact (hf b hb).1
  done := by
    intro X hP hw hK hc i pins s σ H E I hf st hg
    subst hP hw hK
    obtain ⟨⟨old, he⟩, hit, hne, hai, hea⟩ := st
    obtain ⟨xs, hq, hx⟩ := hg
    obtain ⟨its, rv, p, hz⟩ := I.tuple hq
    obtain ⟨f0, f1, f2, f3, f4, f5⟩ := hf it (by simp)
    have hl := rv.length
    have hn : its.toArray.size = i := by simp; omega
    subst hn
    exact wpAny_pyNext_enum_endD (Draws.tuple (A := X.A.in1) (show X.A.in1.handled = none from I.ok.hd hc) it a hai its.toArray) he ⟨hit, tup_isT p⟩ fun h' eb => ⟨rfl, I.turned (t' := s.toks) (fun b o hb q => eb b o hb q) f0 f1 f3 f4 f5⟩
  self := fun A i s Q E st h => let ⟨⟨_, he⟩, _⟩ := st; wpAny_pyIter_enum he h
def iEnumT (K : PySem.W.Frag) (ta : TA) : TI := fun σ H R => ta σ H fun vs H1 => ∃ a xs, vs = [.ref a] ∧ SqT K H1 a xs ∧ R (IteT K a) H1
theorem pi_enumT {X : Cx} {e : Expr} {ta : TA} {p pos tpos : Pos} {elts : List Expr} {kk : Nat} (hg : Gl X "enumerate") (hm : X.mg "enumerate" = none) (ha : PA X [e] ta) (hs : starEach [e] X.env = [(false, eval e X.env)] := by rfl) :
    PI X (.Tuple elts kk tpos) (.Call (.Name "enumerate" p) [e] [] pos) (iEnumT X.K ta) := by
  refine ⟨fun pins s σ H R I h => ?_⟩
  refine Call_ (ld_blt I hg hm boot_enumerate (PyProof.Rows.callWith_type1 (thn (ha.run pos pins s σ H _ I h) fun us s1 ⟨vs, H1, I1, r1, q1⟩ => ?_) hs rfl))
  obtain ⟨a, xs, ex, hq, q⟩ := q1
  subst ex
  cases r1 with
  | cons r rr =>
    cases rr
    cases r
    obtain ⟨its, rv, p', hz⟩ := I1.tuple hq
    have hal : a < s1.heap.objs.size := by obtain ⟨_, q, _⟩ := p'; exact Heap.lt_size q
    refine call_enumT (tup_isT p') fun h' he hit hsz hk => wpAny_pyIter_enum he ?_
    have I2 : Inv X pins σ H1 { s1 with heap := h' } := I1.kept (t' := s1.toks) hk
    refine ⟨s1.heap.objs.size + 1, [s1.heap.objs.size + 1, s1.heap.objs.size], _, _, H1, rfl, I2, turn_enumT a (s1.heap.objs.size + 1) s1.heap.objs.size, ⟨⟨.none, he⟩, hit, Nat.succ_ne_self _, Nat.ne_of_lt hal, Nat.ne_of_gt (Nat.lt_succ_of_lt hal)⟩, fun b hb => ?_, q⟩
    have e' : b = s1.heap.objs.size + 1 ∨ b = s1.heap.objs.size := by simpa using hb
    have hle : s1.heap.objs.size ≤ b := by
      rcases e' with z | z
      · rw [z]; exact Nat.le_add_right _ _
      · rw [z]; exact Nat.le_refl _
    exact I1.fpOk hle (I1.hok.fresh hle)
theorem walk_enumT {K : PySem.W.Frag} {a : Addr} {xs : List V} : Walk (IteT K a) xs.length (fun H => SqT K H a xs) (YPair (fun i => some (.int (i : Nat))) (fun i => xs[i]?)) := by
  refine ⟨fun i _ hi q => ⟨xs, xs[i], q, by simp [hi]⟩, fun _ q => ⟨xs, q, rfl⟩, fun i H v H' _ q y => ?_⟩
  obtain ⟨T, x, h1, h2, h3, h4⟩ := y
  exact ⟨T, .int (i : Nat), x, h1, h2, h3, rfl, h4 xs q⟩
theorem rdFrom_snoc (z : Str) (r : RD) : ∀ (l : List RD) (j : Nat), rdFrom z j (l ++ [r]) = rdFrom z j l ++ (if r.b = z then [((j + l.length : Nat) : Int)] else [])
  | [], j => by
    show (if r.b = z then _ else _) = _
    by_cases h : r.b = z
    · rw [if_pos h, if_pos h]
      rfl
    · rw [if_neg h, if_neg h]
      rfl
  | q :: l, j => by
    show (if q.b = z then (j : Int) :: rdFrom z (j + 1) (l ++ [r]) else rdFrom z (j + 1) (l ++ [r])) = (if q.b = z then _ else _) ++ _
    rw [rdFrom_snoc z r l (j + 1), List.length_cons, show j + 1 + l.length = j + (l.length + 1) by omega]
    by_cases h : q.b = z
    · rw [if_pos h, if_pos h]
      rfl
    · rw [if_neg h, if_neg h]
theorem rdFrom_len (z : Str) : ∀ (l : List RD) (j : Nat), (rdFrom z j l).length ≤ l.length
  | [], _ => Nat.le_refl _
  | q :: l, j => by
    show (if q.b = z then _ else _ : List Int).length ≤ _
    have := rdFrom_len z l (j + 1)
    split
    · rw [List.length_cons, List.length_cons]
      omega
    · rw [List.length_cons]
      omega
end TP

namespace TP
open PySem PySem.Spec PyProof.Rows L2
structure TkOk (ts : List Int) : Prop where
  hd : ts.head? = some 0
  pw : ts.Pairwise (· < ·)
  nn : ∀ t ∈ ts, 0 ≤ t ∧ t < 10 ^ 11
  ln : ts.length ≤ 4
def spLRules (K : PySem.W.Frag) : Sp := fun vs H Q _ => ∃ (w : Addr) (n : Nat), vs = [.ref w] ∧ Wl H w n ∧ n < 700000 ∧
  ∀ (l : Addr) (ts : List Int) (H' : Hp), Dn w (n + 10) H H' → H l = none → l ≠ w → H' l = some (.lst (ts.map V.int)) → TkOk ts → Q (.ref l) H'
def dueAt (ts : List Int) (t : Int) : Int := ((ts.filter fun b => decide (b ≤ t)).length : Int) - 1
def spDueAt (K : PySem.W.Frag) : Sp := fun vs H Q _ => ∃ (l : Addr) (ts : List Int) (t : Int), vs = [.ref l, .int t] ∧ SqL K H l (ts.map V.int) ∧ ts.length ≤ 60 ∧ ∀ H', Evl.Ex H H' → Q (.int (dueAt ts t)) H'
end TP

namespace TP
open PySem PySem.Spec PyProof.Rows L2
theorem kv_vals {kvs : List (Key × V)} {vs : List (Key × Value)} (r : KV kvs vs) : Vals (kvs.map (·.2)) (vs.map (·.2)) := by
  unfold KV at r
  induction r with
  | nil => exact .nil
  | cons h _ ih => exact .cons h.2 ih
/-- list(d.values()) -/
def tListV (td : TE) : TE := fun σ H Q => td σ H fun x H1 => ∃ d kvs, x = .ref d ∧ H1 d = some (.dK kvs) ∧ ∀ q, H1 q = none → Q (.ref q) (upd H1 q (.lst (kvs.map (·.2))))
theorem pe_listVals {X : Cx} {e : Expr} {td : TE} {p pos apos cpos : Pos} (hc : X.calm = true) (hg : Gl X "list") (hm : X.mg "list" = none) (he : PE X e td) (hbase : attributeBase e "values" X.env (eval e X.env) = eval e X.env := by rfl) (hline : (apos.endLine == cpos.line) = true := by rfl)
    (na : starEach [.Call (.Attribute e "values" apos) [] [] cpos] X.env = (false, eval (.Call (.Attribute e "values" apos) [] [] cpos) X.env) :: starEach [] X.env := by rfl) : PE X (.Call (.Name "list" p) [.Call (.Attribute e "values" apos) [] [] cpos] [] pos) (tListV td) := by
  refine ⟨fun pins s σ H Q I h => ?_⟩
  refine Call_ (ld_blt I hg hm boot_list (PyProof.Rows.callWith_type1 (args_cons ?_ na) na))
  refine wpAny_Call_method (T := "dict") (id := "dict.values") hbase rfl hline F.plainAttrs_dict F.slot_dict_values F.type_dict_values (thn (he.run pins s σ H _ I h) fun u s1 ⟨x, H1, I1, rx, d, kvs, ex, hd, q⟩ => ?_)
  subst ex
  obtain rfl : u = Value.ref d := rx
  obtain ⟨z, lo, vs, rk, hdd⟩ := (show ObjOk X.prog X.w H1 s1.heap d (.dK kvs) from I1.hok d _ hd)
  obtain ⟨ep, hat⟩ := hdd.dictAt
  have hl : kvs.length = vs.length := Paired.length rk
  refine ⟨hat.dictOf.typeIs, hat.dictOf.mapOf.noDict, ?_⟩
  show wpAny _ _ (callWith cpos (.builtin "dict.values") [.ref d] [] []) _ X.xe s1
  refine method_meetsIn F.slot_dict_values F.entry_dict_values rfl (PySem.evalArgs_none ⟨rfl, hat.dictOf.typeIs, F.args_dict_values_1 _, _, meets_dict_values (mixKind X.prog X.w) d lo, ⟨vs, hat.dictOf⟩, ?_⟩)
  have I2 : Inv X pins σ H1 { s1 with heap := s1.heap.push { cls := .type "dict_values", data := .fields #[.ref d] } } := I1.kept (t' := s1.toks) fun b ob q => Heap.get?_push_of_some _ q
  refine args_nil ?_
  refine PySem.W.kdl_call (PySem.W.kdl_values (knd := mixKind X.prog X.w) (kvs := vs) (ep := ep) (r := s1.heap.objs.size) (d := d)) (I2.ok.hd hc) ⟨⟨_, Heap.get?_push_size _ rfl, rfl, rfl⟩, hat.push _⟩ (by rw [← hl]; exact z) fun h' tk acc' c' hkeep hS hacc => ?_
  refine ⟨.ref _, upd H1 _ (.lst (kvs.map (·.2))), I2.laid hkeep (Nat.le_refl _) (show ObjOk X.prog X.w _ _ _ (.lst (kvs.map (·.2))) from ⟨?_, acc'.toList, c', ?_, ?_⟩), rfl, q _ (I2.hok.fresh (Nat.le_refl _))⟩
  · rw [List.length_map]
    exact z
  · have el : acc'.toList.length = acc'.size := by simp
    refine vals_of_at (by rw [List.length_map, el, hacc.1, hl]) fun j x w h1 h2 => ?_
    obtain ⟨k, hky⟩ := hacc.2 j w (by rw [← Array.getElem?_toList]; exact h2)
    obtain ⟨u, hu, ru⟩ := (kv_vals rk).get h1
    rw [List.getElem?_map, hky] at hu
    obtain rfl : w = u := Option.some.inj hu
    exact ru
  · rw [Array.toArray_toList]
    exact hS
def uqT (uq : List (Addr × RN)) : List (Int × Int) := uq.map fun q => (q.2.s, q.2.b)
def LandNe (K : PySem.W.Frag) (H : Hp) (a : Addr) (L : LandD) (b : Addr) : Prop := ∃ dx ht st rt ut, LandI K H a dx ht st rt ut L ∧ st ≠ b
structure RtIn (K : PySem.W.Frag) (H : Hp) (la ha sa pa ta : Addr) (bn : Int) (L : LandD) (hs : List Str) (ss : List (Str × Str)) (rq : List (Addr × RD)) (ts : List Int) : Prop where
  l : LandNe K H la L sa
  h : SqL K H ha (hs.map V.str)
  s : H sa = some (.dK (ssK ss))
  r : SqL K H pa (rqV rq)
  rs : ∀ q ∈ rq, SqT K H q.1 q.2.vs
  t : SqL K H ta (ts.map V.int)
  eh : L.hs = hs
  es : L.ss = ss
  er : L.rq.map (·.2) = rq.map (·.2)
  eb : L.bn = bn
  eu : uqT L.uq = ts.map fun t => (t, t % 7)
  hok : HsOk hs
  sok : SsOk hs ss
  rok : ∀ q ∈ rq, q.2.ok hs ∧ RB q.2
  rl : rq.length ≤ 16
  b0 : 0 ≤ bn
  b9 : bn ≤ 9
  tok : TkOk ts
def spRight (K : PySem.W.Frag) : Sp := fun vs H Q _ => ∃ (la ha sa pa ta : Addr) (bn : Int) (L : LandD) (hs : List Str) (ss : List (Str × Str)) (rq : List (Addr × RD)) (ts : List Int), vs = [.ref la, .ref ha, .ref sa, .ref pa, .int bn, .ref ta] ∧ RtIn K H la ha sa pa ta bn L hs ss rq ts ∧ ∀ H', Evl.Ex H H' → Q (.bl true) H'
end TP

namespace TP
open PySem PySem.Spec PyProof.Rows L2
def rdD (r : RD) : PyData := .tuple [.str r.b, .str r.g, .int r.f, .int r.e, .int r.t]
def landD (hs : List Str) (rs : List RD) (bn : Int) : PyData := .tuple [.tuple (hs.map PyData.str), .tuple (rs.map rdD), .int bn]
theorem drAll_strs' {K : PySem.W.Frag} {H : Hp} : ∀ hs : List Str, DrAll K H (hs.map V.str) (hs.map PyData.str)
  | [] => .nil
  | z :: hs => .cons (.str z) (drAll_strs' hs)
theorem drAll_roads {K : PySem.W.Frag} {H : Hp} : ∀ {rq : List (Addr × RD)}, (∀ q ∈ rq, SqT K H q.1 q.2.vs) → DrAll K H (rqV rq) ((rq.map (·.2)).map rdD)
  | [], _ => .nil
  | q :: rq, h => .cons (.tup (h q (List.mem_cons_self ..)) (.cons (.str _) (.cons (.str _) (.cons (.int _) (.cons (.int _) (.cons (.int _) .nil)))))) (drAll_roads fun q' hq => h q' (List.mem_cons_of_mem _ hq))
theorem sz_land {hs : List Str} {rq : List (Addr × RD)} {bn : Int} (hok : HsOk hs) (rok : ∀ q ∈ rq, q.2.ok hs ∧ RB q.2) (rl : rq.length ≤ 16) (b0 : 0 ≤ bn) (b9 : bn ≤ 9) :
    (landD hs (rq.map (·.2)) bn).showable = true ∧ (landD hs (rq.map (·.2)) bn).depth ≤ 50 ∧ (landD hs (rq.map (·.2)) bn).shown.length ≤ sizeLine := by
  have s8 : ∀ {z : Str}, NmP z → Sz 100 0 (.str z) := fun {z} h => (Sz.str h.as).mono (by decide) (Nat.le_refl _)
  have nI : ∀ {i : Int}, 0 ≤ i → i < 10 ^ 8 → Sz 100 0 (.int i) := fun h0 h1 => Sz.nat h0 (Int.lt_trans h1 (by decide))
  have h1 : Sz 9000 2 (.tuple (hs.map PyData.str)) := (Sz.tup (B := 100) (k := 0) (n := 8) (fun d hd => by
    obtain ⟨z, hz, rfl⟩ := List.mem_map.mp hd
    exact s8 (hok.nm z hz)) (by rw [List.length_map]; exact hok.hi)).mono (by decide) (by decide)
  have h2 : Sz 9000 2 (.tuple ((rq.map (·.2)).map rdD)) := (Sz.tup (B := 513) (k := 1) (n := 16) (fun d hd => by
    obtain ⟨r, hr, rfl⟩ := List.mem_map.mp hd
    obtain ⟨q, hq, rfl⟩ := List.mem_map.mp hr
    obtain ⟨ok, rb⟩ := rok q hq
    have := ok.f0
    have := ok.e1
    have := ok.t1
    have := rb.f
    have := rb.e
    have := rb.t
    exact (Sz.tup (B := 100) (k := 0) (n := 5) (fun d hd => by
      simp only [List.mem_cons, List.not_mem_nil, or_false] at hd
      rcases hd with rfl | rfl | rfl | rfl | rfl
      · exact s8 ok.nb
      · exact s8 ok.ng
      · exact nI (by omega) (by omega)
      · exact nI (by omega) (by omega)
      · exact nI (by omega) (by omega)) (Nat.le_refl _)).mono (by decide) (by decide)) (by rw [List.length_map, List.length_map]; exact rl)).mono (by decide) (by decide)
  have h3 : Sz 9000 2 (.int bn) := (nI b0 (by omega)).mono (by decide) (by decide)
  exact (Sz.tup (B := 9000) (k := 2) (n := 3) (fun d hd => by
    simp only [List.mem_cons, List.not_mem_nil, or_false] at hd
    rcases hd with rfl | rfl | rfl
    · exact h1
    · exact h2
    · exact h3) (Nat.le_refl _)).rp
theorem land_repr {K : PySem.W.Frag} {H : Hp} {v : V} {Q : VK} {d : PyData} (z : d.showable = true ∧ d.depth ≤ 50 ∧ d.shown.length ≤ sizeLine) (hd : Dr K H v d) (q : Q (.str d.shown) H) : rRepr K [v] H Q :=
  ⟨v, d, rfl, hd, z.1, z.2.1, z.2.2, q⟩
theorem iteF' {b : Bool} {A B : Prop} (h : b = false) (a : B) : if b = true then A else B := by
  rw [h]
  exact a
theorem ss_same {ss : List (Str × Str)} (nd : (ss.map (·.1)).Nodup) : ∀ p ∈ ssK ss, valV (ssK ss) p.1 = some p.2 ∧ flatB p.2 = true := by
  intro p hp
  obtain ⟨q, hq, rfl⟩ := List.mem_map.mp hp
  refine ⟨?_, rfl⟩
  show valV (ssK ss) (.inr q.1) = _
  rw [ssGet_val]
  induction ss with
  | nil => cases hq
  | cons r rs ih =>
    unfold ssGet
    rw [List.map_cons, List.nodup_cons] at nd
    rcases List.mem_cons.mp hq with e | h
    · rw [e, if_pos rfl]
      rfl
    · have ne : r.1 ≠ q.1 := fun e => nd.1 (by rw [e]; exact List.mem_map.mpr ⟨q, h, rfl⟩)
      rw [if_neg ne]
      exact ih nd.2 h (List.mem_map.mpr ⟨q, h, rfl⟩)
end TP

namespace TP
open PySem PySem.Spec PyProof.Rows L2
/-! lists of pairs of numbers compared; lists of texts compared -/
def prD (p : Int × Int) : PyData := .tuple [.int p.1, .int p.2]
theorem dpPrs {K : PySem.W.Frag} {H : Hp} : ∀ {as : List Addr} {l : List (Int × Int)}, as.length = l.length → (∀ (j : Nat) a p, as[j]? = some a → l[j]? = some p → H a = some (.tup [.int p.1, .int p.2])) → DpAll K H (as.map V.ref) (l.map prD)
  | [], [], _, _ => .nil
  | [], _ :: _, h, _ => by simp at h
  | _ :: _, [], h, _ => by simp at h
  | a :: as, p :: l, h, f => .cons (.tup (SqT.of (f 0 a p rfl rfl)) (.cons (.int _) (.cons (.int _) .nil))) (dpPrs (by simpa using h) fun j b q h1 h2 => f (j + 1) b q (by simpa using h1) (by simpa using h2))
theorem canPrs : ∀ l : List (Int × Int), PyData.canLayAll0 (l.map prD) = true ∧ PyData.depthAll (l.map prD) ≤ 1
  | [] => ⟨rfl, by show 0 ≤ 1; decide⟩
  | i :: l => by
    obtain ⟨h1, h2⟩ := canPrs l
    exact ⟨by show (PyData.canLay0 (prD i) && PyData.canLayAll0 (l.map prD)) = true; rw [h1]; rfl, by show max (prD i).depth (PyData.depthAll _) ≤ 1; exact Nat.max_le.mpr ⟨by show 1 ≤ 1; decide, h2⟩⟩
theorem shapedPrs (l : List (Int × Int)) : SeqAt.shaped (.list (l.map prD)) = true := by
  unfold SeqAt.shaped
  have h := (canPrs l).2
  rw [show PyData.canLay0 (.list (l.map prD)) = true from (canPrs l).1, show (PyData.list (l.map prD)).depth = PyData.depthAll (l.map prD) + 1 from rfl, decide_eq_true (by omega)]
  rfl
theorem nePrs {K : PySem.W.Frag} {H : Hp} {p q : Addr} {l : List (Int × Int)} {as bs : List Addr} {Q : VK} (h1 : H p = some (.lst (as.map V.ref))) (h2 : H q = some (.lst (bs.map V.ref))) (la : as.length = l.length) (lb : bs.length = l.length)
    (fa : ∀ (j : Nat) a p, as[j]? = some a → l[j]? = some p → H a = some (.tup [.int p.1, .int p.2])) (fb : ∀ (j : Nat) a p, bs[j]? = some a → l[j]? = some p → H a = some (.tup [.int p.1, .int p.2])) (k : Q (.bl false) H) : rNeD K (.ref p) (.ref q) H Q := by
  refine ⟨_, _, .lst (SqL.of h1) (dpPrs la fa), .lst (SqL.of h2) (dpPrs lb fb), shapedPrs l, shapedPrs l, ?_⟩
  rw [show PyData.eqv (.list (l.map prD)) (.list (l.map prD)) = true from PySem.SeqAt.eqv_refl _ (canPrs l).1]
  exact k
theorem dpStrs2 {K : PySem.W.Frag} {H : Hp} : ∀ l : List Str, DpAll K H (l.map V.str) (l.map PyData.str)
  | [] => .nil
  | _ :: l => .cons (.str _) (dpStrs2 l)
theorem canStrs2 : ∀ l : List Str, (∀ z ∈ l, PyData.strOk z = true) → PyData.canLayAll0 (l.map PyData.str) = true ∧ PyData.depthAll (l.map PyData.str) = 0
  | [], _ => ⟨rfl, rfl⟩
  | i :: l, hg => by
    obtain ⟨h1, h2⟩ := canStrs2 l fun z hz => hg z (List.mem_cons_of_mem _ hz)
    refine ⟨?_, by show max 0 (PyData.depthAll _) = 0; rw [h2]; rfl⟩
    show (PyData.canLay0 (.str i) && PyData.canLayAll0 (l.map PyData.str)) = true
    rw [h1, show PyData.canLay0 (.str i) = true from hg i (List.mem_cons_self ..)]
    rfl
theorem neStrs {K : PySem.W.Frag} {H : Hp} {p q : Addr} {l : List Str} {xs ys : List V} {Q : VK} (h1 : H p = some (.lst xs)) (h2 : H q = some (.lst ys)) (e1 : xs = l.map V.str) (e2 : ys = l.map V.str) (hg : ∀ z ∈ l, PyData.strOk z = true) (k : Q (.bl false) H) : rNeD K (.ref p) (.ref q) H Q := by
  subst e1 e2
  have sh : SeqAt.shaped (.list (l.map PyData.str)) = true := by
    unfold SeqAt.shaped
    rw [show PyData.canLay0 (.list (l.map PyData.str)) = true from (canStrs2 l hg).1, show (PyData.list (l.map PyData.str)).depth = PyData.depthAll (l.map PyData.str) + 1 from rfl, (canStrs2 l hg).2]
    decide
  refine ⟨_, _, .lst (SqL.of h1) (dpStrs2 l), .lst (SqL.of h2) (dpStrs2 l), sh, sh, ?_⟩
  rw [show PyData.eqv (.list (l.map PyData.str)) (.list (l.map PyData.str)) = true from PySem.SeqAt.eqv_refl _ (canStrs2 l hg).1]
  exact k
end TP

namespace TP
open PySem PySem.Spec PyProof.Rows L2
section
variable {X : Cx} {CX : CXT} {k n : Nat} {d : He.DefD} {C : Addr} {ps ks : List Str} {sp : Sp} {E : XK} {x : Str} {p pos : Pos} {kws : List Keyword} {tk : TA} {js is : List Nat}
theorem GtF.makeK0L (K : PySem.W.Frag) (G : GtF X.prog X.w X.K X.mg X.base CX k d ps sp) (B : Kb d ps 1 ks js is) (M : Mk X.K C (He.fAd X.K d.at_)) (hm : X.mg x = some (.ref C)) (hr : Room (k + 1) X.A) (hx : Passes CX X E) (hkw : PK X kws tk) (hK : X.K = K := by rfl) (hg : Gl X x := by rfl)
    (hall : (backToKw pos (keywordEach kws X.env)).all (·.1.isSome) = true := by rfl) (hks : (backToKw pos (keywordEach kws X.env)).filterMap (·.1) = ks := by rfl) (hdb : (x == ("__debug__" : Str)) = false := by decide)
    (hpl : ((backTo pos (starEach [] X.env)).any (·.1) || (backToKw pos (keywordEach kws X.env)).any (·.1.isNone)) = false := by rfl) :
    PE X (.Call (.Name x p) [] kws pos) (tMakeK C 0 ks.length sp (gK d js is K) E tNil tk) := by
  subst hK
  exact GtF.makeK0 G B M hm hr hx hkw hg hall hks hdb hpl
end
/-! what is neither a tuple nor locked nor an object -/
inductive Loose : HO → Prop
  | lst (xs : List V) : Loose (.lst xs)
  | dK (kvs : List (Key × V)) : Loose (.dK kvs)
theorem Loose.tup {u : HO} (l : Loose u) (xs : List V) : u ≠ .tup xs := by cases l <;> intro z <;> cases z
theorem Loose.frz {u : HO} (l : Loose u) (o : Obj) (v : HO) : u ≠ .frz o v := by cases l <;> intro z <;> cases z
theorem Loose.ins {u : HO} (l : Loose u) (C dx : Addr) (fs : List (Str × V)) : u ≠ .ins C dx fs := by cases l <;> intro z <;> cases z
theorem at_put {H : Hp} {b p : Addr} {o u v : HO} (h : H p = some v) (hb : H b = some u) (n : u ≠ v) : upd H b o p = some v := by
  rw [upd_ne (fun e => n (by rw [e, hb] at h; exact Option.some.inj h))]
  exact h
theorem sqt_put {K : PySem.W.Frag} {H : Hp} {b p : Addr} {o u : HO} {ys : List V} (h : SqT K H p ys) (hb : H b = some u) (l : Loose u) : SqT K (upd H b o) p ys := by
  rcases h with (h | ⟨o', h⟩) | h
  · exact .inl (.inl (at_put h hb (l.tup _)))
  · exact .inl (.inr ⟨o', at_put h hb (l.frz _ _)⟩)
  · exact .inr h
theorem sql_put {K : PySem.W.Frag} {H : Hp} {b p : Addr} {o : HO} {ys : List V} (h : SqL K H p ys) (n : p ≠ b) : SqL K (upd H b o) p ys := sql_stay (fun o' q => by rw [upd_ne n]; exact q) h
theorem Rw.put {K : PySem.W.Frag} {H : Hp} {b p : Addr} {o u : HO} {ys : List V} (h : Rw K H p ys) (hb : H b = some u) (l : Loose u) (n : p ≠ b) : Rw K (upd H b o) p ys := by
  rcases h with h | h
  · exact .inl (sql_put h n)
  · exact .inr (sqt_put h hb l)
theorem Ru.put {K : PySem.W.Frag} {H : Hp} {b p : Addr} {o u : HO} {r : RN} (h : Ru K H p r) (hb : H b = some u) (l : Loose u) : Ru K (upd H b o) p r := by
  obtain ⟨dx, h⟩ := h
  exact ⟨dx, at_put h hb (l.ins _ _ _)⟩
theorem LandI.put {K : PySem.W.Frag} {H : Hp} {a dx ht st rt ut b : Addr} {o u : HO} {L : LandD} (h : LandI K H a dx ht st rt ut L) (hb : H b = some u) (l : Loose u) (n : st ≠ b) : LandI K (upd H b o) a dx ht st rt ut L :=
  ⟨at_put h.o hb (l.ins _ _ _), sqt_put h.h hb l, by rw [upd_ne n]; exact h.s, sqt_put h.r hb l, fun q hq => sqt_put (h.rs q hq) hb l, sqt_put h.u hb l, fun q hq => (h.us q hq).put hb l⟩
theorem LandNe.put {K : PySem.W.Frag} {H : Hp} {a b c : Addr} {o u : HO} {L : LandD} (h : LandNe K H a L c) (hb : H b = some u) (l : Loose u) (n : ∀ st, H st = some (.dK (ssK L.ss)) → st ≠ c → st ≠ b) : LandNe K (upd H b o) a L c := by
  obtain ⟨dx, ht, st, rt, ut, h, ne⟩ := h
  exact ⟨dx, ht, st, rt, ut, h.put hb l (n st h.s ne), ne⟩
theorem LandNe.putL {K : PySem.W.Frag} {H : Hp} {a b c : Addr} {o : HO} {L : LandD} {xs : List V} (h : LandNe K H a L c) (hb : H b = some (.lst xs)) : LandNe K (upd H b o) a L c :=
  h.put hb (.lst _) fun st hs _ => ne_of hs hb fun z => nomatch z
theorem LandNe.ex {K : PySem.W.Frag} {H H' : Hp} {a b : Addr} {L : LandD} (h : LandNe K H a L b) (e : Evl.Ex H H') : LandNe K H' a L b := by
  obtain ⟨dx, ht, st, rt, ut, h, ne⟩ := h
  exact ⟨dx, ht, st, rt, ut, h.ex e, ne⟩
/-- locked while it is walked, and back -/
theorem unlock_ex {H H' : Hp} {d : Addr} {od : Obj} {u : HO} (h : H d = some u) (e : Evl.Ex (upd H d (.frz od u)) H') : Evl.Ex H (upd H' d u) := fun b o hb => by
  by_cases q : b = d
  · subst q
    rw [upd_same, ← h]
    exact hb
  · rw [upd_ne q]
    exact e b o (by rw [upd_ne q]; exact hb)
/-! ### a comprehension that lays a tuple at each turn -/
theorem lc_tups {J : It} {n : Nat} {G : Hp → Prop} {Y : Nat → Hp → V → Hp → Prop} (w : Walk J n G Y) {g : TG} {tt : TT} {te : TE} {vs : List Nat} {σ : L2.St} {H1 : Hp} {D : Addr} {Qd : Hp → Prop} (F : Nat → List V)
    (hD : H1 D = none) (hn : n < 1000000) (hG : ∀ H, Evl.Ex H1 H → G H)
    (hs : ∀ (i : Nat) (x : V) (H H' : Hp) (C : V → Hp → Prop) (N : Hp → Prop), i < n → Evl.Ex H1 H → Y i H x H' → (∀ p H4, H p = none → Evl.Ex H H4 → H4 p = some (.tup (F i)) → C (.ref p) H4) →
      g x (wipe σ vs) H' fun σ2 H2 => wipe σ2 vs = wipe σ vs ∧ tt σ2 H2 fun b H3 => if b = true then te σ2 H3 C else N H3)
    (hd : ∀ H' (as : List Addr), Evl.Ex H1 H' → H' D = some (.lst (as.map V.ref)) → as.length = n → (∀ (j : Nat) a, as[j]? = some a → H' a = some (.tup (F j)) ∧ H1 a = none) → Qd H') :
    ∃ W : Nat → Nat → Hp → Prop, (∃ m, W 0 m (upd H1 D (.lst []))) ∧ ∀ i m H, W i m H →
      (J.stop i H ∧ Qd H) ∨ (J.go i H ∧ ∃ Nx : Hp → Prop, (∀ H', Nx H' → ∃ m', m' < m ∧ W (i + 1) m' H') ∧ ∀ x H', J.yld i H x H' → g x (wipe σ vs) H' fun σ2 H2 => wipe σ2 vs = wipe σ vs ∧ tt σ2 H2 fun b H3 =>
        if b = true then te σ2 H3 fun y H4 => ∃ acc, H4 D = some (.lst acc) ∧ acc.length < sizeLine ∧ Nx (upd H4 D (.lst (acc ++ [y]))) else Nx H3) := by
  refine lc_it w (fun i H => Evl.Ex H1 H ∧ ∃ as : List Addr, H D = some (.lst (as.map V.ref)) ∧ as.length = i ∧ ∀ (j : Nat) a, as[j]? = some a → H a = some (.tup (F j)) ∧ H1 a = none) ⟨Evl.Ex.new hD, [], upd_same, rfl, fun j a h => nil_at h⟩ (fun i H _ q => hG H q.1) (fun i x H H' hi q y => ?_) (fun H q => ?_)
  · obtain ⟨e, as, ha, hl, hf⟩ := q
    refine hs i x H H' _ _ hi e y fun p H4 hp e4 h4 => ⟨_, e4 _ _ ha, ?_, fun b o hb => ?_, as ++ [p], ?_, by simp [hl], fun j a hj => ?_⟩
    · rw [List.length_map, hl]
      have : sizeLine = 16777216 := sizeLine_eq
      omega
    · rw [upd_ne (ne_of_none hb hD)]
      exact e4 _ _ (e _ _ hb)
    · rw [upd_same, List.map_append]
      rfl
    · have hpD : p ≠ D := Ne.symm (ne_of_none ha hp)
      rcases snoc_at hj with h | ⟨h1, h2⟩
      · obtain ⟨f1, f2⟩ := hf j a h
        have : a ≠ D := ne_of f1 ha (fun z => nomatch z)
        rw [upd_ne this]
        exact ⟨e4 _ _ f1, f2⟩
      · rw [h2, h1, hl, upd_ne hpD]
        exact ⟨h4, Ex.free e hp⟩
  · obtain ⟨e, as, ha, hl, hf⟩ := q
    exact hd H as e ha hl hf
/-! ### the rule of a tick -/
theorem filter_prefix {t : Int} : ∀ {l : List Int}, l.Pairwise (· < ·) → l.filter (fun b => decide (b ≤ t)) = l.take (l.filter fun b => decide (b ≤ t)).length
  | [], _ => rfl
  | a :: l, h => by
    obtain ⟨h1, h2⟩ := List.pairwise_cons.mp h
    by_cases q : a ≤ t
    · rw [List.filter_cons_of_pos (by simpa using q), List.length_cons, List.take_succ_cons, ← filter_prefix h2]
    · have e : l.filter (fun b => decide (b ≤ t)) = [] := List.filter_eq_nil_iff.mpr fun b hb => by
        have := h1 b hb
        simp
        omega
      rw [List.filter_cons_of_neg (by simpa using q), e]
      rfl
theorem lastAt_filter (t : Int) : ∀ (l : List (Addr × RN)) (f : Addr × RN), (lastAt t f l).2.s = ((l.map fun q => q.2.s).filter fun b => decide (b ≤ t)).getLastD f.2.s
  | [], f => rfl
  | q :: l, f => by
    show (lastAt t (if q.2.s ≤ t then q else f) l).2.s = _
    rw [lastAt_filter t l, List.map_cons]
    by_cases e : q.2.s ≤ t
    · rw [if_pos e, List.filter_cons_of_pos (by simpa using e), List.getLastD_cons]
    · rw [if_neg e, List.filter_cons_of_neg (by simpa using e)]
theorem due_last {ts : List Int} {t : Int} {q : Addr × RN} {l : List (Addr × RN)} (ok : TkOk ts) (h : l.map (fun q => q.2.s) = ts) (t0 : 0 ≤ t) : ∃ j : Nat, dueAt ts t = (j : Int) ∧ ts[j]? = some (lastAt t q l).2.s := by
  have hp := filter_prefix (t := t) ok.pw
  have h0 : (0 : Int) ∈ ts := List.mem_of_mem_head? (by rw [ok.hd]; rfl)
  have hm : (0 : Int) ∈ ts.filter fun b => decide (b ≤ t) := List.mem_filter.mpr ⟨h0, by simpa using t0⟩
  have hl : 0 < (ts.filter fun b => decide (b ≤ t)).length := List.length_pos_of_mem hm
  refine ⟨(ts.filter fun b => decide (b ≤ t)).length - 1, by unfold dueAt; omega, ?_⟩
  rw [lastAt_filter, h]
  generalize hf : ts.filter (fun b => decide (b ≤ t)) = F at hp hl
  have e1 : F[F.length - 1]? = some (F.getLastD q.2.s) := by
    cases F with
    | nil => simp at hl
    | cons a F =>
      rw [← List.getLast?_eq_getElem?, List.getLastD_eq_getLast?]
      cases h : (a :: F).getLast? with
      | none => simp at h
      | some z => rfl
  rw [← e1]
  have e2 : F[F.length - 1]? = (ts.take F.length)[F.length - 1]? := by rw [← hp]
  rw [e2, List.getElem?_take, if_pos (by omega)]
theorem rdFrom_filter (z : Str) (rs : List RD) : rdFrom z 0 rs = ((List.range rs.length).filter fun i => decide ((rs[i]?).map (·.b) = some z)).map fun (i : Nat) => (i : Int) := by
  have h : ∀ n, n ≤ rs.length → rdFrom z 0 (rs.take n) = ((List.range n).filter fun i => decide ((rs[i]?).map (·.b) = some z)).map fun (i : Nat) => (i : Int) := by
    intro n
    induction n with
    | zero => intro _; rfl
    | succ n ih =>
      intro hn
      have hr : rs[n]? = some rs[n] := List.getElem?_eq_getElem hn
      rw [List.take_succ, hr, range_filter_succ, List.map_append, ← ih (by omega), Option.toList_some, rdFrom_snoc, List.length_take, Nat.zero_add, Nat.min_eq_left (by omega), hr]
      by_cases e : rs[n].b = z
      · rw [if_pos e, if_pos (by simp [e])]
        rfl
      · rw [if_neg e, if_neg (by simp [e])]
        rfl
  have := h rs.length (Nat.le_refl _)
  rwa [List.take_length] at this
theorem lastAt_mem (t : Int) : ∀ (l : List (Addr × RN)) (f : Addr × RN), lastAt t f l = f ∨ lastAt t f l ∈ l
  | [], f => .inl rfl
  | q :: l, f => by
    show lastAt t (if q.2.s ≤ t then q else f) l = f ∨ _
    rcases lastAt_mem t l (if q.2.s ≤ t then q else f) with h | h
    · by_cases e : q.2.s ≤ t
      · rw [if_pos e] at h
        right
        show lastAt t (if q.2.s ≤ t then q else f) l ∈ _
        rw [if_pos e, h]
        exact List.mem_cons_self ..
      · rw [if_neg e] at h ⊢
        exact .inl h
    · exact .inr (List.mem_cons_of_mem _ h)
def prV : Option (Int × Int) → List V
  | some p => [.int p.1, .int p.2]
  | none => []
theorem NmP.ok {z : Str} (h : NmP z) : PyData.strOk z = true := by
  unfold PyData.strOk
  rw [Array.all_eq_true_iff_forall_mem]
  intro c hc
  have := LT_mem.mp (h.sg c (by simpa using hc))
  simp
  omega
end TP

namespace TP
open PySem PySem.Spec PyProof.Rows L2
/-! ### a comprehension that lays an object at each turn -/
theorem lc_objs {J : It} {n : Nat} {G : Hp → Prop} {Y : Nat → Hp → V → Hp → Prop} (w : Walk J n G Y) {g : TG} {tt : TT} {te : TE} {vs : List Nat} {σ : L2.St} {H1 : Hp} {D : Addr} {Qd : Hp → Prop} (F : Nat → HO → Prop) (hF : ∀ i xs, ¬ F i (.lst xs))
    (hD : H1 D = none) (hn : n < 1000000) (hG : ∀ H, Evl.Ex H1 H → G H)
    (hs : ∀ (i : Nat) (x : V) (H H' : Hp) (C : V → Hp → Prop) (N : Hp → Prop), i < n → Evl.Ex H1 H → Y i H x H' → (∀ p H4 o, H p = none → Evl.Ex H H4 → H4 p = some o → F i o → C (.ref p) H4) →
      g x (wipe σ vs) H' fun σ2 H2 => wipe σ2 vs = wipe σ vs ∧ tt σ2 H2 fun b H3 => if b = true then te σ2 H3 C else N H3)
    (hd : ∀ H' (as : List Addr), Evl.Ex H1 H' → H' D = some (.lst (as.map V.ref)) → as.length = n → (∀ (j : Nat) a, as[j]? = some a → (∃ o, H' a = some o ∧ F j o) ∧ H1 a = none) → Qd H') :
    ∃ W : Nat → Nat → Hp → Prop, (∃ m, W 0 m (upd H1 D (.lst []))) ∧ ∀ i m H, W i m H →
      (J.stop i H ∧ Qd H) ∨ (J.go i H ∧ ∃ Nx : Hp → Prop, (∀ H', Nx H' → ∃ m', m' < m ∧ W (i + 1) m' H') ∧ ∀ x H', J.yld i H x H' → g x (wipe σ vs) H' fun σ2 H2 => wipe σ2 vs = wipe σ vs ∧ tt σ2 H2 fun b H3 =>
        if b = true then te σ2 H3 fun y H4 => ∃ acc, H4 D = some (.lst acc) ∧ acc.length < sizeLine ∧ Nx (upd H4 D (.lst (acc ++ [y]))) else Nx H3) := by
  refine lc_it w (fun i H => Evl.Ex H1 H ∧ ∃ as : List Addr, H D = some (.lst (as.map V.ref)) ∧ as.length = i ∧ ∀ (j : Nat) a, as[j]? = some a → (∃ o, H a = some o ∧ F j o) ∧ H1 a = none) ⟨Evl.Ex.new hD, [], upd_same, rfl, fun j a h => nil_at h⟩ (fun i H _ q => hG H q.1) (fun i x H H' hi q y => ?_) (fun H q => ?_)
  · obtain ⟨e, as, ha, hl, hf⟩ := q
    refine hs i x H H' _ _ hi e y fun p H4 o hp e4 h4 ho => ⟨_, e4 _ _ ha, ?_, fun b o hb => ?_, as ++ [p], ?_, by simp [hl], fun j a hj => ?_⟩
    · rw [List.length_map, hl]
      have : sizeLine = 16777216 := sizeLine_eq
      omega
    · rw [upd_ne (ne_of_none hb hD)]
      exact e4 _ _ (e _ _ hb)
    · rw [upd_same, List.map_append]
      rfl
    · have hpD : p ≠ D := Ne.symm (ne_of_none ha hp)
      rcases snoc_at hj with h | ⟨h1, h2⟩
      · obtain ⟨⟨o1, f1, f3⟩, f2⟩ := hf j a h
        have : a ≠ D := ne_of f1 ha (fun z => hF j _ (z ▸ f3))
        rw [upd_ne this]
        exact ⟨⟨o1, e4 _ _ f1, f3⟩, f2⟩
      · rw [h2, h1, hl, upd_ne hpD]
        exact ⟨⟨o, h4, ho⟩, Ex.free e hp⟩
  · obtain ⟨e, as, ha, hl, hf⟩ := q
    exact hd H as e ha hl hf
/-! ### lands made, all being right -/
theorem LandNw.ex {K : PySem.W.Frag} {H0 H H' : Hp} {a : Addr} {L : LandD} (h : LandNw K H0 H a L) (e : Evl.Ex H H') : LandNw K H0 H' a L := by
  obtain ⟨dx, ht, st, rt, ut, h, n⟩ := h
  exact ⟨dx, ht, st, rt, ut, h.ex e, n⟩
theorem LandNw.base {K : PySem.W.Frag} {H0 H1 H : Hp} {a : Addr} {L : LandD} (h : LandNw K H1 H a L) (e : Evl.Ex H0 H1) : LandNw K H0 H a L := by
  obtain ⟨dx, ht, st, rt, ut, h, n⟩ := h
  exact ⟨dx, ht, st, rt, ut, h, Ex.free e n⟩
theorem LandNw.put {K : PySem.W.Frag} {H0 H : Hp} {a b : Addr} {L : LandD} {o u v : HO} (h : LandNw K H0 H a L) (h0 : H0 b = some v) (hb : H b = some u) (l : Loose u) : LandNw K H0 (upd H b o) a L := by
  obtain ⟨dx, ht, st, rt, ut, h, n⟩ := h
  exact ⟨dx, ht, st, rt, ut, h.put hb l (Ne.symm (ne_of_none h0 n)), n⟩
theorem LandNw.ne {K : PySem.W.Frag} {H0 H : Hp} {a b : Addr} {L : LandD} {v : HO} (h : LandNw K H0 H a L) (h0 : H0 b = some v) : LandNe K H a L b := by
  obtain ⟨dx, ht, st, rt, ut, h, n⟩ := h
  exact ⟨dx, ht, st, rt, ut, h, Ne.symm (ne_of_none h0 n)⟩
theorem made_new {H : Hp} {x dx : Addr} {o o' : HO} (hx : H x = none) (hd : H dx = none) : Evl.Ex H (upd (upd H dx o') x o) := fun b u hb => by
  rw [upd_ne (ne_of_none hb hx), upd_ne (ne_of_none hb hd)]
  exact hb
theorem make_land {K : PySem.W.Frag} {H : Hp} {x dx ha sa ra ua : Addr} {L : LandD} {Q : Hp → Prop} (hx : H x = none) (hd : H dx = none) (nLR : He.ga K "Land" ≠ He.ga K "Rule") (IN : LandIn K H ha sa ra ua L) (bn : bnOk L.bn = true) (ro : ruOk L.uq = true) (ti : Tied L.hs (rdP L.rq))
    (k : ∀ H' uq, Evl.Ex H H' → (L.uq ≠ [] → uq = L.uq) → (L.uq = [] → ∃ u, uq = [(u, r0)]) → LandNw K H H' x { L with uq := uq } → Q H') :
    spLandX K [.ref x, .ref ha, .ref sa, .ref ra, .int L.bn, .ref ua] (upd (upd H dx (.own x)) x (.ins (He.ga K "Land") dx [])) (fun v H' => v = .non ∧ Q H') fun _ _ _ => False := by
  refine ⟨x, dx, ha, sa, ra, ua, L, rfl, upd_same, nLR, IN.ex (made_new hx hd), fun _ _ _ H' uq wk h1 h2 LA => ⟨rfl, k H' uq (made_ex hx hd wk) h1 (fun h => by obtain ⟨u, _, e⟩ := h2 h; exact ⟨u, e⟩) (LA.base (made_new hx hd))⟩, fun w hw => ?_⟩
  exfalso
  rcases hw with ⟨h, _⟩ | ⟨_, h, _⟩ | ⟨_, _, h, _⟩
  · rw [bn] at h; cases h
  · rw [ro] at h; cases h
  · exact h ti
/-! ### what a land is made of, and held against -/
structure Bs (H : Hp) (ha sa pa ta : Addr) (hs : List Str) (ss : List (Str × Str)) (rq : List (Addr × RD)) (ts : List Int) : Prop where
  h : H ha = some (.lst (hs.map V.str))
  s : H sa = some (.dK (ssK ss))
  r : H pa = some (.lst (rqV rq))
  rs : ∀ q ∈ rq, H q.1 = some (.tup q.2.vs)
  t : H ta = some (.lst (ts.map V.int))
  hok : HsOk hs
  sok : SsOk hs ss
  rok : ∀ q ∈ rq, q.2.ok hs ∧ RB q.2
  rl : rq.length ≤ 16
  tok : TkOk ts
  ti : Tied hs (rdP rq)
theorem Bs.ex {H H' : Hp} {ha sa pa ta : Addr} {hs : List Str} {ss : List (Str × Str)} {rq : List (Addr × RD)} {ts : List Int} (b : Bs H ha sa pa ta hs ss rq ts) (e : Evl.Ex H H') : Bs H' ha sa pa ta hs ss rq ts :=
  ⟨e _ _ b.h, e _ _ b.s, e _ _ b.r, fun q hq => e _ _ (b.rs q hq), e _ _ b.t, b.hok, b.sok, b.rok, b.rl, b.tok, b.ti⟩
theorem Bs.put {H : Hp} {ha sa pa ta c : Addr} {o u : HO} {hs : List Str} {ss : List (Str × Str)} {rq : List (Addr × RD)} {ts : List Int} (b : Bs H ha sa pa ta hs ss rq ts) (hc : H c = some u) (l : Loose u) (n1 : ha ≠ c) (n2 : sa ≠ c) (n3 : pa ≠ c) (n4 : ta ≠ c) : Bs (upd H c o) ha sa pa ta hs ss rq ts :=
  ⟨by rw [upd_ne n1]; exact b.h, by rw [upd_ne n2]; exact b.s, by rw [upd_ne n3]; exact b.r, fun q hq => at_put (b.rs q hq) hc (l.tup _), by rw [upd_ne n4]; exact b.t, b.hok, b.sok, b.rok, b.rl, b.tok, b.ti⟩
theorem Bs.rt {K : PySem.W.Frag} {H H0 : Hp} {la ha sa pa ta tb : Addr} {bn : Int} {L : LandD} {hs : List Str} {ss : List (Str × Str)} {rq : List (Addr × RD)} {ts tc : List Int} {v : HO} (b : Bs H ha sa pa ta hs ss rq ts) (l : LandNw K H0 H la L) (h0 : H0 sa = some v) (t : H tb = some (.lst (tc.map V.int))) (tok : TkOk tc)
    (eh : L.hs = hs) (es : L.ss = ss) (er : L.rq.map (·.2) = rq.map (·.2)) (eb : L.bn = bn) (eu : uqT L.uq = tc.map fun t => (t, t % 7)) (b0 : 0 ≤ bn) (b9 : bn ≤ 9) : RtIn K H la ha sa pa tb bn L hs ss rq tc :=
  ⟨l.ne h0, SqL.of b.h, b.s, SqL.of b.r, fun q hq => SqT.of (b.rs q hq), SqL.of t, eh, es, er, eb, eu, b.hok, b.sok, b.rok, b.rl, b0, b9, tok⟩
theorem tok0 : TkOk [0] := ⟨rfl, by simp, fun t ht => by
  obtain rfl : t = 0 := by simpa using ht
  exact ⟨by decide, by decide⟩, by decide⟩
theorem rising_pw : ∀ {l : List Int}, l.Pairwise (· < ·) → rising l = true
  | [], _ => rfl
  | [_], _ => rfl
  | a :: b :: l, h => by
    obtain ⟨h1, h2⟩ := List.pairwise_cons.mp h
    show (decide (a < b) && rising (b :: l)) = true
    rw [rising_pw h2, decide_eq_true (h1 b (List.mem_cons_self ..))]
    rfl
theorem tk_rules {ts : List Int} (h : TkOk ts) : rulesOk ts = true := by
  cases e : ts with
  | nil => have := h.hd; rw [e] at this; cases this
  | cons t l =>
    have h1 := h.hd
    have h2 := h.pw
    rw [e] at h1 h2
    obtain rfl : t = 0 := Option.some.inj h1
    show (decide ((0 : Int) = 0) && rising (0 :: l)) = true
    rw [rising_pw h2]
    rfl
theorem make_rule {K : PySem.W.Frag} {H : Hp} {x dx : Addr} {t b : Int} {Q : Hp → Prop} (hx : H x = none) (hd : H dx = none) (t0 : 0 ≤ t) (b0 : 0 ≤ b) (k : ∀ H', Evl.Ex H H' → H' x = some (.ins (He.ga K "Rule") dx (RN.fs ⟨t, b, 1, 0, 0, 0, 0⟩)) → Q H') :
    spRuleX K [.ref x, .int t, .int b, .int 1, .int 0, .int 0, .int 0, .int 0] (upd (upd H dx (.own x)) x (.ins (He.ga K "Rule") dx [])) (fun v H' => v = .non ∧ Q H') fun _ _ _ => False := by
  have nb : badOf LSl [.int t, .int b, .int 1, .int 0, .int 0, .int 0, .int 0] = none := by
    show (if decide (0 ≤ t) = true then (if decide (0 ≤ b) = true then _ else _) else _) = none
    rw [decide_eq_true t0, decide_eq_true b0]
    rfl
  refine ⟨x, dx, _, _, _, _, _, _, _, [.int t, .int b, .int 1, .int 0, .int 0, .int 0, .int 0], rfl, .cons (.int _) (.cons (.int _) (.cons (.int _) (.cons (.int _) (.cons (.int _) (.cons (.int _) (.cons (.int _) .nil)))))), upd_same, fun _ H' wk h => ⟨rfl, k H' (made_ex hx hd wk) h⟩, fun z hz => ?_⟩
  rw [nb] at hz
  cases hz
def rOf (t : Int) : RN := ⟨t, t % 7, 1, 0, 0, 0, 0⟩
theorem zip_fst {as : List Addr} {rs : List RN} (h : as.length = rs.length) : uqV (as.zip rs) = as.map V.ref := by
  unfold uqV
  rw [show (fun q : Addr × RN => V.ref q.1) = V.ref ∘ Prod.fst from rfl, ← List.map_map, List.map_fst_zip (by omega)]
theorem zip_uqT {as : List Addr} {ts : List Int} (h : as.length = ts.length) : uqT (as.zip (ts.map rOf)) = ts.map fun t => (t, t % 7) := by
  unfold uqT
  rw [show (fun q : Addr × RN => (q.2.s, q.2.b)) = (fun r : RN => (r.s, r.b)) ∘ Prod.snd from rfl, ← List.map_map, List.map_snd_zip (by rw [List.length_map]; omega), List.map_map]
  rfl
theorem zip_s {as : List Addr} {ts : List Int} (h : as.length = ts.length) : (as.zip (ts.map rOf)).map (fun q => q.2.s) = ts := by
  rw [show (fun q : Addr × RN => q.2.s) = (fun r : RN => r.s) ∘ Prod.snd from rfl, ← List.map_map, List.map_snd_zip (by rw [List.length_map]; omega), List.map_map]
  exact List.map_id ts
theorem ruOk_of {uq : List (Addr × RN)} {ts : List Int} (h : uq.map (fun q => q.2.s) = ts) (ok : TkOk ts) : ruOk uq = true ∧ uq ≠ [] := by
  have h0 := ok.hd
  rw [← h] at h0
  cases e : uq with
  | nil => rw [e] at h0; cases h0
  | cons q l =>
    refine ⟨?_, fun z => nomatch z⟩
    show rulesOk ((q :: l).map fun q => q.2.s) = true
    rw [← e, h]
    exact tk_rules ok
theorem bnOk_of {b : Int} (h : 2 ≤ b) (h2 : b ≤ 5) : bnOk b = true := by
  show (decide (2 ≤ b) && decide (b ≤ 5)) = true
  rw [decide_eq_true h, decide_eq_true h2]
  rfl
/-- three lands, what they were made of, one more list -/
structure S6 (K : PySem.W.Frag) (Hb H : Hp) (ha sa pa ta l : Addr) (hs : List Str) (ss : List (Str × Str)) (rq : List (Addr × RD)) (ts : List Int) (cs : List V) (la lb lc : Addr) (L1 L2 L3 : LandD) : Prop where
  b : Bs H ha sa pa ta hs ss rq ts
  l1 : LandNw K Hb H la L1
  l2 : LandNw K Hb H lb L2
  l3 : LandNw K Hb H lc L3
  hl : H l = some (.lst cs)
theorem S6.ex {K : PySem.W.Frag} {Hb H H' : Hp} {ha sa pa ta l : Addr} {hs : List Str} {ss : List (Str × Str)} {rq : List (Addr × RD)} {ts : List Int} {cs : List V} {la lb lc : Addr} {L1 L2 L3 : LandD} (s : S6 K Hb H ha sa pa ta l hs ss rq ts cs la lb lc L1 L2 L3) (e : Evl.Ex H H') : S6 K Hb H' ha sa pa ta l hs ss rq ts cs la lb lc L1 L2 L3 :=
  ⟨s.b.ex e, s.l1.ex e, s.l2.ex e, s.l3.ex e, e _ _ s.hl⟩
theorem S6.put {K : PySem.W.Frag} {Hb H : Hp} {ha sa pa ta l c : Addr} {hs : List Str} {ss : List (Str × Str)} {rq : List (Addr × RD)} {ts : List Int} {cs : List V} {la lb lc : Addr} {L1 L2 L3 : LandD} {o u v : HO} (s : S6 K Hb H ha sa pa ta l hs ss rq ts cs la lb lc L1 L2 L3) (h0 : Hb c = some v) (hc : H c = some u) (lo : Loose u)
    (n : ha ≠ c ∧ sa ≠ c ∧ pa ≠ c ∧ ta ≠ c ∧ l ≠ c) : S6 K Hb (upd H c o) ha sa pa ta l hs ss rq ts cs la lb lc L1 L2 L3 :=
  ⟨s.b.put hc lo n.1 n.2.1 n.2.2.1 n.2.2.2.1, s.l1.put h0 hc lo, s.l2.put h0 hc lo, s.l3.put h0 hc lo, by rw [upd_ne n.2.2.2.2]; exact s.hl⟩
theorem Bs.nes {H : Hp} {ha sa pa ta c l : Addr} {hs : List Str} {ss : List (Str × Str)} {rq : List (Addr × RD)} {ts : List Int} {cs : List V} (b : Bs H ha sa pa ta hs ss rq ts) (hl : H l = some (.lst cs)) (hc : H c = none) : ha ≠ c ∧ sa ≠ c ∧ pa ≠ c ∧ ta ≠ c ∧ l ≠ c :=
  ⟨ne_of_none b.h hc, ne_of_none b.s hc, ne_of_none b.r hc, ne_of_none b.t hc, ne_of_none hl hc⟩
theorem nmLane : NmP "lane" := isNm_iff.mp (by decide +kernel)
theorem hs_cons {hs : List Str} (h : HsOk hs) : ∃ z r, hs = z :: r ∧ NmP z := by
  cases e : hs with
  | nil => have := h.lo; rw [e] at this; exact absurd this (by decide)
  | cons z r => exact ⟨z, r, rfl, h.nm z (by rw [e]; exact List.mem_cons_self ..)⟩
theorem cutV_one {v : V} {xs : List V} : cutV (v :: xs) none (some 1) = [v] := by
  unfold cutV
  rw [HT.sIx_none, show (some (1 : Int)) = some ((1 : Nat) : Int) from rfl, HT.sIx_nat]
  simp
theorem lone_ok {z : Str} (n : NmP z) : HsOk [z] ∧ SsOk [z] [("lane", z)] := by
  refine ⟨⟨by simp, by simp, fun y hy => ?_, by simp⟩, ⟨by simp, by simp, fun q hq => ?_, by simp⟩⟩
  · obtain rfl : y = z := by simpa using hy
    exact n
  · obtain rfl : q = ((("lane" : Str)), z) := by simpa using hq
    exact ⟨nmLane, n, by simp⟩
end TP

namespace TP
open PySem PySem.Spec PyProof.Rows L2
/-- a list of pairs of unlike ones of some -/
structure Fq (H : Hp) (fl : Addr) (os : List Str) (fq : List (Addr × Str × Str)) : Prop where
  f : H fl = some (.lst (pqV fq))
  q : ∀ q ∈ fq, H q.1 = some (.tup [.str q.2.1, .str q.2.2]) ∧ q.2.1 ∈ os ∧ q.2.2 ∈ os ∧ q.2.1 ≠ q.2.2
theorem Fq.ex {H H' : Hp} {fl : Addr} {os : List Str} {fq : List (Addr × Str × Str)} (h : Fq H fl os fq) (e : Evl.Ex H H') : Fq H' fl os fq :=
  ⟨e _ _ h.f, fun q hq => ⟨e _ _ (h.q q hq).1, (h.q q hq).2⟩⟩
theorem wl_tup {H : Hp} {w p : Addr} {n : Nat} {xs : List V} (h : Wl H w n) (hp : H p = some (HO.tup xs)) : p ≠ w := by
  obtain ⟨x, y, c, e, _⟩ := h
  exact ne_of hp e fun z => nomatch z
theorem Fq.dn {H H' : Hp} {fl w : Addr} {m n : Nat} {os : List Str} {fq : List (Addr × Str × Str)} (h : Fq H fl os fq) (d : Dn w m H H') (wl : Wl H w n) (nf : fl ≠ w) : Fq H' fl os fq :=
  ⟨d.k _ _ nf h.f, fun q hq => ⟨d.k _ _ (wl_tup wl (h.q q hq).1) (h.q q hq).1, (h.q q hq).2⟩⟩
theorem Fq.cat {H : Hp} {fl gl hl : Addr} {os : List Str} {fq gq : List (Addr × Str × Str)} (h : Fq H fl os fq) (g : Fq H gl os gq) (hh : H hl = none) : Fq (upd H hl (.lst (pqV fq ++ pqV gq))) hl os (fq ++ gq) := by
  refine ⟨?_, fun q hq => ?_⟩
  · rw [upd_same]
    unfold pqV
    rw [List.map_append]
  · have : H q.1 = some (.tup [.str q.2.1, .str q.2.2]) ∧ q.2.1 ∈ os ∧ q.2.2 ∈ os ∧ q.2.1 ≠ q.2.2 := (List.mem_append.mp hq).elim (h.q q) (g.q q)
    exact ⟨(Evl.Ex.new hh) _ _ this.1, this.2⟩
def atS (os : List Str) (z : Int) : Str := (atI os z).getD ""
theorem atS_spec {os : List Str} {z : Int} (h1 : -(os.length : Int) ≤ z) (h2 : z < (os.length : Int)) : atI (os.map V.str) z = some (.str (atS os z)) ∧ ∃ j : Nat, os[j]? = some (atS os z) ∧ ((j : Int) = z ∨ (j : Int) = z + os.length) := by
  have hl : (os.map V.str).length = os.length := List.length_map ..
  by_cases h0 : 0 ≤ z
  · obtain ⟨j, rfl⟩ := Int.eq_ofNat_of_zero_le h0
    have hj : j < os.length := by omega
    have e := List.getElem?_eq_getElem hj
    have ea : atS os (j : Int) = os[j] := by unfold atS; rw [atI_nat e]; rfl
    exact ⟨atI_nat (by rw [List.getElem?_map, e, ea]; rfl), j, by rw [ea]; exact e, .inl rfl⟩
  · obtain ⟨j, hj⟩ := Int.eq_ofNat_of_zero_le (show 0 ≤ z + (os.length : Int) by omega)
    have hj' : j < os.length := by omega
    have e := List.getElem?_eq_getElem hj'
    have ea : atS os z = os[j] := by unfold atS; rw [atI_neg (j := j) (by omega) hj e]; rfl
    exact ⟨atI_neg (j := j) (by omega) (by rw [hl]; exact hj) (by rw [List.getElem?_map, e, ea]; rfl), j, by rw [ea]; exact e, .inr hj.symm⟩
theorem atS_at {os : List Str} {z : Int} (h1 : -(os.length : Int) ≤ z) (h2 : z < (os.length : Int)) : atI (os.map V.str) z = some (.str (atS os z)) := (atS_spec h1 h2).1
theorem atS_mem {os : List Str} {z : Int} (h1 : -(os.length : Int) ≤ z) (h2 : z < (os.length : Int)) : atS os z ∈ os := by
  obtain ⟨j, h, _⟩ := (atS_spec h1 h2).2
  exact List.mem_of_getElem? h
theorem atS_ne {os : List Str} {y z : Int} (nd : os.Nodup) (h1 : -(os.length : Int) ≤ z) (h2 : z < (os.length : Int)) (g1 : -(os.length : Int) ≤ y) (g2 : y < (os.length : Int)) (n : y ≠ z) (n1 : y + os.length ≠ z) (n2 : y ≠ z + os.length) : atS os y ≠ atS os z := by
  obtain ⟨j, h, hj⟩ := (atS_spec h1 h2).2
  obtain ⟨i, g, hi⟩ := (atS_spec g1 g2).2
  exact nodup_at nd g h (by omega)
theorem mkFq {H : Hp} {D : Addr} {os : List Str} {as : List Addr} (P : Nat → Str × Str) (hD : H D = some (.lst (as.map V.ref))) (af : ∀ (j : Nat) a, as[j]? = some a → H a = some (.tup [.str (P j).1, .str (P j).2])) (hP : ∀ j, j < as.length → (P j).1 ∈ os ∧ (P j).2 ∈ os ∧ (P j).1 ≠ (P j).2) :
    ∃ fq, Fq H D os fq ∧ fq.length = as.length := by
  refine ⟨as.mapIdx fun j a => (a, P j), ⟨?_, fun q hq => ?_⟩, by simp⟩
  · rw [hD]
    unfold pqV
    congr 2
    refine List.ext_getElem? fun j => ?_
    simp
    rfl
  · obtain ⟨j, hj⟩ := List.mem_iff_getElem?.mp hq
    rw [List.getElem?_mapIdx] at hj
    cases e : as[j]? with
    | none => rw [e] at hj; cases hj
    | some a =>
      rw [e] at hj
      obtain rfl : (a, P j) = q := Option.some.inj hj
      exact ⟨af j a e, hP j (List.getElem?_eq_some_iff.mp e).1⟩
theorem Fq.one {H : Hp} {t l : Addr} {os : List Str} {x y : Str} (ht : H t = some (.tup [.str x, .str y])) (hl : H l = some (.lst [.ref t])) (hx : x ∈ os) (hy : y ∈ os) (n : x ≠ y) : Fq H l os [(t, x, y)] :=
  ⟨hl, fun q hq => by
    obtain rfl : q = (t, x, y) := by simpa using hq
    exact ⟨ht, hx, hy, n⟩⟩
theorem Fq.sub {H H' : Hp} {fl gl : Addr} {os : List Str} {fq gq : List (Addr × Str × Str)} (h : Fq H fl os fq) (e : ∀ q ∈ gq, H' q.1 = H q.1) (hs : ∀ q ∈ gq, q ∈ fq) (hl : H' gl = some (.lst (pqV gq))) : Fq H' gl os gq :=
  ⟨hl, fun q hq => by rw [e q hq]; exact h.q q (hs q hq)⟩
def PrMid (H : Hp) (w ol : Addr) (d : Int) (os : List Str) (m : Nat) (σ : L2.St) (H' : Hp) : Prop := ∃ (fl : Addr) (fq : List (Addr × Str × Str)) (u4 u5 u6 : Option V), σ = [some (.ref w), some (.ref ol), some (.int d), some (.ref fl), u4, u5, u6] ∧ Dn w m H H' ∧ H fl = none ∧ fl ≠ w ∧ Fq H' fl os fq ∧ fq.length ≤ 20
theorem pq_cut {gq : List (Addr × Str × Str)} {lo hi : Option Int} : ∃ gq', cutV (pqV gq) lo hi = pqV gq' ∧ (∀ q ∈ gq', q ∈ gq) ∧ gq'.length ≤ gq.length := by
  unfold cutV pqV
  refine ⟨(gq.drop (HT.sIx (gq.map fun q => V.ref q.1).length 0 lo)).take (HT.sIx (gq.map fun q => V.ref q.1).length (gq.map fun q => V.ref q.1).length hi - HT.sIx (gq.map fun q => V.ref q.1).length 0 lo), ?_, fun q hq => ?_, ?_⟩
  · rw [List.map_take, List.map_drop]
  · exact List.mem_of_mem_drop (List.mem_of_mem_take hq)
  · rw [List.length_take, List.length_drop]
    omega
theorem pq_erase : ∀ (fq : List (Addr × Str × Str)) (k : Nat), pqV (fq.eraseIdx k) = (pqV fq).eraseIdx k
  | [], k => rfl
  | q :: fq, 0 => rfl
  | q :: fq, k + 1 => by
    show V.ref q.1 :: pqV (fq.eraseIdx k) = V.ref q.1 :: (pqV fq).eraseIdx k
    rw [pq_erase fq k]
theorem seqIx {d : Int} {n : Nat} (h0 : 0 ≤ d) (h1 : d < n) : seqIndex? d n = some d.toNat := by
  unfold seqIndex?
  simp
  omega
def spPairs (K : PySem.W.Frag) : Sp := fun vs H Q _ => ∃ (w ol : Addr) (n : Nat) (os : List Str), vs = [.ref w, .ref ol] ∧ Wl H w n ∧ n < 700000 ∧ H ol = some (.lst (os.map V.str)) ∧ ol ≠ w ∧ os.Nodup ∧ 2 ≤ os.length ∧ os.length ≤ 8 ∧
  ∀ (fl : Addr) (fq : List (Addr × Str × Str)) (H' : Hp), Dn w (n + 50) H H' → H fl = none → fl ≠ w → Fq H' fl os fq → fq.length ≤ 20 → Q (.ref fl) H'
/-- the houses that pairs lead to from one; some may stand in it twice -/
def spLReach (K : PySem.W.Frag) : Sp := fun vs H Q _ => ∃ (pl : Addr) (pq : List (Addr × Str × Str)) (h : Str) (hs : List Str), vs = [.ref pl, .str h] ∧ H pl = some (.lst (pqV pq)) ∧ (∀ q ∈ pq, H q.1 = some (.tup [.str q.2.1, .str q.2.2])) ∧ pq.length ≤ 16 ∧ hs.length ≤ 8 ∧ h ∈ hs ∧ (∀ q ∈ pq, q.2.2 ∈ hs) ∧
  ∀ (l : Addr) (f : List Str) H', Evl.Ex H H' → H' l = some (.lst (f.map V.str)) → (∀ z, z ∈ f ↔ Rc (pqP pq) h z) → f.length ≤ 17 → Q (.ref l) H'
theorem range_filter_get {α β : Type} (p : α → Bool) (F : α → β) (d : α) (l : List α) : ((List.range l.length).filter fun i => p (l.getD i d)).map (fun i => F (l.getD i d)) = (l.filter p).map F := by
  have h : ∀ n, n ≤ l.length → ((List.range n).filter fun i => p (l.getD i d)).map (fun i => F (l.getD i d)) = ((l.take n).filter p).map F := by
    intro n
    induction n with
    | zero => intro _; rfl
    | succ n ih =>
      intro hn
      have hr : l[n]? = some l[n] := List.getElem?_eq_getElem hn
      have hg : l.getD n d = l[n] := by rw [List.getD_eq_getElem?_getD, hr]; rfl
      rw [range_filter_succ, List.map_append, ih (by omega), List.take_succ, hr, Option.toList_some, List.filter_append, List.map_append, hg]
      congr 1
      by_cases e : p l[n] = true
      · rw [if_pos e, List.filter_cons_of_pos e, List.map_cons, hg]; rfl
      · rw [if_neg e, List.filter_cons_of_neg e]; rfl
  have := h l.length (Nat.le_refl _)
  rwa [List.take_length] at this
def nout (hs : List Str) (xs : List V) : Nat := (hs.filter fun z => !inV (.str z) xs).length
theorem nout_le {hs f g : List Str} (sub : ∀ z ∈ f, z ∈ g) : nout hs (g.map V.str) ≤ nout hs (f.map V.str) := by
  unfold nout
  rw [← List.countP_eq_length_filter, ← List.countP_eq_length_filter]
  refine List.countP_mono_left fun z _ h => ?_
  rw [inV_str] at h ⊢
  simp at h ⊢
  exact fun q => h (sub z q)
theorem nout_lt {hs f g : List Str} {x : Str} (sub : ∀ z ∈ f, z ∈ g) (hx : x ∈ hs) (nf : x ∉ f) (hg : x ∈ g) : nout hs (g.map V.str) < nout hs (f.map V.str) := by
  unfold nout
  induction hs with
  | nil => cases hx
  | cons y hs ih =>
    have le := nout_le (hs := hs) sub
    unfold nout at le
    rw [List.filter_cons, List.filter_cons]
    rw [inV_str, inV_str]
    by_cases e : y = x
    · subst e
      rw [if_neg (by simp [hg]), if_pos (by simp [nf]), List.length_cons]
      omega
    · have hm : x ∈ hs := by
        rcases List.mem_cons.mp hx with h | h
        · exact absurd h.symm e
        · exact h
      have := ih hm
      by_cases h1 : y ∈ f
      · rw [if_neg (by simp [sub y h1]), if_neg (by simp [h1])]
        exact this
      · by_cases h2 : y ∈ g
        · rw [if_neg (by simp [h2]), if_pos (by simp [h1]), List.length_cons]
          omega
        · rw [if_pos (by simp [h2]), if_pos (by simp [h1]), List.length_cons, List.length_cons]
          omega
def rcMu (hs : List Str) : L2.St → Hp → Nat := fun σ H => match σ with
  | [_, _, some (.ref l), some (.int i), _, _] => (match H l with
    | some (.lst xs) => 20 * nout hs xs + (xs.length - i.toNat)
    | _ => 0)
  | _ => 0
theorem rcMu_at {hs : List Str} {a b u v : Option V} {l : Addr} {i : Int} {H : Hp} {xs : List V} (h : H l = some (.lst xs)) : rcMu hs [a, b, some (.ref l), some (.int i), u, v] H = 20 * nout hs xs + (xs.length - i.toNat) := by
  show (match H l with | some (.lst xs) => 20 * nout hs xs + (xs.length - i.toNat) | _ => 0) = _
  rw [h]
/-- what a land of these is refused with -/
def whyL (bn b : Int) (ti : Bool) : V := if bnOk bn = true then (if b = 0 then (if ti = true then .non else .str "ways") else .str "rules") else .str "bins"
def spLTold (K : PySem.W.Frag) : Sp := fun vs H Q _ => ∃ (ha pa : Addr) (bn b : Int) (hs : List Str) (rq : List (Addr × RD)), vs = [.ref ha, .ref pa, .int bn, .int b] ∧ H ha = some (.lst (hs.map V.str)) ∧ HsOk hs ∧ H pa = some (.lst (rqV rq)) ∧ (∀ q ∈ rq, H q.1 = some (.tup q.2.vs) ∧ q.2.ok hs) ∧ rq.length ≤ 16 ∧ 0 ≤ b ∧
  ∀ (ti : Bool) H', Evl.Ex H H' → (ti = true ↔ Tied hs (rdP rq)) → Q (whyL bn b ti) H'
theorem len_filter_split {α : Type} (p q : α → Bool) (l : List α) : (l.filter fun x => p x || q x).length = (l.filter p).length + (l.filter fun x => q x && !p x).length := by
  induction l with
  | nil => rfl
  | cons x l ih =>
    rw [List.filter_cons, List.filter_cons, List.filter_cons]
    cases hp : p x <;> cases hq : q x <;> simp <;> omega
end TP

namespace TP
open PySem PySem.Spec PyProof.Rows L2
/-! ### C(e, .., k = v, ..) within a try: what is raised is wished for at the slots -/
def tMakeKS (C : Addr) (n m : Nat) (sp : Sp) (gV : List V → List V → List V) (E : L2.St → XK) (t tk : TA) : TE := fun σ => tMakeK C n m sp gV (E σ) t tk σ
section
variable {X : Cx} {CX : CXT} {k n : Nat} {f C : Addr} {fd : FuncData} {d : He.DefD} {ps ks : List Str} {js is : List Nat} {sp : Sp} {x : Str} {p pos : Pos} {e : Expr} {es : List Expr} {kws : List Keyword} {t tk : TA} {g : List Value → List Value → List Value} {gV : List V → List V → List V}
theorem run_makeKS {E : XK} {pins : List (Addr × Obj)} {σ : L2.St} {H : Hp} {s : Shared} {Q : VK} {us ws : List Value} {vs zs : List V} (M : Mk X.K C f) (F : FnOk X.prog X.w X.K X.mg X.base CX k f fd ps sp) (hr : Room (k + 1) X.A) (hb : KBn X.K fd ps (n + 1) ks g gV) (hx : PassesAt CX X σ E)
    (I : Inv X pins σ H s) (r : Vals vs us) (rz : Vals zs ws) (l1 : vs.length = n) (l2 : zs.length = ks.length)
    (h : ∀ x dx, H x = none → H dx = none → dx ≠ x → sp (gV (.ref x :: vs) zs) (upd (upd H dx (.own x)) x (.ins C dx [])) (fun v H2 => v = .non ∧ Q (.ref x) H2) E) :
    wpAny (model X.prog X.w) X.A (call (.ref C) us (ks.zip ws)) (EP X pins σ Q) X.xe s := by
  have J := Inv.made (C := C) I
  have start := h (s.heap.objs.size + 1) s.heap.objs.size (I.hok.fresh (Nat.le_succ _)) (I.hok.fresh (Nat.le_refl _)) (Nat.ne_of_lt (Nat.lt_succ_self _))
  have len : (Value.ref (s.heap.objs.size + 1) :: us).length = n + 1 := by rw [List.length_cons, ← r.length, l1]
  have rel := hb.rel (show Vals (V.ref (s.heap.objs.size + 1) :: vs) (Value.ref (s.heap.objs.size + 1) :: us) from .cons rfl r) rz
  have bind := hb.to _ (Value.ref (s.heap.objs.size + 1) :: us) ws J.kIn len (rz.length.symm.trans l2)
  refine wpAny_call (make_map (f := f) I.kIn M.makes M.init (beq_iff_eq.mp M.fn) ?_)
  refine codeAny_mono (F.run _ X.stack _ _ ⟨_, ks.zip ws⟩ _ _ _ E (hr.make C us (ks.zip ws)) (J.env0.make C us (ks.zip ws)) bind rel start) fun z s' hq => ?_
  match z, hq with
  | .error e, hq => exact hx pins _ _ e s' J hq
  | .ok (.ret u), hq =>
    obtain ⟨v, H', I3, rv, rfl, q3⟩ := J.after hq
    exact ⟨rv, .ref _, H', I3, rfl, q3⟩
  | .ok .next, hq => exact False.elim hq
  | .ok .brk, hq => exact False.elim hq
  | .ok .cont, hq => exact False.elim hq
theorem GtF.makeKS {E : L2.St → XK} (G : GtF X.prog X.w X.K X.mg X.base CX k d ps sp) (B : Kb d ps (n + 1) ks js is) (M : Mk X.K C (He.fAd X.K d.at_)) (hm : X.mg x = some (.ref C)) (hr : Room (k + 1) X.A) (hx : ∀ σ, PassesAt CX X σ (E σ)) (ha : PA X (e :: es) t) (hkw : PK X kws tk) (hg : Gl X x := by rfl)
    (hall : (backToKw pos (keywordEach kws X.env)).all (·.1.isSome) = true := by rfl) (hks : (backToKw pos (keywordEach kws X.env)).filterMap (·.1) = ks := by rfl) (hdb : (x == ("__debug__" : Str)) = false := by decide)
    (he : starEach (e :: es) X.env = (false, eval e X.env) :: starEach es X.env := by rfl) (hpl : ((backTo pos (starEach (e :: es) X.env)).any (·.1) || (backToKw pos (keywordEach kws X.env)).any (·.1.isNone)) = false := by rfl) :
    PE X (.Call (.Name x p) (e :: es) kws pos) (tMakeKS C n ks.length sp (gK d js is X.K) E t tk) := by
  obtain ⟨fd, mv, F, hb⟩ := G.kbn B
  refine ⟨fun pins s σ H Q I h => wpAny_Call_Name_kw (ld_glob I hg hm ?_ hdb)⟩
  refine PySem.W.callWith_KW (h₀ := X.base) I.ok.mod.kin M.kp hall (thn (ha.run pos pins s σ H _ I h) fun us s1 ⟨vs, H1, I1, r, q⟩ => ?_) hpl he
  refine thn (hkw.run pos pins s1 σ H1 _ I1 q) fun ws s2 ⟨zs, H2, I2, rz, l1, l2, q2⟩ => ⟨I2.kIn, ?_⟩
  rw [hks]
  exact run_makeKS M F hr hb (hx σ) I2 r rz l1 l2 q2
theorem GtF.makeKSL (K : PySem.W.Frag) {E : L2.St → XK} (G : GtF X.prog X.w X.K X.mg X.base CX k d ps sp) (B : Kb d ps (n + 1) ks js is) (M : Mk X.K C (He.fAd X.K d.at_)) (hm : X.mg x = some (.ref C)) (hr : Room (k + 1) X.A) (hx : ∀ σ, PassesAt CX X σ (E σ)) (ha : PA X (e :: es) t) (hkw : PK X kws tk) (hK : X.K = K := by rfl) (hg : Gl X x := by rfl)
    (hall : (backToKw pos (keywordEach kws X.env)).all (·.1.isSome) = true := by rfl) (hks : (backToKw pos (keywordEach kws X.env)).filterMap (·.1) = ks := by rfl) (hdb : (x == ("__debug__" : Str)) = false := by decide)
    (he : starEach (e :: es) X.env = (false, eval e X.env) :: starEach es X.env := by rfl) (hpl : ((backTo pos (starEach (e :: es) X.env)).any (·.1) || (backToKw pos (keywordEach kws X.env)).any (·.1.isNone)) = false := by rfl) :
    PE X (.Call (.Name x p) (e :: es) kws pos) (tMakeKS C n ks.length sp (gK d js is K) E t tk) := by
  subst hK
  exact GtF.makeKS G B M hm hr hx ha hkw hg hall hks hdb he hpl
end
theorem pe_lenSetNL {X : Cx} {a : Expr} {ta : TE} {p p2 q pos : Pos} (K : PySem.W.Frag) (hc : X.calm = true) (hg : Gl X "len") (hm : X.mg "len" = none) (hg2 : Gl X "set") (hm2 : X.mg "set" = none) (ha : PE X a ta) (hK : X.K = K := by rfl)
    (na : starEach [a] X.env = (false, eval a X.env) :: starEach [] X.env := by rfl) : PE X (.Call (.Name "len" p) [.Call (.Name "set" p2) [a] [] q] [] pos) (tLenSetN K ta) := by
  subst hK
  exact pe_lenSetN hc hg hm hg2 hm2 ha na
theorem firsts_mem (xs : List Str) : (firsts xs).Nodup ∧ ∀ z, z ∈ firsts xs ↔ z ∈ xs := by
  have key : ∀ (ys acc : List Str), acc.Nodup → (ys.foldl ddK acc).Nodup ∧ ∀ z, z ∈ ys.foldl ddK acc ↔ z ∈ acc ∨ z ∈ ys := by
    intro ys
    induction ys with
    | nil => intro acc h; exact ⟨h, fun z => by simp⟩
    | cons y ys ih =>
      intro acc h
      rw [List.foldl_cons]
      unfold ddK
      by_cases q : acc.any (· == y) = true
      · rw [if_pos q]
        obtain ⟨h1, h2⟩ := ih acc h
        have hy : y ∈ acc := by
          obtain ⟨u, hu, e⟩ := List.any_eq_true.mp q
          rw [← beq_iff_eq.mp e]
          exact hu
        refine ⟨h1, fun z => (h2 z).trans ⟨fun o => o.elim .inl (fun m => .inr (List.mem_cons_of_mem _ m)), fun o => o.elim .inl (fun m => ?_)⟩⟩
        rcases List.mem_cons.mp m with rfl | m
        · exact .inl hy
        · exact .inr m
      · rw [if_neg q]
        have hy : y ∉ acc := fun m => q (List.any_eq_true.mpr ⟨y, m, beq_self_eq_true y⟩)
        obtain ⟨h1, h2⟩ := ih (acc ++ [y]) (List.nodup_append.mpr ⟨h, by simp, fun a ha b hb => by
          obtain rfl : b = y := by simpa using hb
          exact fun e => hy (e ▸ ha)⟩)
        refine ⟨h1, fun z => (h2 z).trans ?_⟩
        rw [List.mem_append, List.mem_singleton, List.mem_cons, or_assoc]
  obtain ⟨h1, h2⟩ := key xs [] List.nodup_nil
  exact ⟨h1, fun z => (h2 z).trans (by simp)⟩
theorem Rc.mono {ps qs : List (Str × Str)} {h z : Str} (s : ∀ p ∈ ps, p ∈ qs) (r : Rc ps h z) : Rc qs h z := by
  induction r with
  | here => exact .here
  | step _ m ih => exact .step ih (s _ m)
theorem Rc.trans {ps : List (Str × Str)} {a b c : Str} (r : Rc ps a b) (q : Rc ps b c) : Rc ps a c := by
  induction q with
  | here => exact r
  | step _ m ih => exact .step ih m
theorem Rc.turn {ps : List (Str × Str)} {a b : Str} (r : Rc ps a b) : Rc (sw ps) b a := by
  induction r with
  | here => exact .here
  | step _ m ih => exact Rc.trans (.step .here (List.mem_map.mpr ⟨_, m, rfl⟩)) ih
theorem sw_sw (ps : List (Str × Str)) : sw (sw ps) = ps := by
  unfold sw
  rw [List.map_map]
  exact List.map_id ps
/-- each from each, held against from the first one and back -/
theorem tied_all {hs : List Str} {ps qs : List (Str × Str)} (h1 : 1 ≤ hs.length) (e : ∀ p, p ∈ ps ↔ p ∈ qs) : (∀ h ∈ hs, ∀ z ∈ hs, Rc ps h z) ↔ Tied hs qs := by
  constructor
  · intro h h0 hh z hz
    have m0 := List.mem_of_mem_head? hh
    exact ⟨(h h0 m0 z hz).mono fun p hp => (e p).mp hp, ((h z hz h0 m0).mono fun p hp => (e p).mp hp).turn⟩
  · intro h a ha z hz
    cases hc : hs with
    | nil => rw [hc] at ha; cases ha
    | cons h0 r =>
      have q1 := h h0 (by rw [hc]; rfl) a ha
      have q2 := h h0 (by rw [hc]; rfl) z hz
      have := q1.2.turn
      rw [sw_sw] at this
      exact (Rc.trans this q2.1).mono fun p hp => (e p).mpr hp
noncomputable def tot (hs : List Str) (ps : List (Str × Str)) (h : Str) : Bool := @decide (∀ z ∈ hs, Rc ps h z) (Classical.propDecidable _)
theorem tot_iff {hs : List Str} {ps : List (Str × Str)} {h : Str} : tot hs ps h = true ↔ ∀ z ∈ hs, Rc ps h z := @decide_eq_true_iff _ (Classical.propDecidable _)
theorem tot_len {hs f : List Str} {ps : List (Str × Str)} {h : Str} (hok : hs.Nodup) (hm : h ∈ hs) (hp : ∀ q ∈ ps, q.2 ∈ hs) (hf : ∀ z, z ∈ f ↔ Rc ps h z) : decide (V.int ((firsts f).length : Nat) = V.int (hs.length : Nat)) = tot hs ps h := by
  obtain ⟨n1, n2⟩ := firsts_mem f
  have := rc_len hok hm hp n1 fun z => (n2 z).trans (hf z)
  refine Bool.eq_iff_iff.mpr ?_
  rw [tot_iff, decide_eq_true_iff, ← this]
  constructor
  · intro z
    injection z with z
    exact Int.ofNat.inj z
  · intro z
    rw [z]
theorem cut16 {xs : List V} : (cutV xs none (some 16)).length ≤ 16 := by
  unfold cutV
  rw [HT.sIx_none, show (some (16 : Int)) = some ((16 : Nat) : Int) from rfl, HT.sIx_nat, List.length_take]
  omega
theorem tied_nil {hs : List Str} (nd : hs.Nodup) (h2 : 2 ≤ hs.length) : ¬ Tied hs [] := by
  intro h
  match hs, nd, h2 with
  | a :: b :: r, nd, _ =>
    have := (h a rfl b (by simp)).1
    have no : ∀ z, Rc [] a z → z = a := fun z r => by
      cases r with
      | here => rfl
      | step _ m => cases m
    have e := no b this
    rw [e] at nd
    simp at nd
end TP

namespace TP
open PySem PySem.Spec PyProof.Rows L2
/-! ### try with several clauses, each with a name or without; one of the first ones takes all that is raised -/
abbrev Clause := Value × Option Nat × (Addr → Value → Option Addr → TS)
def endsI : Option Nat → Ends → Ends
  | some i, D => ⟨fun σ' H' => D.nx (σ'.set i none) H', D.rt, fun σ' H' => D.bk (σ'.set i none) H', fun σ' H' => D.ct (σ'.set i none) H'⟩
  | none, D => D
def setI : Option Nat → Addr → L2.St → L2.St
  | some i, a, σ => σ.set i (some (.ref a))
  | none, _, σ => σ
def wAsM (K : PySem.W.Frag) (D : Ends) : List Clause → WX
  | [] => fun _ _ _ _ => False
  | (c, oi, ts) :: r => fun cls d σ H => ∃ b, PySem.W.exmOne K cls c = some b ∧ (b = true → ∀ a, H a = none → ts a cls d (endsI oi D) (setI oi a σ) H) ∧ (b = false → wAsM K D r cls d σ H)
inductive HdsAs (X : Cx) : List ExceptHandler → List Clause → Prop
  | nil (hds : List ExceptHandler) : HdsAs X hds []
  | as {x n : Str} {c : Value} {i : Nat} {ts : Addr → Value → Option Addr → TS} {b0 : Stmt} {suite : List Stmt} {np pos' : Pos} {hds : List ExceptHandler} {l : List Clause} (hN : X.N.Nodup) (hi : X.N[i]? = some n) (hln : X.env.kindOf n = some .local) (hc : Names X x c)
      (hsu : ∀ (a : Addr) (oe : Obj) (cls : Value) (d : Option Addr) (pn : List (Addr × Obj)), Zc cls d oe → (∃ vs, oe.data = .fields vs) → PSs (X.suite a ((a, oe) :: pn)) (b0 :: suite) (ts a cls d)) (r : HdsAs X hds l) :
      HdsAs X (.ExceptHandler (some (.Name x np)) (some n) (b0 :: suite) pos' :: hds) ((c, some i, ts) :: l)
  | plain {x : Str} {c : Value} {ts : Addr → Value → Option Addr → TS} {b0 : Stmt} {suite : List Stmt} {np pos' : Pos} {hds : List ExceptHandler} {l : List Clause} (hc : Names X x c)
      (hsu : ∀ (a : Addr) (oe : Obj) (cls : Value) (d : Option Addr) (pn : List (Addr × Obj)), Zc cls d oe → (∃ vs, oe.data = .fields vs) → PSs (X.suite a ((a, oe) :: pn)) (b0 :: suite) (ts a cls d)) (r : HdsAs X hds l) :
      HdsAs X (.ExceptHandler (some (.Name x np)) none (b0 :: suite) pos' :: hds) ((c, none, ts) :: l)
section
variable {X : Cx} {h0 : ExceptHandler} {body : List Stmt} {hds : List ExceptHandler} {pos : Pos} {tb : WX → TS} {l : List Clause}
theorem ps_try_asM (hs : X.stack = X.env :: X.outer) (hf : X.env.frame = some X.env.locals)
    (hb : ∀ (W : WX) (pn : List (Addr × Obj)) (xe : Value → Shared → Prop), Takes (X.tr pn xe) W → PassesOwn (model X.prog X.w) X.A X.env xe → PSs (X.tr pn xe) body (tb W))
    (hh : HdsAs X (h0 :: hds) l) : PS X (.Try body (h0 :: hds) [] [] pos) (fun D σ H => tb (wAsM X.K D l) D σ H) := by
  constructor
  intro pins s σ H D I h
  have ok := I.ok
  have fr : X.A.frames = some (X.env :: X.outer) := ok.frames.trans (by rw [hs])
  refine wpAny_Try_except ?_
  refine wpAny_mono ((hb (wAsM X.K D l) (X.pn ++ pins) (fun e s1 => wpAny (model X.prog X.w) X.A (noteFrame e X.env) (fun _ s2 => wpAny (model X.prog X.w) X.A (setFlight e none) (fun _ s3 =>
    wpAny (model X.prog X.w) X.A (handleBy e X.env (h0 :: hds)) (SP X pins D) X.xe s3) X.xe s2) X.xe s1) (fun u s' xx => ?_) PassesOwn.looking).run [] s σ H D (I.toTry _) h) (fun f s1 q => ?_) (fun _ _ z => z)
  · obtain ⟨a, B, sI, p', σ', H', cls, d, rfl, J0, nb, up, sky, na, os, ag, wish⟩ := xx
    have J := J0.ofTry ok
    rw [show (X.tr (X.pn ++ pins) _).stack = X.env :: X.outer from hs] at sky
    refine Sky.land Zc.steady fr hf sky fun g1 f1 u1 => ?_
    have J1 : Inv X pins σ' H' { s' with heap := g1 } := J.landed nb f1.1 (up.trans u1) os ag
    obtain ⟨o1, v1, e1, z1, d1⟩ := f1.there
    have nfr := sky_free f1.2.2.1 e1 d1
    have nL : a ≠ X.env.locals := fun z => nfr (List.mem_filterMap.mpr ⟨X.env, List.mem_cons_self, by rw [hf, z]⟩)
    have nF : a ∉ X.fs := fun q => by
      obtain ⟨e, q1, q2⟩ := List.mem_filterMap.mp q
      exact nfr (List.mem_filterMap.mpr ⟨e, List.mem_cons_of_mem _ q1, q2⟩)
    have S1 := J1.suite e1 d1 na nL nF
    have lt : PySem.W.Looks (model X.prog X.w) g1 (typeOf (.ref a)) cls := fun _ _ _ _ k q => wpAny_typeOf_ref (k _ _ e1) (by rw [z1.1]; exact q)
    have named : ∀ {x : Str} {c : Value} {np : Pos}, Names X x c → ∀ {Q : Value → Shared → Prop} {E : Value → Shared → Prop}, Q c { s' with heap := g1 } → wpAny (model X.prog X.w) (X.A.mark (some (.ref a))) (eval (.Name x np) X.env) Q E { s' with heap := g1 } := by
      intro x c np hc Q E q
      obtain ⟨k1, k2, k3 | ⟨k3, k4, k5⟩⟩ := hc
      · exact ld_glob (X := X.suite a ((a, o1) :: (X.pn ++ pins))) S1 k1 k3 q k2
      · exact ld_blt (X := X.suite a ((a, o1) :: (X.pn ++ pins))) S1 k1 k3 k4 q k5 k2
    have go : ∀ {hds' : List ExceptHandler} {l' : List Clause}, HdsAs X hds' l' → wAsM X.K D l' cls d σ' H' →
        wpAny (model X.prog X.w) X.A (handleBy (.ref a) X.env hds') (SP X pins D) X.xe { s' with heap := g1 } := by
      intro hds' l' hk
      induction hk with
      | nil _ => intro z; exact z.elim
      | as hN hi hln hc hsu r ih =>
        rintro ⟨b, hm, yes, no⟩
        refine wpAny_handleBy_cons (codeAny_handlers_test ?_) (fun q => nomatch q)
        refine named hc ((PySem.W.exm_one (M := model X.prog X.w) J1.kIn lt hm).here ?_)
        cases b with
        | false => exact ih (no rfl)
        | true =>
          refine codeAny_handlers_suite_as (HandSPX.lands_againZ f1 fun g2 f2 u2 => ?_)
          have J2 : Inv X pins σ' H' { s' with heap := g2 } := J.landed nb f2.1 ((up.trans u1).trans u2) os ag
          obtain ⟨o2, v2, e2, z2, d2⟩ := f2.there
          refine store_ok (X := X.suite a ((a, o2) :: (X.pn ++ pins))) (v := .ref a) (J2.suite e2 d2 na nL nF) hN hi (.inl hln) rfl (fun s5 S5 => ?_) (.inr hln)
          refine wpAny_mono ((hsu a o2 cls d (X.pn ++ pins) z2 ⟨_, d2⟩).run [] s5 _ H' _ S5 (yes rfl a na)) (fun f s6 q => ?_) (fun _ _ z => z.elim)
          cases f with
          | next =>
            obtain ⟨σ6, H6, S6, q6⟩ := q
            exact gone_ok (S6.unsuite ok) hN hi hln fun s7 J7 => ⟨_, _, J7, q6⟩
          | brk =>
            obtain ⟨σ6, H6, S6, q6⟩ := q
            exact gone_ok (S6.unsuite ok) hN hi hln fun s7 J7 => ⟨_, _, J7, q6⟩
          | cont =>
            obtain ⟨σ6, H6, S6, q6⟩ := q
            exact gone_ok (S6.unsuite ok) hN hi hln fun s7 J7 => ⟨_, _, J7, q6⟩
          | ret u =>
            obtain ⟨v6, σ6, H6, S6, r6, q6⟩ := q
            exact gone_ok (S6.unsuite ok) hN hi hln fun s7 J7 => ⟨_, _, _, J7, r6, q6⟩
      | plain hc hsu r ih =>
        rintro ⟨b, hm, yes, no⟩
        refine wpAny_handleBy_cons (codeAny_handlers_test ?_) (fun q => nomatch q)
        refine named hc ((PySem.W.exm_one (M := model X.prog X.w) J1.kIn lt hm).here ?_)
        cases b with
        | false => exact ih (no rfl)
        | true =>
          refine codeAny_handlers_suite (HandSPX.lands_againZ f1 fun g2 f2 u2 => ?_)
          have J2 : Inv X pins σ' H' { s' with heap := g2 } := J.landed nb f2.1 ((up.trans u1).trans u2) os ag
          obtain ⟨o2, v2, e2, z2, d2⟩ := f2.there
          refine wpAny_mono ((hsu a o2 cls d (X.pn ++ pins) z2 ⟨_, d2⟩).run [] _ _ H' _ (J2.suite e2 d2 na nL nF) (yes rfl a na)) (fun f s6 q => ?_) (fun _ _ z => z.elim)
          cases f with
          | next =>
            obtain ⟨σ6, H6, S6, q6⟩ := q
            exact ⟨_, _, S6.unsuite ok, q6⟩
          | brk =>
            obtain ⟨σ6, H6, S6, q6⟩ := q
            exact ⟨_, _, S6.unsuite ok, q6⟩
          | cont =>
            obtain ⟨σ6, H6, S6, q6⟩ := q
            exact ⟨_, _, S6.unsuite ok, q6⟩
          | ret u =>
            obtain ⟨v6, σ6, H6, S6, r6, q6⟩ := q
            exact ⟨_, _, _, S6.unsuite ok, r6, q6⟩
    exact go hh wish
  · cases f with
    | next =>
      obtain ⟨σ1, H1, J1, q⟩ := q
      exact wpAny_execs_nil ⟨σ1, H1, J1.ofTry ok, q⟩
    | brk =>
      obtain ⟨σ1, H1, J1, q⟩ := q
      exact ⟨σ1, H1, J1.ofTry ok, q⟩
    | cont =>
      obtain ⟨σ1, H1, J1, q⟩ := q
      exact ⟨σ1, H1, J1.ofTry ok, q⟩
    | ret u =>
      obtain ⟨v, σ1, H1, J1, r, q⟩ := q
      exact ⟨v, σ1, H1, J1.ofTry ok, r, q⟩
end
end TP

namespace TP
open PySem PySem.Spec PyProof.Rows L2 PySem.SeqAt
/-! ### text == x, x any data; x in a row of texts -/
theorem rc_txt_dct {A : Around} {s : Shared} {l : Addr} {es : Array DictEntry} {ep : Nat} {dd : Option Addr} {sl : Array (Option Value)} (b : Str) (u : Tok) (ho : s.heap.get? l = some { cls := .type "dict", dict := dd, data := .dict es ep, slots := sl }) (hu : A.units < cLine) :
    RcAt A s (.str b u) (.ref l) false := fun prog w E Q h =>
  rc_eq_decline_or (k := false) (typeIs_str s b u) ⟨_, ho, rfl⟩ (by decide) F.sub_dict_str F.slot_str_eq F.slot_dict_eq_refl
    (fun _ q => call_meets F.slot_str_eq (typeIs_str s b u) F.entry_str_eq (F.args_str_eq_2 _ _) (txt_eq_dct b u l es ep dd sl) ⟨ho, q⟩)
    (fun _ q => call_meets F.slot_dict_eq_refl ⟨_, ho, rfl⟩ F.entry_dict_eq (F.args_dict_eq_2 _ _) (dct_eq_txt l es ep dd sl b u) ⟨ho, q⟩)
    (fun _ q => wpAny_of_eq (rfl : isSame (.str b u) (.ref l) = pure false) q) (.inr hu) h
theorem isTx_eq (x z : Str) : (z == x) = isTx (.str x) z := by
  show _ = decide (x = z)
  by_cases e : x = z
  · simp [e]
  · have : ¬ z = x := fun q => e q.symm
    simp [e, this]
/-- a text held against what reads as data -/
theorem rc_txt_any {A : Around} {s : Shared} {v : Value} {d : PyData} {as : List Addr} (r : Reads s.heap v d as) (z : Str) (t : Tok) (hu : A.units < cLine) : RcAt A s (.str z t) v (isTx d z) := by
  cases r with
  | none => exact RcAt.str_none z t
  | bool b => exact RcAt.str_bool z t b
  | int i t' => exact RcAt.str_int z t i t'
  | str x' t' => rw [← isTx_eq]; exact RcAt.str_str z t x' t'
  | list k1 k2 k3 k4 => exact RcAt.str_list z t ⟨_, k1, k2, _, k3⟩ hu
  | tuple k1 k2 k3 k4 => exact RcAt.str_tuple z t ⟨_, k1, k2, _, k3⟩ hu
  | @dict a o es n kvs as bs k1 k2 k3 k4 k5 =>
    obtain ⟨oc, od, dt, sl⟩ := o
    dsimp only at k2 k3
    subst k2 k3
    exact rc_txt_dct z t k1 hu
theorem eq_txt_any {A : Around} {s : Shared} {v : Value} {d : PyData} {as : List Addr} (r : Reads s.heap v d as) (z : Str) (t : Tok) (hu : A.units < cLine) : EqAt A s (.str z t) v (isTx d z) := by
  cases r with
  | none => exact EqAt.str_none z t
  | bool b => exact EqAt.str_bool z t b
  | int i t' => exact EqAt.str_int z t i t'
  | str x' t' => rw [← isTx_eq]; exact EqAt.str_str z t x' t'
  | list k1 k2 k3 k4 => exact EqAt.str_list z t ⟨_, k1, k2, _, k3⟩ hu
  | tuple k1 k2 k3 k4 => exact EqAt.str_tuple z t ⟨_, k1, k2, _, k3⟩ hu
  | @dict a o es n kvs as bs k1 k2 k3 k4 k5 =>
    obtain ⟨oc, od, dt, sl⟩ := o
    dsimp only at k2 k3
    subst k2 k3
    intro prog w E Q h
    unfold eqBool
    refine wpAny_holding (wpAny_ite_split (fun q => absurd (eq_of_beq q) nofun) fun _ => wpAny_bind (rc_txt_dct z t k1 hu prog w E _ (wpAny_truthy_bool h)))
/-- z == x -/
def rEqT (K : PySem.W.Frag) : R2 := fun x y H Q => ∃ (d : PyData) (z : Str), x = .str z ∧ Dr K H y d ∧ Q (.bl (isTx d z)) H
theorem op_eqT {X : Cx} (hS : SysK X.K) (hu : X.A.units + 64 < cLine) : OpR X (compareOp .Eq) (rEqT X.K) := by
  intro pins s σ H x y v u Q I rx ry h
  obtain ⟨d, z, rfl, hd, q⟩ := h
  obtain ⟨as, r1, _⟩ := Dr.reads hS I d y u hd ry
  obtain ⟨t, rfl⟩ : ∃ t, v = Value.str z t := rx
  exact rc_txt_any r1 z t (by omega) X.prog X.w X.xe _ ⟨.bl _, H, I, rfl, q⟩
def inD (d : PyData) (xs : List Str) : Bool := xs.any fun z => isTx d z
/-- x in a list of texts -/
def rInT (K : PySem.W.Frag) : R2 := fun x y H Q => ∃ (d : PyData) (p : Addr) (xs : List Str), y = .ref p ∧ SqL K H p (xs.map V.str) ∧ Dr K H x d ∧ Q (.bl (inD d xs)) H
theorem op_inT {X : Cx} (hS : SysK X.K) (hu : X.A.units + 64 < cLine) : OpR X (compareOp .In) (rInT X.K) := by
  intro pins s σ H x y v u Q I rx ry h
  obtain ⟨d, p, xs, rfl, hq, hd, q⟩ := h
  cases ry
  obtain ⟨as, r1, _⟩ := Dr.reads hS I d x v hd rx
  obtain ⟨its, r, pl, hz⟩ := I.list hq
  let e : Value → Bool := fun w => match w with
    | .str z _ => isTx d z
    | _ => false
  have key : ∀ (xs : List Str) (us : List Value), Vals (xs.map V.str) us → (∀ w ∈ us, ∃ z t, w = Value.str z t) ∧ us.any e = inD d xs := by
    intro xs
    induction xs with
    | nil => intro us h; cases h; exact ⟨(fun w h => nomatch h), rfl⟩
    | cons z xs ih =>
      intro us h
      cases h with
      | cons h1 h2 =>
        obtain ⟨t, rfl⟩ := h1
        obtain ⟨k1, k2⟩ := ih _ h2
        refine ⟨fun w hw => ?_, ?_⟩
        · rcases List.mem_cons.mp hw with rfl | hw
          · exact ⟨z, t, rfl⟩
          · exact k1 w hw
        · rw [List.any_cons, k2]
          rfl
  obtain ⟨k1, k2⟩ := key xs its r
  refine SeqAt.in_listAt e pl.isList (fun w hw => ?_) ⟨.bl _, H, I, rfl, ?_⟩
  · obtain ⟨z, t, rfl⟩ := k1 w (by simpa using hw)
    exact eq_txt_any r1 z t (by have : X.A.in1.units ≤ X.A.units + 1 := (by first | exact Nat.le_refl _ | exact Nat.le_succ _ | (unfold Around.in1; simp)); omega)
  · rw [show its.toArray.any e = its.any e by simp, k2]
    exact q
theorem inD_str {z : Str} {xs : List Str} : inD (.str z) xs = decide (z ∈ xs) := by
  unfold inD
  induction xs with
  | nil => rfl
  | cons y xs ih =>
    rw [List.any_cons, ih]
    show (decide (z = y) || _) = _
    by_cases e : z = y
    · simp [e]
    · simp [e]
theorem inD_no {d : PyData} {xs : List Str} (h : ∀ z, d ≠ .str z) : inD d xs = false := by
  unfold inD
  rw [List.any_eq_false]
  intro z _
  cases d <;> first | exact Bool.false_ne_true | exact absurd rfl (h _)
/-! ### o.m(e, ..) within a try -/
def tMethS (C : Addr) (m : Str) (sp : Sp) (E : L2.St → XK) (ta : TE) (t : TA) : TE := fun σ => tMeth C m sp [] (E σ) ta t σ
section
variable {X : Cx} {CX : CXT} {k : Nat} {d : He.DefD} {C : Addr} {ps : List Str} {sp : Sp} {E : L2.St → XK} {m : Str} {pos apos : Pos} {o e : Expr} {es : List Expr} {t : TA} {ta : TE}
theorem GtF.methS (G : GtF X.prog X.w X.K X.mg X.base CX k d ps sp) (hd : d.dfl = []) (hb : BindN d ps) (c : Cls X.K C) (hm : Meth X.K C m (He.fAd X.K d.at_)) (hr : Room k X.A) (hx : ∀ σ, PassesAt CX X σ (E σ)) (he : PE X o ta) (ha : PA X (e :: es) t) {pl : Sem Bool}
    (hst : starEach (e :: es) X.env = (false, eval e X.env) :: starEach es X.env := by rfl) (hpl : (backTo pos (starEach es X.env)).any (·.1) = false := by rfl)
    (ht : eval (.Call (.Attribute o m apos) (e :: es) [] pos) X.env = (do
      let ov ← eval o X.env
      standAt apos.atName
      let (f, first) ← holding [ov] (getMethod ov m pl)
      callWith pos f first (backTo pos (starEach (e :: es) X.env)) (backToKw pos (keywordEach [] X.env))) := by rfl) :
    PE X (.Call (.Attribute o m apos) (e :: es) [] pos) (tMethS C m sp E ta t) := by
  obtain ⟨fd, F, bd⟩ := G.bn hd hb
  constructor
  intro pins s σ H Q I h
  refine PySem.W.methodCall_KW (pl := pl) (thn (he.run pins s σ H _ I h) fun u s1 z => ?_) ht
  obtain ⟨x, H1, I1, rx, a, dx, fs, rfl, ea, l, q⟩ := z
  obtain rfl : u = Value.ref a := rx
  refine getmeth_ok I1 ea c hm l (PySem.W.callWith_K (first := [.ref a]) (h₀ := X.base) I.ok.mod.kin hm.kp (thn (ha.run pos pins s1 σ H1 _ I1 q) fun us s2 z => ?_) hst hpl)
  obtain ⟨vs, H2, I2, r, q2⟩ := z
  rw [List.append_nil] at q2
  exact ⟨I2.kIn, run_fnS (us := .ref a :: us) (vs := .ref a :: vs) F hr bd (hx σ) I2 (.cons rfl r) q2⟩
end
end TP

namespace TP
open PySem PySem.Spec PyProof.Rows L2
def strOf : PyData → Str
  | .str z => z
  | _ => ""
def told11 (L : LandD) (b : Bool) (D : PyData) : PyData := if b = true then (if hasD L.hs D = true then .tuple [.str "told", .list ((rdFrom (strOf D) 0 (L.rq.map (·.2))).map PyData.int)] else .tuple [.str "house", D])
  else (if hasD (L.ss.map (·.1)) D = true then .tuple [.str "told", .str ((ssGet L.ss (strOf D)).getD "")] else .tuple [.str "street", D])
def spTold11 (K : PySem.W.Frag) : Sp := fun vs H Q _ => ∃ (a : Addr) (L : LandD) (b : Bool) (v : V) (D : PyData), vs = [.ref a, .str (if b = true then "house" else "street"), v] ∧ LandAt K H a L ∧ L.rq.length ≤ 16 ∧ Dr K H v D ∧ (∀ z, D = .str z → z.length ≤ 1000000) ∧
  ∀ u H', Evl.Ex H H' → Dr K H' u (told11 L b D) → Q u H'
theorem kitAny3 {K : PySem.W.Frag} {t a b c : Value} (h1 : PySem.W.kitOne K t a = some false) (h2 : PySem.W.kitOne K t b = some false) (h3 : PySem.W.kitOne K t c = some false) : PySem.W.kitAny K t [a, b, c] = some false := by
  unfold PySem.W.kitAny
  rw [h1]
  show PySem.W.kitAny K t [b, c] = _
  unfold PySem.W.kitAny
  rw [h2]
  show PySem.W.kitAny K t [c] = _
  unfold PySem.W.kitAny
  rw [h3]
  rfl
theorem kitAny2 {K : PySem.W.Frag} {t a b : Value} (h1 : PySem.W.kitOne K t a = some false) (h2 : PySem.W.kitOne K t b = some false) : PySem.W.kitAny K t [a, b] = some false := by
  unfold PySem.W.kitAny
  rw [h1]
  show PySem.W.kitAny K t [b] = _
  unfold PySem.W.kitAny
  rw [h2]
  rfl
theorem told_hy {L : LandD} {D : PyData} (h : hasD L.hs D = true) : told11 L true D = .tuple [.str "told", .list ((rdFrom (strOf D) 0 (L.rq.map (·.2))).map PyData.int)] := by unfold told11; rw [if_pos rfl, if_pos h]
theorem told_hn {L : LandD} {D : PyData} (h : hasD L.hs D = false) : told11 L true D = .tuple [.str "house", D] := by unfold told11; rw [if_pos rfl, if_neg (by rw [h]; exact Bool.false_ne_true)]
theorem told_sy {L : LandD} {D : PyData} (h : hasD (L.ss.map (·.1)) D = true) : told11 L false D = .tuple [.str "told", .str ((ssGet L.ss (strOf D)).getD "")] := by unfold told11; rw [if_neg Bool.false_ne_true, if_pos h]
theorem told_sn {L : LandD} {D : PyData} (h : hasD (L.ss.map (·.1)) D = false) : told11 L false D = .tuple [.str "street", D] := by unfold told11; rw [if_neg Bool.false_ne_true, if_neg (by rw [h]; exact Bool.false_ne_true)]
theorem dr_str {K : PySem.W.Frag} {H : Hp} {z : Str} {D : PyData} (h : Dr K H (.str z) D) : D = .str z := by
  cases h
  rfl
end TP

namespace TP
open PySem PySem.Spec PyProof.Rows L2
/-! ### streets, some put in, some taken out -/
structure SsM (hs : List Str) (ss : List (Str × Str)) (lo hi : Nat) : Prop where
  lo : lo ≤ ss.length
  hi : ss.length ≤ hi
  nm : ∀ q ∈ ss, NmP q.1 ∧ NmP q.2 ∧ q.2 ∈ hs
  nd : (ss.map (·.1)).Nodup
theorem SsOk.m {hs : List Str} {ss : List (Str × Str)} (h : SsOk hs ss) : SsM hs ss 1 21 := ⟨h.lo, Nat.le_trans h.hi (by decide), h.nm, h.nd⟩
theorem SsM.ok {hs : List Str} {ss : List (Str × Str)} {hi : Nat} (h : SsM hs ss 1 hi) (l : ss.length ≤ 20) : SsOk hs ss := ⟨h.lo, l, h.nm, h.nd⟩
theorem ss_keys (ss : List (Str × Str)) : (ssK ss).map (·.1) = (ss.map (·.1)).map Sum.inr := by
  unfold ssK
  rw [List.map_map, List.map_map]
  rfl
theorem ss_put {hs : List Str} {ss : List (Str × Str)} {z h : Str} (ok : SsOk hs ss) (nz : NmP z) (nh : NmP h) (hm : h ∈ hs) : ∃ ss', putK (ssK ss) (.inr z) (.str h) = ssK ss' ∧ SsM hs ss' 1 21 := by
  by_cases e : z ∈ ss.map (·.1)
  · refine ⟨ss.map fun q => if q.1 = z then (q.1, h) else q, ?_, ⟨by rw [List.length_map]; exact ok.lo, by rw [List.length_map]; exact Nat.le_trans ok.hi (by decide), fun q hq => ?_, ?_⟩⟩
    · unfold putK
      rw [if_pos]
      · unfold ssK
        rw [List.map_map, List.map_map]
        refine List.map_congr_left fun q _ => ?_
        show (if (Sum.inr q.1 : Key) = Sum.inr z then _ else _) = _
        by_cases hq : q.1 = z
        · rw [if_pos (by rw [hq])]
          show _ = ((Sum.inr (if q.1 = z then (q.1, h) else q).1 : Key), V.str (if q.1 = z then (q.1, h) else q).2)
          rw [if_pos hq]
        · rw [if_neg (fun k => hq (Sum.inr.inj k))]
          show _ = ((Sum.inr (if q.1 = z then (q.1, h) else q).1 : Key), V.str (if q.1 = z then (q.1, h) else q).2)
          rw [if_neg hq]
      · obtain ⟨q, hq, rfl⟩ := List.mem_map.mp e
        rw [List.any_eq_true]
        exact ⟨(.inr q.1, .str q.2), List.mem_map.mpr ⟨q, hq, rfl⟩, decide_eq_true rfl⟩
    · obtain ⟨u, hu, rfl⟩ := List.mem_map.mp hq
      obtain ⟨n1, n2, n3⟩ := ok.nm u hu
      by_cases hz : u.1 = z
      · rw [if_pos hz]
        exact ⟨n1, nh, hm⟩
      · rw [if_neg hz]
        exact ⟨n1, n2, n3⟩
    · have : (ss.map fun q => if q.1 = z then (q.1, h) else q).map (·.1) = ss.map (·.1) := by
        rw [List.map_map]
        refine List.map_congr_left fun q _ => ?_
        show (if q.1 = z then (q.1, h) else q).1 = q.1
        by_cases hz : q.1 = z
        · rw [if_pos hz]
        · rw [if_neg hz]
      rw [this]
      exact ok.nd
  · refine ⟨ss ++ [(z, h)], ?_, ⟨by rw [List.length_append]; exact Nat.le_trans ok.lo (Nat.le_add_right _ _), ?_, fun q hq => ?_, ?_⟩⟩
    · rw [TP.putK_new]
      · unfold ssK
        rw [List.map_append]
        rfl
      · rw [ss_keys]
        intro k
        obtain ⟨u, hu, hk⟩ := List.mem_map.mp k
        exact e (Sum.inr.inj hk ▸ hu)
    · have := ok.hi
      rw [List.length_append]
      show ss.length + 1 ≤ 21
      omega
    · rcases List.mem_append.mp hq with k | k
      · exact ok.nm q k
      · obtain rfl : q = (z, h) := by simpa using k
        exact ⟨nz, nh, hm⟩
    · rw [List.map_append, List.nodup_append]
      refine ⟨ok.nd, by simp, fun a ha b hb => ?_⟩
      obtain rfl : b = z := by simpa using hb
      exact fun k => e (k ▸ ha)
theorem ss_drop {hs : List Str} {ss : List (Str × Str)} {z : Str} {hi : Nat} (ok : SsM hs ss 1 hi) (h2 : 20 < ss.length) (hz : z ∈ ss.map (·.1)) :
    ∃ ss', dropK (ssK ss) (.inr z) = ssK ss' ∧ SsM hs ss' 1 hi ∧ ss'.length < ss.length := by
  have nd2 : ((ssK ss).map (·.1)).Nodup := by
    rw [ss_keys]
    exact ok.nd.map _ (fun a b n k => n (Sum.inr.inj k))
  have m2 : (Sum.inr z : Key) ∈ (ssK ss).map (·.1) := by
    rw [ss_keys]
    exact List.mem_map.mpr ⟨z, hz, rfl⟩
  have ll := dropK_len nd2 m2
  have e : dropK (ssK ss) (.inr z) = ssK (ss.filter fun q => decide (q.1 ≠ z)) := by
    unfold dropK ssK
    rw [List.filter_map]
    congr 1
    refine List.filter_congr fun q _ => ?_
    show decide ((Sum.inr q.1 : Key) ≠ Sum.inr z) = _
    refine Bool.eq_iff_iff.mpr ?_
    simp
  rw [e] at ll
  have l1 : (ssK (ss.filter fun q => decide (q.1 ≠ z))).length = (ss.filter fun q => decide (q.1 ≠ z)).length := List.length_map ..
  have l2 : (ssK ss).length = ss.length := List.length_map ..
  refine ⟨_, e, ⟨by omega, by have := ok.hi; omega, fun q hq => ok.nm q (List.mem_filter.mp hq).1, ?_⟩, by omega⟩
  exact ok.nd.sublist (List.filter_sublist.map _)
theorem ss_val {ss : List (Str × Str)} {z : Str} (hz : z ∈ ss.map (·.1)) : ∃ s, ssGet ss z = some s ∧ valV (ssK ss) (.inr z) = some (.str s) := by
  have := ssGet_some ss z
  rw [decide_eq_true hz] at this
  obtain ⟨s, hs⟩ := Option.isSome_iff_exists.mp this
  exact ⟨s, hs, by rw [ssGet_val, hs]; rfl⟩
theorem Wl.put {H : Hp} {a c : Addr} {o : HO} {n : Nat} (h : Wl H a n) (ne : c ≠ a) : Wl (upd H c o) a n := by
  obtain ⟨x, y, m, e, r⟩ := h
  exact ⟨x, y, m, by rw [upd_ne (Ne.symm ne)]; exact e, r⟩
/-! ### any thing that is asked for -/
structure Thg (K : PySem.W.Frag) (H : Hp) (v : V) (D : PyData) : Prop where
  dr : Dr K H v D
  sz : Sz 200 3 D
  sh : ∀ z, D = .str z → z.length ≤ 1000000
theorem Thg.ex {K : PySem.W.Frag} {H H' : Hp} {v : V} {D : PyData} (h : Thg K H v D) (e : Evl.Ex H H') : Thg K H' v D := ⟨Dr.ex e _ _ h.dr, h.sz, h.sh⟩
theorem Thg.nm {K : PySem.W.Frag} {H : Hp} {z : Str} (n : NmP z) : Thg K H (.str z) (.str z) :=
  ⟨.str z, (Sz.str n.as).mono (by decide) (by decide), fun y e => by cases e; have := n.hi; omega⟩
theorem inD_has {D : PyData} {hs : List Str} (n : ∀ z ∈ hs, NmP z) : inD D hs = hasD hs D := by
  cases D with
  | str z =>
    rw [inD_str]
    by_cases h : z ∈ hs
    · rw [hasD_yes (n z h)]
    · by_cases k : isNmD (.str z) = true
      · rw [hasD_yes (isNm_iff.mp k)]
      · rw [hasD_no (Bool.eq_false_iff.mpr k), decide_eq_false h]
  | _ => rw [inD_no (fun z e => by cases e), hasD_no rfl]
theorem inD_of {D : PyData} {hs : List Str} (h : inD D hs = true) : ∃ z, D = .str z ∧ z ∈ hs := by
  cases D with
  | str z =>
    rw [inD_str] at h
    exact ⟨z, rfl, of_decide_eq_true h⟩
  | _ => rw [inD_no (fun z e => by cases e)] at h; cases h
theorem dr_strV {K : PySem.W.Frag} {H : Hp} {v : V} {z : Str} (h : Dr K H v (.str z)) : v = .str z := by
  cases h
  rfl
theorem isTx_str (x z : Str) : isTx (.str x) z = decide (z = x) := by
  rw [← isTx_eq]
  by_cases h : z = x
  · subst h
    simp
  · rw [decide_eq_false h]
    simpa using h
theorem told11_rp {L : LandD} {D : PyData} {hs : List Str} (b : Bool) (th : Sz 200 3 D) (rl : L.rq.length ≤ 16) (sok : SsOk hs L.ss) : (told11 L b D).showable = true ∧ (told11 L b D).depth ≤ 50 ∧ (told11 L b D).shown.length ≤ sizeLine := by
  have as4 : As 6 "told" := ⟨by decide, by decide +kernel⟩
  have as5 : As 6 "house" := ⟨by decide, by decide +kernel⟩
  have as6 : As 6 "street" := ⟨by decide, by decide +kernel⟩
  have l4 : Sz 2000 4 (.str "told") := (Sz.str as4).mono (by decide) (by decide)
  have l5 : Sz 2000 4 (.str "house") := (Sz.str as5).mono (by decide) (by decide)
  have l6 : Sz 2000 4 (.str "street") := (Sz.str as6).mono (by decide) (by decide)
  have thm : Sz 2000 4 D := th.mono (by decide) (by decide)
  suffices h : ∃ x y, told11 L b D = .tuple [x, y] ∧ Sz 2000 4 x ∧ Sz 2000 4 y by
    obtain ⟨x, y, e, hx, hy⟩ := h
    rw [e]
    exact (Sz.tup (n := 2) (forall2 hx hy) (Nat.le_refl _)).rp
  unfold told11
  cases b
  · rw [if_neg Bool.false_ne_true]
    by_cases h : hasD (L.ss.map (·.1)) D = true
    · rw [if_pos h]
      refine ⟨_, _, rfl, l4, ?_⟩
      cases e : ssGet L.ss (strOf D) with
      | none => exact (Sz.str (B := 6) ⟨by decide, by decide +kernel⟩).mono (by decide) (by decide)
      | some z =>
        have : ∃ q ∈ L.ss, q.2 = z := by
          have h2 := ssGet_val L.ss (strOf D)
          rw [e] at h2
          unfold valV at h2
          cases f : (ssK L.ss).find? (fun kv => decide (kv.1 = Sum.inr (strOf D))) with
          | none => rw [f] at h2; cases h2
          | some kv =>
            rw [f] at h2
            have m := List.mem_of_find?_eq_some f
            obtain ⟨q, hq, rfl⟩ := List.mem_map.mp m
            refine ⟨q, hq, ?_⟩
            have := Option.some.inj h2
            injection this
        obtain ⟨q, hq, rfl⟩ := this
        exact (Sz.str (sok.nm q hq).2.1.as).mono (by decide) (by decide)
    · rw [if_neg h]
      exact ⟨_, _, rfl, l6, thm⟩
  · rw [if_pos rfl]
    by_cases h : hasD L.hs D = true
    · rw [if_pos h]
      refine ⟨_, _, rfl, l4, ?_⟩
      have hl := rdFrom_len (strOf D) (L.rq.map (·.2)) 0
      rw [List.length_map] at hl
      refine (Sz.lst (n := 16) (B := 100) (k := 0) (fun d hd => ?_) (by rw [List.length_map]; omega)).mono (by decide) (by decide)
      obtain ⟨i, hi, rfl⟩ := List.mem_map.mp hd
      rw [rdFrom_filter] at hi
      obtain ⟨j, hj, rfl⟩ := List.mem_map.mp hi
      have := List.mem_range.mp (List.mem_filter.mp hj).1
      rw [List.length_map] at this
      refine Sz.nat (by omega) ?_
      have : (j : Int) < 16 := by omega
      exact Int.lt_trans this (by decide +kernel)
    · rw [if_neg h]
      exact ⟨_, _, rfl, l5, thm⟩
end TP

namespace TP
open PySem PySem.Spec PyProof.Rows L2
/-! ### a star among targets: what is left over as a new list -/
def gStar (K : PySem.W.Frag) (n i : Nat) (t : TGs) : TG := fun v σ H Q => ∃ a xs, v = .ref a ∧ SqT K H a xs ∧ n ≤ xs.length + 1 ∧ xs.length ≤ 10000 ∧
  ∀ D, H D = none → t (xs.take i ++ [.ref D] ++ (xs.drop i).drop (xs.length + 1 - n)) σ (upd H D (.lst ((xs.drop i).take (xs.length + 1 - n)))) Q
theorem vals_take : ∀ (k : Nat) {vs : List V} {us : List Value}, Vals vs us → Vals (vs.take k) (us.take k)
  | 0, _, _, _ => .nil
  | _ + 1, _, _, .nil => .nil
  | k + 1, _, _, .cons a b => .cons a (vals_take k b)
theorem vals_drop : ∀ (k : Nat) {vs : List V} {us : List Value}, Vals vs us → Vals (vs.drop k) (us.drop k)
  | 0, _, _, h => h
  | _ + 1, _, _, .nil => .nil
  | k + 1, _, _, .cons _ b => vals_drop k b
theorem vals_app : ∀ {vs ws : List V} {us ts : List Value}, Vals vs us → Vals ws ts → Vals (vs ++ ws) (us ++ ts)
  | _, _, _, _, .nil, h => h
  | _, _, _, _, .cons a b, h => .cons a (vals_app b h)
theorem pg_star {X : Cx} {es : List Expr} {k n i : Nat} {pos : Pos} {t : TGs} (hc : X.calm = true) (h : PGs X es t) (hi : i < n)
    (hn : (assignEach es X.env).length = n := by rfl) (hst : (assignEach es X.env).findIdx? (·.1) = some i := by rfl) : PG X (.Tuple es k pos) (gStar X.K n i t) := by
  refine ⟨fun pins s σ H v u Q I r hw => ?_⟩
  obtain ⟨a, xs, rfl, hq, hl, h5, hw⟩ := hw
  cases r
  obtain ⟨its, rv, ht, hz⟩ := I.tuple hq
  have hh := I.ok.hd hc
  have len := rv.length
  have na : a ≠ s.heap.objs.size := by
    obtain ⟨o, ho, _⟩ := ht
    exact Nat.ne_of_lt (Heap.lt_size ho)
  rw [assign_Tuple]
  refine wpAny_bind (wpAny_standAt ?_)
  unfold unpack
  rw [hn, hst]
  refine wpAny_bind (wpAny_holding ?_)
  unfold unpackItems
  refine wpAny_bind ?_
  unfold notIterableAtAll
  refine wpAny_bind (wpAny_specialOf (show s.TypeIs (.ref a) "tuple" from ht.typeIs) slot_tuple_iter.lookup (wpAny_pure ?_))
  simp only [Bool.false_eq_true, if_false]
  refine wpAny_bind (wpAny_holding (iter_tuple ht ?_))
  refine wpAny_bind (wpAny_holding (draw_tuple na i 0 _ _ ⟨_, Heap.get?_push_size _ rfl, rfl, rfl⟩ (ht.push _) (by simp; omega) fun h1 it1 sb => ?_))
  have ht1 : IsTup h1 a its.toArray := (ht.push _).extBut sb.extBut na
  rw [Nat.zero_add] at it1
  obtain ⟨oi, hoi, hoc⟩ := it1
  obtain ⟨ol, hol, hlc⟩ := ht1
  have tk : its.toArray.toList = its := by simp
  rw [List.drop_zero, tk]
  have fl : (its.take i).length = i := by rw [List.length_take]; omega
  rw [if_neg (by rw [fl]; exact Nat.lt_irrefl _)]
  refine wpAny_bind (wpAny_holding (PySem.W.kun_collect (s := { s with heap := h1 }) (T := "tuple_iterator") (items := its.toArray) (.inr (.inr (.inr rfl))) (Walks.tuple (A := X.A.in1) hh s.heap.objs.size a na its.toArray) (fun j u st => st.1.typeIs) (k := i) (by simp; omega) ⟨⟨oi, hoi, hoc⟩, ⟨ol, hol, hlc⟩⟩ (Heap.lt_size hoi) (Heap.lt_size hol) (fun h2 tok keep => ?_) (by simp; rw [sizeLine_eq]; omega)))
  rw [tk]
  have rl : (its.drop i).length = its.length - i := List.length_drop ..
  have mid : (its.drop i).length - (n - 1 - i) = xs.length + 1 - n := by rw [rl]; omega
  dsimp only
  rw [if_neg (by rw [rl]; omega), mid]
  have ext : ∀ b o, s.heap.get? b = some o → h2.get? b = some o := fun b o e => keep b o (Nat.ne_of_lt (Heap.lt_size e)) (sb.extBut b o (Nat.ne_of_lt (Heap.lt_size e)) (Heap.get?_push_of_some _ e))
  have I2 : Inv X pins σ H { s with heap := h2, toks := tok } := I.kept (t' := tok) ext
  have new : H h2.objs.size = none := I2.hok.fresh (Nat.le_refl _)
  refine wpAny_bind (wpAny_newList ?_)
  have rm := vals_take (xs.length + 1 - n) (vals_drop i rv)
  have ml : ((xs.drop i).take (xs.length + 1 - n)).length ≤ sizeLine := by rw [List.length_take, List.length_drop, sizeLine_eq]; omega
  have I3 : Inv X pins σ (upd H h2.objs.size (.lst ((xs.drop i).take (xs.length + 1 - n)))) { s with heap := h2.push { cls := .type "list", data := .seq ((its.drop i).take (xs.length + 1 - n)).toArray }, toks := tok } :=
    I2.laid (t' := tok) (fun b u e => Heap.get?_push_of_some _ e) (Nat.le_refl _) ⟨ml, _, 0, rm, Heap.get?_push_size _ rfl⟩
  refine wpAny_pure ?_
  exact h.run pins _ σ _ _ _ Q I3 (vals_app (vals_app (vals_take i rv) (.cons (show RelV (V.ref h2.objs.size) (Value.ref h2.objs.size) from rfl) .nil)) (vals_drop _ (vals_drop i rv))) (hw _ new)
theorem pgs_star {X : Cx} {e : Expr} {p : Pos} {es : List Expr} {t : TG} {u : TGs} (h1 : PG X e t) (h2 : PGs X es u)
    (hs : (assignEach (.Starred e p :: es) X.env).map (·.2) = assign e X.env :: (assignEach es X.env).map (·.2) := by rfl) : PGs X (.Starred e p :: es) (gCons t u) := by
  refine ⟨fun pins s σ H vs us Q I r h => ?_⟩
  obtain ⟨v, vr, rfl, h⟩ := h
  cases r with
  | cons r1 r2 =>
    rw [hs]
    exact assignInOrder_cons (thn (h1.run pins s σ H _ _ _ I r1 h) fun _ s1 ⟨σ1, H1, I1, q1⟩ => h2.run pins s1 σ1 H1 _ _ Q I1 r2 q1)
/-! ### things held against one another -/
def rLtD (K : PySem.W.Frag) (f : PyData → PyData → Bool) : R2 := fun x y H Q => ∃ (d e : PyData), Dr K H x d ∧ Dr K H y e ∧ PySem.W.alike d e = true ∧ d ≠ .none ∧ d.depth ≤ 40 ∧ Q (.bl (f d e)) H
theorem op_ltD {X : Cx} (hS : SysK X.K) (hu : X.A.units + 64 < cLine) : OpR X (compareOp .Lt) (rLtD X.K PySem.W.dataLt) := by
  intro pins s σ H x y v u Q I rx ry h
  obtain ⟨d, e, hd, he, al, nn, dp, q⟩ := h
  obtain ⟨as, ra, _⟩ := Dr.reads hS I d _ _ hd rx
  obtain ⟨bs, rb, _⟩ := Dr.reads hS I e _ _ he ry
  exact PySem.W.lt_data ra rb al nn (by omega) ⟨.bl _, H, I, rfl, q⟩
theorem op_gtD {X : Cx} (hS : SysK X.K) (hu : X.A.units + 64 < cLine) : OpR X (compareOp .Gt) (rLtD X.K fun d e => PySem.W.dataLt e d) := by
  intro pins s σ H x y v u Q I rx ry h
  obtain ⟨d, e, hd, he, al, nn, dp, q⟩ := h
  obtain ⟨as, ra, _⟩ := Dr.reads hS I d _ _ hd rx
  obtain ⟨bs, rb, _⟩ := Dr.reads hS I e _ _ he ry
  exact PySem.W.gt_data ra rb al nn (by omega) ⟨.bl _, H, I, rfl, q⟩
theorem op_leD {X : Cx} (hS : SysK X.K) (hu : X.A.units + 64 < cLine) : OpR X (compareOp .LtE) (rLtD X.K fun d e => !PySem.W.dataLt e d) := by
  intro pins s σ H x y v u Q I rx ry h
  obtain ⟨d, e, hd, he, al, nn, dp, q⟩ := h
  obtain ⟨as, ra, _⟩ := Dr.reads hS I d _ _ hd rx
  obtain ⟨bs, rb, _⟩ := Dr.reads hS I e _ _ he ry
  exact PySem.W.le_data ra rb al nn (by omega) ⟨.bl _, H, I, rfl, q⟩
end TP

namespace TP
open PySem PySem.Spec PyProof.Rows L2
/-! ### rows of numbers, the least first -/
def lexI : List Nat → List Nat → Bool
  | [], [] => false
  | [], _ :: _ => true
  | _ :: _, [] => false
  | x :: xs, y :: ys => decide (x < y) || (decide (x = y) && lexI xs ys)
theorem lexI_irr : ∀ xs, lexI xs xs = false
  | [] => rfl
  | x :: xs => by simp [lexI, lexI_irr xs]
theorem lexI_trans : ∀ {xs ys zs : List Nat}, lexI xs ys = true → lexI ys zs = true → lexI xs zs = true
  | [], [], _, h, _ => by cases h
  | [], _ :: _, [], _, h => by cases h
  | [], _ :: _, _ :: _, _, _ => rfl
  | _ :: _, [], _, h, _ => by cases h
  | _ :: _, _ :: _, [], _, h => by cases h
  | x :: xs, y :: ys, z :: zs, h, g => by
    simp only [lexI, Bool.or_eq_true, Bool.and_eq_true, decide_eq_true_eq] at h g ⊢
    rcases h with h | ⟨rfl, h⟩
    · rcases g with g | ⟨rfl, g⟩
      · exact .inl (by omega)
      · exact .inl h
    · rcases g with g | ⟨rfl, g⟩
      · exact .inl g
      · exact .inr ⟨rfl, lexI_trans h g⟩
theorem lexI_tot : ∀ {xs ys : List Nat}, lexI xs ys = false → lexI ys xs = false → xs = ys
  | [], [], _, _ => rfl
  | [], _ :: _, h, _ => by cases h
  | _ :: _, [], _, h => by cases h
  | x :: xs, y :: ys, h, g => by
    simp only [lexI, Bool.or_eq_false_iff, Bool.and_eq_false_iff, decide_eq_false_iff_not] at h g
    have e : x = y := by omega
    subst e
    have h2 : lexI xs ys = false := h.2.resolve_left (fun z => z rfl)
    have g2 : lexI ys xs = false := g.2.resolve_left (fun z => z rfl)
    rw [lexI_tot h2 g2]
theorem lexI_snoc : ∀ {xs ys : List Nat} (r : Nat), xs.length = ys.length → lexI (xs ++ [r]) (ys ++ [r]) = lexI xs ys
  | [], [], r, _ => by simp [lexI]
  | [], _ :: _, _, h => by cases h
  | _ :: _, [], _, h => by cases h
  | x :: xs, y :: ys, r, h => by
    show (decide (x < y) || (decide (x = y) && lexI (xs ++ [r]) (ys ++ [r]))) = (decide (x < y) || (decide (x = y) && lexI xs ys))
    rw [lexI_snoc r (Nat.succ.inj h)]
theorem lexI_cons (x : Nat) (xs ys : List Nat) : lexI (x :: xs) (x :: ys) = lexI xs ys := by simp [lexI]
/-- by what ways are held against one another -/
structure Lb where
  t : Int
  p : List Nat
def Lb.lt (a b : Lb) : Bool := decide (a.t < b.t) || (decide (a.t = b.t) && lexI a.p b.p)
theorem Lb.irr (a : Lb) : a.lt a = false := by simp [Lb.lt, lexI_irr]
theorem Lb.trans {a b c : Lb} (h : a.lt b = true) (g : b.lt c = true) : a.lt c = true := by
  simp only [Lb.lt, Bool.or_eq_true, Bool.and_eq_true, decide_eq_true_eq] at h g ⊢
  rcases h with h | ⟨h, h'⟩
  · rcases g with g | ⟨g, _⟩
    · exact .inl (by omega)
    · exact .inl (by omega)
  · rcases g with g | ⟨g, g'⟩
    · exact .inl (by omega)
    · exact .inr ⟨by omega, lexI_trans h' g'⟩
theorem Lb.tot {a b : Lb} (h : a.lt b = false) (g : b.lt a = false) : a = b := by
  simp only [Lb.lt, Bool.or_eq_false_iff, Bool.and_eq_false_iff, decide_eq_false_iff_not] at h g
  have e : a.t = b.t := by omega
  have h2 : lexI a.p b.p = false := h.2.resolve_left (fun z => z e)
  have g2 : lexI b.p a.p = false := g.2.resolve_left (fun z => z e.symm)
  have e2 := lexI_tot h2 g2
  cases a
  cases b
  simp only at e e2
  rw [e, e2]
theorem Lb.le_trans {a b c : Lb} (h : b.lt a = false) (g : c.lt b = false) : c.lt a = false := by
  refine Bool.eq_false_iff.mpr fun z => ?_
  cases e : a.lt b with
  | true =>
    have := Lb.trans z e
    rw [this] at g
    cases g
  | false =>
    have := Lb.tot e h
    subst this
    rw [z] at g
    cases g
def nD (n : Nat) : PyData := .int (n : Int)
def lbD (a : Lb) : PyData := .tuple [.int a.t, .tuple (a.p.map nD)]
theorem toks_nats : ∀ xs ys : List Nat, PyProof.Rows.lexLt itemOrd (PySem.W.keyToksAll (xs.map nD) ++ [.inl 0]) (PySem.W.keyToksAll (ys.map nD) ++ [.inl 0]) = lexI xs ys
  | [], [] => by decide +kernel
  | [], y :: ys => by
    rw [List.map_nil, List.map_cons, PySem.W.toks_all_cons, PySem.W.keyToksAll]
    show PyProof.Rows.lexLt itemOrd (.inl 0 :: _) (.inl 1 :: _) = true
    rw [lex_cons]
    rfl
  | x :: xs, [] => by
    rw [List.map_nil, List.map_cons, PySem.W.toks_all_cons, PySem.W.keyToksAll]
    show PyProof.Rows.lexLt itemOrd (.inl 1 :: _) (.inl 0 :: _) = false
    rw [lex_cons]
    rfl
  | x :: xs, y :: ys => by
    have ih := toks_nats xs ys
    rw [List.map_cons, List.map_cons, PySem.W.toks_all_cons, PySem.W.toks_all_cons]
    show PyProof.Rows.lexLt itemOrd (.inl 1 :: .inl (x : Int) :: (PySem.W.keyToksAll (xs.map nD) ++ [.inl 0])) (.inl 1 :: .inl (y : Int) :: (PySem.W.keyToksAll (ys.map nD) ++ [.inl 0])) = _
    rw [lex_cons, lex_cons, ih]
    show (decide ((1 : Int) < 1) || (!decide ((1 : Int) < 1) && (decide ((x : Int) < y) || (!decide ((y : Int) < x) && lexI xs ys)))) = _
    have e1 : decide ((1 : Int) < 1) = false := by decide
    rw [e1]
    simp only [Bool.false_or, Bool.not_false, Bool.true_and, lexI]
    by_cases h1 : x < y
    · rw [decide_eq_true (show (x : Int) < y by omega), decide_eq_true h1]
      rfl
    · rw [decide_eq_false (show ¬ (x : Int) < y by omega), decide_eq_false h1]
      by_cases h2 : x = y
      · subst h2
        simp
      · rw [decide_eq_true (show (y : Int) < x by omega), decide_eq_false h2]
        rfl
theorem dataLt_lb (a b : Lb) : PySem.W.dataLt (lbD a) (lbD b) = a.lt b := by
  unfold lbD
  rw [PySem.W.dataLt_tuple, PySem.W.toks_all_cons, PySem.W.toks_all_cons, PySem.W.toks_all_cons, PySem.W.toks_all_cons]
  have e0 : ∀ xs : List PyData, PySem.W.keyToks (.tuple xs) = PySem.W.keyToksAll xs := fun xs => by rw [PySem.W.keyToks]
  have e1 : ∀ i : Int, PySem.W.keyToks (.int i) = [.inl i] := fun i => by rw [PySem.W.keyToks]
  have e2 : PySem.W.keyToksAll [] = [.inl 0] := by rw [PySem.W.keyToksAll]
  rw [e0, e0, e1, e1, e2]
  show PyProof.Rows.lexLt itemOrd (.inl 1 :: .inl a.t :: .inl 1 :: (PySem.W.keyToksAll (a.p.map nD) ++ [.inl 0])) (.inl 1 :: .inl b.t :: .inl 1 :: (PySem.W.keyToksAll (b.p.map nD) ++ [.inl 0])) = _
  rw [lex_cons, lex_cons, lex_cons, toks_nats]
  show (decide ((1 : Int) < 1) || (!decide ((1 : Int) < 1) && (decide (a.t < b.t) || (!decide (b.t < a.t) && (decide ((1 : Int) < 1) || (!decide ((1 : Int) < 1) && lexI a.p b.p)))))) = _
  have e3 : decide ((1 : Int) < 1) = false := by decide
  rw [e3]
  simp only [Bool.false_or, Bool.not_false, Bool.true_and, Lb.lt]
  by_cases h1 : a.t < b.t
  · rw [decide_eq_true h1]
    rfl
  · rw [decide_eq_false h1]
    by_cases h2 : a.t = b.t
    · rw [h2]
      simp
    · rw [decide_eq_true (show b.t < a.t by omega), decide_eq_false h2]
      rfl
theorem alike_nats : ∀ xs ys : List Nat, PySem.W.alikeAll (xs.map nD) (ys.map nD) = true
  | [], _ => by rw [List.map_nil, PySem.W.alikeAll]
  | _ :: _, [] => by rw [List.map_nil, List.map_cons, PySem.W.alikeAll]
  | x :: xs, y :: ys => by
    rw [List.map_cons, List.map_cons, PySem.W.alikeAll, alike_nats xs ys]
    rfl
theorem alike_lb (a b : Lb) : PySem.W.alike (lbD a) (lbD b) = true := by
  unfold lbD
  simp [PySem.W.alike, PySem.W.alikeAll, alike_nats]
theorem depth_nats : ∀ xs : List Nat, PyData.depthAll (xs.map nD) = 0
  | [] => rfl
  | x :: xs => by
    rw [List.map_cons]
    show max 0 (PyData.depthAll _) = 0
    rw [depth_nats xs]
    rfl
theorem depth_lb (a : Lb) : (lbD a).depth ≤ 40 := by
  unfold lbD
  simp only [PyData.depth, PyData.depthAll, depth_nats]
  decide
/-! ### ways -/
def Leads (rs : List RD) : Str → List Nat → Str → Prop
  | h, [], g => h = g
  | h, r :: p, g => ∃ q, rs[r]? = some q ∧ q.b = h ∧ Leads rs q.g p g
def tkO (rs : List RD) (r : Nat) : Int := ((rs[r]?).map (·.t)).getD 0
def tks (rs : List RD) (p : List Nat) : Int := (p.map (tkO rs)).sum
theorem leads_app {rs : List RD} : ∀ {p q : List Nat} {h m g : Str}, Leads rs h p m → Leads rs m q g → Leads rs h (p ++ q) g
  | [], _, _, _, _, e, k => by cases e; exact k
  | _ :: _, _, _, _, _, ⟨q, h1, h2, h3⟩, k => ⟨q, h1, h2, leads_app h3 k⟩
theorem leads_cut {rs : List RD} : ∀ {p q : List Nat} {h g : Str}, Leads rs h (p ++ q) g → ∃ m, Leads rs h p m ∧ Leads rs m q g
  | [], _, h, _, k => ⟨h, rfl, k⟩
  | _ :: _, _, _, _, ⟨q, h1, h2, h3⟩ => by
    obtain ⟨m, a, b⟩ := leads_cut h3
    exact ⟨m, ⟨q, h1, h2, a⟩, b⟩
theorem tks_app (rs : List RD) (p q : List Nat) : tks rs (p ++ q) = tks rs p + tks rs q := by
  unfold tks
  rw [List.map_append, List.sum_append]
theorem tks_one {rs : List RD} {r : Nat} {q : RD} (h : rs[r]? = some q) : tks rs [r] = q.t := by
  unfold tks tkO
  simp [h]
def lab (rs : List RD) (p : List Nat) : Lb := ⟨tks rs p, p⟩
structure Best (rs : List RD) (h g : Str) (l : Lb) : Prop where
  ld : Leads rs h l.p g
  t : l.t = tks rs l.p
  sh : ∀ p, Leads rs h p g → l.p.length ≤ p.length
  mn : ∀ p, Leads rs h p g → p.length = l.p.length → (lab rs p).lt l = false
theorem Best.uniq {rs : List RD} {h g : Str} {l m : Lb} (a : Best rs h g l) (b : Best rs h g m) : l = m := by
  have e : l.p.length = m.p.length := Nat.le_antisymm (a.sh _ b.ld) (b.sh _ a.ld)
  have h1 := a.mn _ b.ld e.symm
  have h2 := b.mn _ a.ld e
  unfold lab at h1 h2
  rw [← b.t] at h1
  rw [← a.t] at h2
  exact Lb.tot h2 h1
theorem lt_snoc {rs : List RD} {a b : Lb} {r : Nat} {t : Int} (h : a.p.length = b.p.length) : Lb.lt ⟨a.t + t, a.p ++ [r]⟩ ⟨b.t + t, b.p ++ [r]⟩ = a.lt b := by
  unfold Lb.lt
  simp only [lexI_snoc r h]
  congr 1
  · exact decide_eq_decide.mpr (by omega)
  · congr 1
    exact decide_eq_decide.mpr (by omega)
/-- one road more -/
def Cand (rs : List RD) (ed : List (Str × Lb)) (g : Str) (l : Lb) : Prop := ∃ e ∈ ed, ∃ r q, rs[r]? = some q ∧ q.b = e.1 ∧ q.g = g ∧ l = ⟨e.2.t + q.t, e.2.p ++ [r]⟩
structure Fnd (C : Str → Lb → Prop) (seen found : List (Str × Lb)) : Prop where
  nd : (found.map (·.1)).Nodup
  f1 : ∀ q ∈ found, C q.1 q.2 ∧ q.1 ∉ seen.map (·.1) ∧ ∀ l, C q.1 l → l.lt q.2 = false
  f2 : ∀ g l, C g l → g ∉ seen.map (·.1) → g ∈ found.map (·.1)
structure WSt (rs : List RD) (h : Str) (k : Nat) (seen ed : List (Str × Lb)) : Prop where
  nd : (seen.map (·.1)).Nodup
  bs : ∀ q ∈ seen, Best rs h q.1 q.2 ∧ q.2.p.length ≤ k
  ed : ∀ q, q ∈ ed ↔ q ∈ seen ∧ q.2.p.length = k
  all : ∀ p g, Leads rs h p g → p.length ≤ k → g ∈ seen.map (·.1)
theorem wst_zero (rs : List RD) (h : Str) : WSt rs h 0 [(h, ⟨0, []⟩)] [(h, ⟨0, []⟩)] where
  nd := by simp
  bs := fun q hq => by
    obtain rfl : q = (h, ⟨0, []⟩) := by simpa using hq
    exact ⟨⟨rfl, rfl, fun p _ => Nat.zero_le _, fun p _ e => by
      have : p = [] := List.eq_nil_of_length_eq_zero e
      subst this
      exact Lb.irr _⟩, Nat.le_refl _⟩
  ed := fun q => by
    constructor
    · intro hq
      refine ⟨hq, ?_⟩
      obtain rfl : q = (h, ⟨0, []⟩) := by simpa using hq
      rfl
    · exact fun hq => hq.1
  all := fun p g l e => by
    have : p = [] := List.eq_nil_of_length_eq_zero (Nat.le_zero.mp e)
    subst this
    have e2 : h = g := l
    simp [e2]
theorem snoc_of {p : List Nat} {k : Nat} (h : p.length = k + 1) : ∃ q r, p = q ++ [r] ∧ q.length = k := by
  refine ⟨p.dropLast, p.getLast (fun e => by rw [e] at h; cases h), (List.dropLast_concat_getLast _).symm, ?_⟩
  rw [List.length_dropLast]
  omega
theorem mem_key {seen : List (Str × Lb)} {g : Str} (h : g ∈ seen.map (·.1)) : ∃ l, (g, l) ∈ seen := by
  obtain ⟨q, hq, rfl⟩ := List.mem_map.mp h
  exact ⟨q.2, hq⟩
/-- to a house not seen, by a road from one at the edge -/
theorem WSt.last {rs : List RD} {h : Str} {k : Nat} {seen ed : List (Str × Lb)} (S : WSt rs h k seen ed) {p : List Nat} {r : Nat} {g : Str} (hl : Leads rs h (p ++ [r]) g) (hk : p.length ≤ k) (hn : g ∉ seen.map (·.1)) :
    ∃ m l q, (m, l) ∈ ed ∧ rs[r]? = some q ∧ q.b = m ∧ q.g = g ∧ Leads rs h p m := by
  obtain ⟨m, h1, q, h2, h3, h4⟩ := leads_cut hl
  have h4 : q.g = g := h4
  obtain ⟨l, hm⟩ := mem_key (S.all p m h1 hk)
  obtain ⟨b, bl⟩ := S.bs _ hm
  refine ⟨m, l, q, (S.ed _).mpr ⟨hm, ?_⟩, h2, h3, h4, h1⟩
  rcases Nat.lt_or_ge l.p.length k with z | z
  · exact absurd (S.all (l.p ++ [r]) g (leads_app b.ld ⟨q, h2, h3, h4⟩) (by rw [List.length_append]; show l.p.length + 1 ≤ k; omega)) hn
  · exact Nat.le_antisymm bl z
theorem WSt.step {rs : List RD} {h : Str} {k : Nat} {seen ed found : List (Str × Lb)} (S : WSt rs h k seen ed) (F : Fnd (Cand rs ed) seen found) : WSt rs h (k + 1) (seen ++ found) found := by
  have far : ∀ q ∈ found, ∀ p, Leads rs h p q.1 → k + 1 ≤ p.length := fun q hq p hp => by
    rcases Nat.lt_or_ge p.length (k + 1) with z | z
    · exact absurd (S.all p _ hp (by omega)) (F.f1 q hq).2.1
    · exact z
  have len : ∀ q ∈ found, q.2.p.length = k + 1 := fun q hq => by
    obtain ⟨⟨e, he, r, u, h1, h2, h3, h4⟩, _⟩ := F.f1 q hq
    rw [h4]
    show (e.2.p ++ [r]).length = k + 1
    rw [List.length_append, ((S.ed e).mp he).2]
    rfl
  refine ⟨?_, fun q hq => ?_, fun q => ?_, fun p g hl hk => ?_⟩
  · rw [List.map_append, List.nodup_append]
    refine ⟨S.nd, F.nd, fun a ha b hb => ?_⟩
    obtain ⟨q, hq, rfl⟩ := List.mem_map.mp hb
    exact fun z => (F.f1 q hq).2.1 (z ▸ ha)
  · rcases List.mem_append.mp hq with z | z
    · obtain ⟨b, bl⟩ := S.bs q z
      exact ⟨b, by omega⟩
    · have l1 := len q z
      obtain ⟨⟨e, he, r, u, h1, h2, h3, h4⟩, hn, mn⟩ := F.f1 q z
      obtain ⟨hes, hel⟩ := (S.ed e).mp he
      obtain ⟨be, _⟩ := S.bs e hes
      refine ⟨⟨?_, ?_, fun p hp => by rw [l1]; exact far q z p hp, fun p hp pl => ?_⟩, by omega⟩
      · rw [h4]
        exact leads_app be.ld ⟨u, h1, h2, h3⟩
      · rw [h4]
        show e.2.t + u.t = tks rs (e.2.p ++ [r])
        rw [tks_app, tks_one h1, be.t]
      · obtain ⟨p0, r0, rfl, p0l⟩ := snoc_of (pl.trans l1)
        obtain ⟨m, l, u2, k1, k2, k3, k4, k5⟩ := S.last hp (by omega) hn
        obtain ⟨kb, kl⟩ := (S.ed _).mp k1
        obtain ⟨bm, _⟩ := S.bs _ kb
        have c := mn _ ⟨(m, l), k1, r0, u2, k2, k3, k4, rfl⟩
        refine Lb.le_trans c ?_
        have e1 : lab rs (p0 ++ [r0]) = ⟨(lab rs p0).t + u2.t, (lab rs p0).p ++ [r0]⟩ := by
          unfold lab
          rw [tks_app, tks_one k2]
        rw [e1]
        have e2 : (lab rs p0).p.length = l.p.length := by
          show p0.length = _
          have : l.p.length = k := kl
          omega
        rw [lt_snoc (rs := rs) e2]
        exact bm.mn p0 k5 (by have : l.p.length = k := kl; show p0.length = l.p.length; omega)
  · constructor
    · intro hq
      exact ⟨List.mem_append_right _ hq, len q hq⟩
    · rintro ⟨hq, hl⟩
      rcases List.mem_append.mp hq with z | z
      · have := (S.bs q z).2
        omega
      · exact z
  · rw [List.map_append]
    rcases Nat.lt_or_ge p.length (k + 1) with z | z
    · exact List.mem_append_left _ (S.all p g hl (by omega))
    · by_cases hn : g ∈ seen.map (·.1)
      · exact List.mem_append_left _ hn
      · obtain ⟨p0, r0, rfl, p0l⟩ := snoc_of (show p.length = k + 1 by omega)
        obtain ⟨m, l, u2, k1, k2, k3, k4, k5⟩ := S.last hl (by omega) hn
        exact List.mem_append_right _ (F.f2 g _ ⟨(m, l), k1, r0, u2, k2, k3, k4, rfl⟩ hn)
/-- where a goal isn't seen, some house more is found -/
theorem WSt.more {rs : List RD} {h : Str} {k : Nat} {seen ed found : List (Str × Lb)} (S : WSt rs h k seen ed) (F : Fnd (Cand rs ed) seen found) {p : List Nat} {g : Str} (hl : Leads rs h p g) (hn : g ∉ seen.map (·.1)) : found ≠ [] := by
  suffices ∀ (q p0 : List Nat) (m : Str), Leads rs h p0 m → m ∈ seen.map (·.1) → Leads rs m q g → ∃ v l, Cand rs ed v l ∧ v ∉ seen.map (·.1) by
    obtain ⟨v, l, c, hv⟩ := this p [] h rfl (S.all [] h rfl (Nat.zero_le _)) hl
    have := F.f2 v l c hv
    intro e
    rw [e] at this
    cases this
  intro q
  induction q with
  | nil =>
    intro p0 m _ hm e
    have e : m = g := e
    exact absurd (e ▸ hm) hn
  | cons r q ih =>
    intro p0 m h0 hm ⟨u, h1, h2, h3⟩
    by_cases hv : u.g ∈ seen.map (·.1)
    · exact ih (p0 ++ [r]) u.g (leads_app h0 ⟨u, h1, h2, rfl⟩) hv h3
    · obtain ⟨l, hml⟩ := mem_key hm
      obtain ⟨b, bl⟩ := S.bs _ hml
      have hk : l.p.length = k := by
        rcases Nat.lt_or_ge l.p.length k with z | z
        · exact absurd (S.all (l.p ++ [r]) u.g (leads_app b.ld ⟨u, h1, h2, rfl⟩) (by rw [List.length_append]; show l.p.length + 1 ≤ k; omega)) hv
        · exact Nat.le_antisymm bl z
      exact ⟨u.g, _, ⟨(m, l), (S.ed _).mpr ⟨hml, hk⟩, r, u, h1, h2, rfl, rfl⟩, hv⟩
end TP

namespace TP
open PySem PySem.Spec PyProof.Rows L2
/-! ### d.update(e) -/
def rDUpd : V → List V → Hp → VK → Prop := fun x vs H Q => ∃ (a b : Addr) (kvs more : List (Key × V)), x = .ref a ∧ vs = [.ref b] ∧ H a = some (.dK kvs) ∧ H b = some (.dK more) ∧ a ≠ b ∧ kvs.length + more.length ≤ 10000 ∧ Q .non (upd H a (.dK (mergeK kvs more)))
theorem mtd_update {X : Cx} : MtR X "dict.update" rDUpd := by
  intro pins s σ H x vs v us Q I rx rv h
  obtain ⟨a, b, kvs, more, rfl, rfl, ha, hb, ne, hz, q⟩ := h
  obtain rfl : v = Value.ref a := rx
  obtain ⟨u, rfl, ru⟩ := vals1 rv
  obtain rfl : u = Value.ref b := ru
  obtain ⟨z1, hd1, vs1, rel1, dd1⟩ := dk_of I.hok ha
  obtain ⟨z2, hd2, vs2, rel2, dd2⟩ := dk_of I.hok hb
  have l1 := rel1.length
  have l2 := rel2.length
  refine call_meetsIn PySem.F.slot_dict_update dd1.typeIs PySem.F.entry_dict_update (PySem.F.args_dict_update_2 _ _) (meets_dict_update (mixKind X.prog X.w) a b ne hd2) ⟨vs1, vs2, dd1, dd2, by rw [← l1, ← l2, sizeLine_eq]; omega, fun h' dd' _ hs => ?_⟩
  have he : ∃ q, h'.get? a = some q := let ⟨q, _, _, hq, _⟩ := dd'; ⟨q, hq⟩
  have rm := KV.merge rel2 rel1
  have ml : (mergeK kvs more).length ≤ kvs.length + more.length := by
    clear q ha hb rel1 rel2 hz z1 z2 l1 l2 rm
    unfold mergeK
    induction more generalizing kvs with
    | nil => exact Nat.le_add_right _ _
    | cons p r ih =>
      have := ih (putK kvs p.1 p.2)
      have pl : (putK kvs p.1 p.2).length ≤ kvs.length + 1 := by
        unfold putK
        split
        · rw [List.length_map]; omega
        · rw [List.length_append]; exact Nat.le_refl _
      show (r.foldl _ (putK kvs p.1 p.2)).length ≤ kvs.length + (r.length + 1)
      omega
  exact ⟨.non, _, d_write (t' := s.toks) I (by rw [ha]; exact True.intro) hs he (dk_new (by rw [sizeLine_eq]; omega) hd1 rm dd'), rfl, q⟩
/-! ### sorted(rows of alike things) -/
abbrev srt (bs : List (V × PyData)) : List (V × PyData) := bs.mergeSort (PySem.W.dataLe false fun b => b.2)
structure SrtOk (K : PySem.W.Frag) (H : Hp) (bs : List (V × PyData)) : Prop where
  dr : ∀ b ∈ bs, Dr K H b.1 b.2 ∧ b.2.depth ≤ 40
  al : ∀ b ∈ bs, ∀ c ∈ bs, PySem.W.alike b.2 c.2 = true
  so : PySem.W.Sortable (bs.map fun b => b.2)
  ln : bs.length ≤ 10000
def rSortD (K : PySem.W.Frag) : List V → Hp → VK → Prop := fun vs H Q => ∃ (a : Addr) (bs : List (V × PyData)), vs = [.ref a] ∧ SqL K H a (bs.map fun b => b.1) ∧ SrtOk K H bs ∧ ∀ p, H p = none → Q (.ref p) (upd H p (.lst ((srt bs).map fun b => b.1)))
theorem each_of {α β : Type} {R : α → β → Prop} : ∀ {xs : List α} {ys : List β}, xs.length = ys.length → (∀ (i : Nat) x y, xs[i]? = some x → ys[i]? = some y → R x y) → PySem.W.EachIs R xs ys
  | [], [], _, _ => .nil
  | [], _ :: _, h, _ => by cases h
  | _ :: _, [], h, _ => by cases h
  | x :: xs, y :: ys, h, k => .cons (k 0 x y rfl rfl) (each_of (Nat.succ.inj h) fun i a b h1 h2 => k (i + 1) a b h1 h2)
theorem vals_at : ∀ {vs : List V} {us : List Value} {i : Nat} {v : V} {u : Value}, Vals vs us → vs[i]? = some v → us[i]? = some u → RelV v u
  | _, _, 0, _, _, .cons r _, h, k => by cases h; cases k; exact r
  | _, _, i + 1, _, _, .cons _ r, h, k => vals_at (i := i) r h k
theorem each_vals : ∀ {us : List Value} {bs : List (V × PyData)}, PySem.W.EachIs (fun u b => RelV b.1 u) us bs → Vals (bs.map fun b => b.1) us
  | _, _, .nil => .nil
  | _, _, .cons r t => .cons r (each_vals t)
theorem srt_each {X : Cx} {pins : List (Addr × Obj)} {σ : L2.St} {H : Hp} {s : Shared} (hS : SysK X.K) (I : Inv X pins σ H s) {bs : List (V × PyData)} {its : List Value} (rv : Vals (bs.map fun b => b.1) its) (ok : SrtOk X.K H bs) :
    PySem.W.EachIs (fun u (b : V × PyData) => RelV b.1 u) its bs ∧ PySem.W.EachIs (fun u (b : V × PyData) => ∃ as, Reads s.heap u b.2 as) its bs := by
  have ll : its.length = bs.length := by
    have := rv.length
    rw [List.length_map] at this
    exact this.symm
  have one : ∀ (i : Nat) (u : Value) (b : V × PyData), its[i]? = some u → bs[i]? = some b → RelV b.1 u := fun i u b h1 h2 => vals_at (v := b.1) rv (by rw [List.getElem?_map, h2]; rfl) h1
  refine ⟨each_of ll one, each_of ll fun i u b h1 h2 => ?_⟩
  obtain ⟨as, r, _⟩ := Dr.reads hS I b.2 _ _ (ok.dr b (List.mem_of_getElem? h2)).1 (one i u b h1 h2)
  exact ⟨as, r⟩
theorem SrtOk.all {K : PySem.W.Frag} {H : Hp} {bs : List (V × PyData)} (ok : SrtOk K H bs) : PySem.W.AllAlike (bs.map fun b => b.2) := fun d hd e he => by
  obtain ⟨b, hb, rfl⟩ := List.mem_map.mp hd
  obtain ⟨c, hc, rfl⟩ := List.mem_map.mp he
  exact ok.al b hb c hc
theorem cr_sortD {X : Cx} (hS : SysK X.K) (hu : X.A.units + 64 < cLine) : CallR X (.builtin "sorted") (rSortD X.K) := by
  intro pins s σ H xs us Q I r h
  obtain ⟨a, bs, rfl, hq, ok, q⟩ := h
  obtain ⟨u, rfl, ru⟩ := vals1 r
  obtain rfl : u = Value.ref a := ru
  obtain ⟨its, rv, hl, z⟩ := I.list hq
  obtain ⟨e1, e2⟩ := srt_each hS I rv ok
  refine PySem.W.sorted_data (R := fun u (b : V × PyData) => RelV b.1 u) (enc := fun b => b.2) hl.isList e1 e2 ok.all ok.so (by have := ok.ln; rw [sizeLine_eq]; omega) (fun b hb => by have := (ok.dr b hb).2; omega) fun out ol oe => ?_
  obtain ⟨ep, he'⟩ := PyProof.Rows.sortedAll_at s.heap its out.toArray
  have sl : ((srt bs).map fun b => b.1).length ≤ sizeLine := by
    have := ok.ln
    rw [List.length_map, List.length_mergeSort, sizeLine_eq]
    omega
  refine ⟨.ref _, upd H (s.heap.objs.size + 1) (.lst ((srt bs).map fun b => b.1)), I.laid (t' := s.toks) (fun _ _ => PyProof.Rows.sortedAll_old) (Nat.le_succ _) ⟨sl, out, ep, each_vals oe, ?_⟩, rfl, q _ (I.hok.fresh (Nat.le_succ _))⟩
  exact he'
end TP

namespace TP
open PySem PySem.Spec PyProof.Rows L2
/-! ### sets of a few tuples of ints and texts -/
abbrev KeyAt (P : Program) (w : World) (h : Heap) (ks : List Key) (b : Addr) : Prop := IsTupleKey (mixKind P w) h ks b
abbrev kh (P : Program) (w : World) (ks : List Key) : Int := tupleKeyHash (mixKind P w) ks
def Scal (v : Value) : Prop := (∃ i t, v = .int i t) ∨ ∃ x t, v = .str x t
section
variable {P : Program} {w : World} {A : Around} {E : Value → Shared → Prop} {s : Shared}
theorem keys_scal {ks : List Key} {us : List Value} (h : ItemsAre (mixKind P w) ks us) : ∀ u ∈ us, Scal u := by
  induction h with
  | nil => exact fun _ z => nomatch z
  | cons q _ ih =>
    intro u hu
    rcases List.mem_cons.mp hu with e | hu
    · subst e
      rcases keyIs_shape q with ⟨i, t, _, e⟩ | ⟨x, t, _, e⟩
      · exact .inl ⟨i, t, e⟩
      · exact .inr ⟨x, t, e⟩
    · exact ih u hu
theorem Scal.noStmt {v : Value} (h : Scal v) (n : Nat) : ofAClassStatement n v = pure false := by
  rcases h with ⟨i, t, rfl⟩ | ⟨x, t, rfl⟩ <;> cases n <;> rfl
theorem Scal.byVal {v : Value} (h : Scal v) (n : Nat) : ∃ c, hashByValue n v = pure c := by
  rcases h with ⟨i, t, rfl⟩ | ⟨x, t, rfl⟩
  · exact ⟨true, by cases n <;> rfl⟩
  · exact ⟨false, by cases n <;> rfl⟩
theorem key_noStmt {ks : List Key} {b : Addr} {Q : Bool → Shared → Prop} (hk : KeyAt P w s.heap ks b) (q : Q false s) : wpAny (model P w) A (ofAClassStatement 8 (.ref b)) Q E s := by
  have ty := hk.typeIs
  obtain ⟨o, its, n, ob, _, dat, sc⟩ := hk
  have sc := keys_scal sc
  unfold ofAClassStatement
  refine wpAny_bind (wpAny_typeOf ty ?_)
  have e0 : (("tuple" : String) == "tuple") = true := by decide
  simp only [e0, if_true, Bool.not_true, Bool.false_eq_true, if_false]
  refine wpAny_bind (wpAny_pure ?_)
  simp only [Bool.not_true, Bool.false_eq_true, if_false]
  refine wpAny_bind (wpAny_seqItems ob dat (wpAny_bind ?_))
  try dsimp only
  rw [← Array.forIn_toList]
  refine wpAny_forIn_list _ (fun todo r z => (r.1 = none ∧ z = s) ∧ ∀ u ∈ todo, Scal u) _ (fun u todo r z hz => ?_) (fun r z hz => ?_) _ _ ⟨⟨rfl, rfl⟩, sc⟩
  · obtain ⟨⟨_, rfl⟩, al⟩ := hz
    rw [(al u List.mem_cons_self).noStmt]
    refine wpAny_bind (wpAny_pure ?_)
    simp only [Bool.false_eq_true, if_false]
    exact wpAny_pure ⟨⟨rfl, rfl⟩, fun u' h' => al u' (List.mem_cons_of_mem _ h')⟩
  · obtain ⟨⟨e, rfl⟩, _⟩ := hz
    obtain ⟨r1, r2⟩ := r
    obtain rfl : r1 = none := e
    exact wpAny_pure q
theorem key_byVal {ks : List Key} {b : Addr} {Q : Bool → Shared → Prop} (hk : KeyAt P w s.heap ks b) (q : ∀ c, Q c s) : wpAny (model P w) A (hashByValue 8 (.ref b)) Q E s := by
  have ty := hk.typeIs
  obtain ⟨o, its, n, ob, _, dat, sc⟩ := hk
  have sc := keys_scal sc
  unfold hashByValue
  refine wpAny_bind (wpAny_specialOf ty PySem.F.slot_tuple_hash.lookup ?_)
  refine wpAny_bind (wpAny_seqItems ob dat (wpAny_bind ?_))
  try dsimp only
  rw [← Array.forIn_toList]
  refine wpAny_forIn_list _ (fun todo r z => (r.1 = none ∧ z = s) ∧ ∀ u ∈ todo, Scal u) _ (fun u todo r z hz => ?_) (fun r z hz => ?_) _ _ ⟨⟨rfl, rfl⟩, sc⟩
  · obtain ⟨⟨_, rfl⟩, al⟩ := hz
    obtain ⟨c, hc⟩ := (al u List.mem_cons_self).byVal 7
    rw [hc]
    refine wpAny_bind (wpAny_pure ?_)
    cases c
    · simp only [Bool.not_false, if_true]
      exact wpAny_pure (wpAny_pure (q _))
    · simp only [Bool.not_true, Bool.false_eq_true, if_false]
      exact wpAny_pure ⟨⟨rfl, rfl⟩, fun u' h' => al u' (List.mem_cons_of_mem _ h')⟩
  · obtain ⟨⟨e, rfl⟩, _⟩ := hz
    obtain ⟨r1, r2⟩ := r
    obtain rfl : r1 = none := e
    exact wpAny_pure (q _)
theorem key_unseen {ks : List Key} {b : Addr} {Q : Bool → Shared → Prop} (hk : KeyAt P w s.heap ks b) {ys : List Value} (hy : ∀ y ∈ ys, ∃ c js, y = Value.ref c ∧ KeyAt P w s.heap js c) (q : Q false s) : wpAny (model P w) A (searchCouldBeSeen (.ref b) ys) Q E s := by
  unfold searchCouldBeSeen
  refine wpAny_bind (wpAny_forIn_list _ (fun todo r z => (r.1 = none ∧ z = s) ∧ ∀ y ∈ todo, ∃ c js, y = Value.ref c ∧ KeyAt P w s.heap js c) _ (fun u todo r z hz => ?_) (fun r z hz => ?_) _ _ ⟨⟨rfl, rfl⟩, hy⟩)
  · obtain ⟨⟨_, rfl⟩, al⟩ := hz
    obtain ⟨c, js, rfl, kc⟩ := al u List.mem_cons_self
    have al' := fun u' h' => al u' (List.mem_cons_of_mem (Value.ref c) h')
    dsimp only
    by_cases hv : (b == c || (carriedByValue (.ref b) && carriedByValue (.ref c))) = true
    · exact wp_if_pos hv (wpAny_pure ⟨⟨rfl, rfl⟩, al'⟩)
    · refine wp_if_neg hv ?_
      refine wpAny_bind (wpAny_eqIsQuiet_tuple hk ?_)
      simp only [Bool.not_true, Bool.false_eq_true, if_false]
      refine wpAny_bind (wpAny_eqIsQuiet_tuple kc ?_)
      simp only [Bool.not_true, Bool.false_eq_true, if_false]
      refine wpAny_bind (key_noStmt hk ?_)
      simp only [Bool.false_eq_true, if_false]
      refine wpAny_bind (key_noStmt kc ?_)
      simp only [Bool.false_eq_true, if_false]
      exact wpAny_pure ⟨⟨rfl, rfl⟩, al'⟩
  · obtain ⟨⟨e, rfl⟩, _⟩ := hz
    obtain ⟨r1, r2⟩ := r
    obtain rfl : r1 = none := e
    exact wpAny_pure q
/-- the set at a: its rows in the table's order, none twice -/
structure KSet (P : Program) (w : World) (h : Heap) (a : Addr) (L : List (Addr × List Key)) (es : Array (Int × Value)) (t : SetTable) : Prop where
  ob : ∃ o ep, h.get? a = some o ∧ o.ExactSet ∧ o.data = .set es ep t
  ro : es.toList = L.map fun p => (kh P w p.2, Value.ref p.1)
  tab : TabOk t (L.map fun p => kh P w p.2)
  un : (L.map (·.2)).Nodup
  led : w.params.followText "set-order" = true ∨ t.led = true
  m7 : t.mask = 7
  few : L.length ≤ 4
variable {a : Addr} {L : List (Addr × List Key)} {es : Array (Int × Value)} {t : SetTable}
theorem KSet.len (S : KSet P w s.heap a L es t) : es.size = L.length := by
  rw [← Array.length_toList, S.ro, List.length_map]
theorem KSet.pl (S : KSet P w s.heap a L es t) : t.place.size = L.length := by
  rw [S.tab.sz, List.length_map]
theorem KSet.fit (S : KSet P w s.heap a L es t) : t.fits es.size = true := by
  have h1 := S.pl
  have h2 := S.len
  have h3 := S.m7
  have h4 := S.few
  unfold SetTable.fits SetTable.fill
  rw [S.tab.dm, Bool.and_eq_true, beq_iff_eq, decide_eq_true_eq]
  exact ⟨by omega, by show t.place.size + 0 ≤ t.mask; omega⟩
theorem KSet.at (S : KSet P w s.heap a L es t) {i : Nat} {p : Addr × List Key} (hp : L[i]? = some p) : es[i]? = some (kh P w p.2, .ref p.1) := by
  have : es.toList[i]? = some (kh P w p.2, .ref p.1) := by rw [S.ro, List.getElem?_map, hp]; rfl
  rwa [Array.getElem?_toList] at this
theorem nth_nodummy (m : Nat) : ∀ (c : Nat) (p : SetTable.Probe), p.dummy = none → (nth m p c).dummy = none
  | 0, _, h => h
  | c + 1, p, h => nth_nodummy m c (adv m p) (by unfold adv; split <;> exact h)
/-- the search for a tuple: it is there, or the first free slot on its way is told -/
theorem KSet.find (S : KSet P w s.heap a L es t) (keys : ∀ p ∈ L, KeyAt P w s.heap p.2 p.1) {x : Addr} {ks : List Key} (kx : KeyAt P w s.heap ks x) (hu : A.units < cLine) {Q : SetFound → Shared → Prop}
    (yes : ks ∈ L.map (·.2) → Q (.there none) s) (no : ∀ N, ks ∉ L.map (·.2) → way t.mask (kh P w ks) N ∉ t.place.toList → (∀ c, c < N → way t.mask (kh P w ks) c ∈ t.place.toList) → Q (.free (way t.mask (kh P w ks) N) false) s) :
    wpAny (model P w) A (setSearch a (.ref x) (kh P w ks) true) Q E s := by
  have few := S.few
  have m7 := S.m7
  obtain ⟨N, Nb, Nfree, Nbusy⟩ := S.tab.first (by rw [List.length_map]; omega) (kh P w ks)
  have Nb2 : N < 100000 := by
    rw [m7] at Nb
    have : 10 * SetTable.turns 7 ≤ 1000 := by decide
    omega
  obtain ⟨o, ep, ho, hex, hd⟩ := S.ob
  generalize hh : kh P w ks = hsh at Nb Nfree Nbusy yes no ⊢
  obtain ⟨p0, hp0⟩ : ∃ p0, p0 = runAt t.mask (SetTable.bits hsh % (t.mask + 1)) (SetTable.bits hsh) := ⟨_, rfl⟩
  have wy : ∀ c, way t.mask hsh c = (nth t.mask p0 c).j := fun c => by rw [hp0]
  have hash_at : ∀ {i : Nat} {p : Addr × List Key}, L[i]? = some p → ((es[i]?.map (·.1)).getD 0) = kh P w p.2 := fun {i p} hp => by rw [S.at hp]; rfl
  -- all steps from the c-th on
  have walk : ∀ (f c : Nat) (st : Option SetTable.Probe), st.getD (t.probeStart hsh) = nth t.mask p0 c → c ≤ N → N < c + f →
      (∀ (i : Nat) (p : Addr × List Key), L[i]? = some p → p.2 = ks → ∃ d, c ≤ d ∧ d < N ∧ t.place.toList[i]? = some (way t.mask hsh d)) → wpAny (model P w) A (setSearchFrom a (.ref x) hsh true f st) Q E s := by
    intro f
    induction f with
    | zero => intro c st _ h1 h2; exact absurd h2 (by omega)
    | succ f ih =>
      intro c st est cN Nf ahead
      rw [setSearchFrom_succ]
      refine wpAny_bind (wpAny_setState_of ho hd S.fit ?_)
      dsimp only
      refine wp_if_neg (by unfold SetTable.gaveWay; rw [m7]; decide) ?_
      have join : ∀ d, nth t.mask (nth t.mask p0 c) d = nth t.mask p0 (c + d) := fun d => (nth_add t.mask c p0 d).symm
      have probe := go_spec t S.tab.ris S.tab.dm (fun i => (es[i]?.map (·.1)).getD 0) hsh (10 * SetTable.turns t.mask) (N - c) (nth t.mask p0 c) (nth_nodummy _ c p0 (by rw [hp0]; rfl)) (by omega)
        (fun d hd => by rw [join, ← wy]; exact Nbusy _ (by omega)) (by rw [join, show c + (N - c) = N by omega, ← wy]; exact Nfree)
      rcases probe with ⟨d, i, dl, pi, hi, before, met⟩ | ⟨none_, met⟩
      · rw [join, ← wy] at pi
        rw [join, join, ← wy] at met
        have met' : t.probe (fun i => (es[i]?.map (·.1)).getD 0) hsh (st.getD (t.probeStart hsh)) = some (.candidate (way t.mask hsh (c + d)) i (nth t.mask p0 (c + (d + 1)))) := by rw [est]; exact met
        rw [met']
        dsimp only
        have il : i < L.length := by
          have := (List.getElem?_eq_some_iff.mp pi).1
          rw [Array.length_toList, S.pl] at this
          exact this
        obtain ⟨p, hp⟩ : ∃ p, L[i]? = some p := ⟨_, List.getElem?_eq_getElem il⟩
        have pm := List.mem_of_getElem? hp
        have body : wpAny (model P w) A (searchRest a (.ref x) hsh true f es t (way t.mask hsh (c + d)) i (nth t.mask p0 (c + (d + 1)))) Q E s := by
          unfold searchRest
          rw [S.at hp]
          dsimp only
          refine wpAny_bind (wpAny_holding (wpAny_eqBool_tuple hu (keys p pm) kx ?_))
          refine wpAny_bind (wpAny_setState_of ho hd S.fit ?_)
          dsimp only
          by_cases same : p.2 = ks
          · rw [decide_eq_true same]
            refine wp_if_pos rfl (wpAny_pure (yes (List.mem_map.mpr ⟨p, pm, same⟩)))
          · rw [decide_eq_false same]
            refine wp_if_neg Bool.false_ne_true ?_
            rw [sameMem]
            dsimp only
            have live : t.slot (way t.mask hsh (c + d)) = .live i := slot_live S.tab.ris pi
            simp only [if_true, live, S.at hp]
            refine wpAny_bind (wpAny_isSame_ref_self (wpAny_bind (wpAny_pure ?_)))
            simp only [if_true]
            refine wp_if_neg Bool.false_ne_true ?_
            refine ih (c + (d + 1)) _ rfl (by omega) (by omega) fun i' p' hp' e' => ?_
            obtain ⟨d', c1, c2, c3⟩ := ahead i' p' hp' e'
            refine ⟨d', ?_, c2, c3⟩
            have n1 : ¬ d' < c + d := fun z => by
              refine before (d' - c) i' (by omega) (by rw [join, ← wy, show c + (d' - c) = d' by omega]; exact c3) ?_
              show (es[i']?.map (·.1)).getD 0 = hsh
              rw [hash_at hp', e', hh]
            have n2 : d' ≠ c + d := fun z => by
              rw [z] at c3
              have l2 := slot_live S.tab.ris c3
              rw [live] at l2
              obtain rfl : i = i' := by injection l2
              rw [hp] at hp'
              exact same (by rw [Option.some.inj hp']; exact e')
            omega
        by_cases ld : t.led = true
        · exact wp_if_neg (by rw [ld]; decide) body
        · refine wp_if_pos (by simpa using ld) (wpAny_bind (key_unseen kx (fun y hy => ?_) ?_))
          · obtain ⟨e, he, rfl⟩ := List.mem_map.mp hy
            have he : e ∈ es := by
              have : e ∈ es ∧ e.1 = hsh := by simpa using he
              exact this.1
            have he : e ∈ L.map fun p => (kh P w p.2, Value.ref p.1) := by rw [← S.ro]; simpa using he
            obtain ⟨q, hq, rfl⟩ := List.mem_map.mp he
            exact ⟨q.1, q.2, rfl, keys q hq⟩
          · exact wp_if_neg (by decide) body
      · rw [join, show c + (N - c) = N by omega, ← wy] at met
        have met' : t.probe (fun i => (es[i]?.map (·.1)).getD 0) hsh (st.getD (t.probeStart hsh)) = some (.empty (way t.mask hsh N) none) := by rw [est]; exact met
        rw [met']
        dsimp only
        refine wpAny_pure (no N (fun z => ?_) Nfree Nbusy)
        obtain ⟨p, pm, e⟩ := List.mem_map.mp z
        obtain ⟨i, hi⟩ := List.mem_iff_getElem?.mp pm
        obtain ⟨d, c1, c2, c3⟩ := ahead i p hi e
        refine none_ (d - c) i (by omega) (by rw [join, ← wy, show c + (d - c) = d by omega]; exact c3) ?_
        show (es[i]?.map (·.1)).getD 0 = hsh
        rw [hash_at hi, e, hh]
  unfold setSearch
  refine walk 100000 0 none (by rw [hp0]; rfl) (Nat.zero_le _) (by omega) fun i p hp e => ?_
  have hi : (L.map fun p => kh P w p.2)[i]? = some hsh := by rw [List.getElem?_map, hp, ← hh, ← e]; rfl
  have il : i < t.place.toList.length := by rw [Array.length_toList, S.pl]; exact (List.getElem?_eq_some_iff.mp hp).1
  obtain ⟨d, dl, ed⟩ := S.tab.before Nfree hi (List.getElem?_eq_getElem il)
  exact ⟨d, Nat.zero_le _, dl, by rw [List.getElem?_eq_getElem il, ed]⟩
theorem KeyAt.but {h h' : Heap} {ks : List Key} {a b : Addr} {o : Obj} {es : Array (Int × Value)} {ep : Nat} {t : SetTable} (k : KeyAt P w h ks b) (ho : h.get? a = some o) (hd : o.data = .set es ep t) (sb : Heap.SameBut a h h') : KeyAt P w h' ks b := by
  obtain ⟨ob, its, n, e1, e2, e3, e4⟩ := k
  refine ⟨ob, its, n, (sb.2 b fun z => ?_).trans e1, e2, e3, e4⟩
  rw [z, ho] at e1
  rw [← Option.some.inj e1, hd] at e3
  cases e3
theorem KeyAt.on {h h' : Heap} {ks : List Key} {b : Addr} (k : KeyAt P w h ks b) (e : ∀ c o, h.get? c = some o → h'.get? c = some o) : KeyAt P w h' ks b := by
  obtain ⟨ob, its, n, e1, r⟩ := k
  exact ⟨ob, its, n, e _ _ e1, r⟩
theorem KSet.put (S : KSet P w s.heap a L es t) (keys : ∀ p ∈ L, KeyAt P w s.heap p.2 p.1) (l3 : L.length ≤ 3) {x : Addr} {ks : List Key} (kx : KeyAt P w s.heap ks x) (hu : A.units < cLine) {Q : Bool → Shared → Prop}
    (q : ∀ (b : Bool) (h' : Heap) (L' : List (Addr × List Key)) (es' : Array (Int × Value)) (t' : SetTable), Heap.SameBut a s.heap h' → KSet P w h' a L' es' t' → (ks ∈ L.map (·.2) ∧ L' = L ∨ ks ∉ L.map (·.2) ∧ L'.Perm ((x, ks) :: L)) → Q b { s with heap := h' }) :
    wpAny (model P w) A (setAddHashed a (.ref x) (kh P w ks)) Q E s := by
  obtain ⟨o, ep, ho, hex, hd⟩ := S.ob
  have few := S.few
  have el := S.len
  have m7 := S.m7
  unfold setAddHashed
  rw [show (100000 : Nat) = 99999 + 1 from rfl]
  refine wpAny_holding ?_
  rw [setAddHashedIn_succ]
  refine wpAny_bind (wpAny_setState_of ho hd S.fit ?_)
  dsimp only
  refine wp_if_neg (by unfold byScan; simp [Value.scannable]) (wpAny_bind (S.find keys kx hu (fun hm => ?_) fun N hm Nf Nb => ?_))
  · dsimp only
    exact wpAny_pure (q _ s.heap L es t (Heap.SameBut.refl a s.heap) S (.inl ⟨hm, rfl⟩))
  dsimp only
  refine wpAny_bind (wpAny_setState_of ho hd S.fit ?_)
  dsimp only
  obtain ⟨q1, q2, q3, q4, q5, _, _, _, q9⟩ := S.tab.put Nf Nb
  generalize hpt : t.put (way t.mask (kh P w ks) N) = pt at q1 q3 q4 q5 q9 ⊢
  obtain ⟨t1, pl⟩ := pt
  dsimp only at q1 q3 q4 q5 q9 ⊢
  subst q1
  generalize SetTable.below t.place (way t.mask (kh P w ks) N) = i at q2 q3 ⊢
  rw [List.length_map] at q2 q9
  have rest : ∀ c : Bool, wpAny (model P w) A (do
      let t2 := if c then t1 else { t1 with plain := false }
      storeSet a (SetTable.insertAt es i (kh P w ks, .ref x)) t2
      if !false && t2.tooFull then setRelay a (SetTable.grown (es.size + 1))
      return true) Q E s := fun c => by
    have pm : (L.take i ++ (x, ks) :: L.drop i).Perm ((x, ks) :: L) := by
      have : (L.take i ++ (x, ks) :: L.drop i).Perm ((x, ks) :: (L.take i ++ L.drop i)) := List.perm_middle
      rwa [List.take_append_drop] at this
    have hs : (L.take i ++ (x, ks) :: L.drop i).map (fun p => kh P w p.2) = (L.map fun p => kh P w p.2).take i ++ kh P w ks :: (L.map fun p => kh P w p.2).drop i := by
      rw [List.map_append, List.map_cons, List.map_take, List.map_drop]
    have rows : (SetTable.insertAt es i (kh P w ks, Value.ref x)).toList = (L.take i ++ (x, ks) :: L.drop i).map fun p => (kh P w p.2, Value.ref p.1) := by
      rw [SetTable.toList_insertAt, S.ro, List.map_append, List.map_cons, List.map_take, List.map_drop]
    rw [← hs] at q3
    generalize L.take i ++ (x, ks) :: L.drop i = L1 at pm q3 rows
    generalize SetTable.insertAt es i (kh P w ks, Value.ref x) = es1 at rows ⊢
    have L1l : L1.length = L.length + 1 := pm.length_eq
    have e1l : es1.size = L.length + 1 := by rw [← Array.length_toList, rows, List.length_map, L1l]
    obtain ⟨t2, ht2⟩ : ∃ t2, t2 = if c then t1 else { t1 with plain := false } := ⟨_, rfl⟩
    have z1 : t2.place = t1.place ∧ t2.dummies = t1.dummies ∧ t2.mask = t1.mask ∧ t2.led = t1.led ∧ t2.fill = t1.fill := by
      rw [ht2]
      cases c <;> exact ⟨rfl, rfl, rfl, rfl, rfl⟩
    obtain ⟨z1, z2, z3, z4, z5⟩ := z1
    have T2 : TabOk t2 (L1.map fun p => kh P w p.2) := by
      obtain ⟨y1, y2, y3, y4, y5, y6⟩ := q3
      refine ⟨by rw [z1]; exact y1, by rw [z2]; exact y2, by rw [z1]; exact y3, by rw [z3]; exact y4, by rw [z1, z3]; exact y5, ?_⟩
      rw [z1, z3]
      exact y6
    show wpAny _ _ (storeSet a es1 (if c then t1 else { t1 with plain := false }) >>= fun _ => _) _ _ _
    rw [← ht2]
    refine wpAny_bind (wpAny_storeSet_of ho hd ?_ (by rw [e1l, sizeLine_eq]; omega))
    have sb : Heap.SameBut a s.heap (s.heap.update a (Obj.putSet es1 t2)) := Heap.SameBut.update ..
    have st := store_at (es' := es1) (t' := t2) ho hd
    have nf : ¬ (!false && t2.tooFull) = true := by
      have : t2.tooFull = false := by
        unfold SetTable.tooFull
        rw [z5, q9, z3, q4, m7]
        exact decide_eq_false (by omega)
      rw [this]
      decide
    have S1 : KSet P w (s.heap.update a (Obj.putSet es1 t2)) a L1 es1 t2 := by
      refine ⟨⟨_, _, st, ⟨hex.1, hex.2.1, hex.2.2⟩, rfl⟩, rows, T2, (pm.map (·.2)).nodup_iff.mpr (List.nodup_cons.mpr ⟨hm, S.un⟩), by rw [z4, q5]; exact S.led, by rw [z3, q4]; exact m7, by omega⟩
    first
      | exact wp_if_neg nf (wpAny_pure (q _ _ _ _ _ sb S1 (.inr ⟨hm, pm⟩)))
      | exact wpAny_bind (wp_if_neg nf (wpAny_pure (wpAny_pure (q _ _ _ _ _ sb S1 (.inr ⟨hm, pm⟩)))))
  by_cases hp : t1.plain = true
  · first
      | exact wp_if_pos hp (wpAny_bind (key_byVal kx rest))
      | exact wpAny_bind (wp_if_pos hp (key_byVal kx rest))
  · first
      | exact wp_if_neg hp (wpAny_bind (wpAny_pure (rest true)))
      | exact wpAny_bind (wp_if_neg hp (wpAny_pure (rest true)))
theorem KSet.on {h h' : Heap} (S : KSet P w h a L es t) (e : ∀ o, h.get? a = some o → h'.get? a = some o) : KSet P w h' a L es t := by
  obtain ⟨o, ep, ho, r⟩ := S.ob
  exact ⟨⟨o, ep, e _ ho, r⟩, S.ro, S.tab, S.un, S.led, S.m7, S.few⟩
/-- the set has what was met -/
def Has (met L : List (Addr × List Key)) : Prop := (∀ p ∈ L, p ∈ met) ∧ (∀ p ∈ met, p.2 ∈ L.map (·.2)) ∧ L.length ≤ met.length
theorem Has.more {met L L' : List (Addr × List Key)} {x : Addr × List Key} (h : Has met L) (c : x.2 ∈ L.map (·.2) ∧ L' = L ∨ x.2 ∉ L.map (·.2) ∧ L'.Perm (x :: L)) : Has (met ++ [x]) L' := by
  obtain ⟨h1, h2, h3⟩ := h
  rcases c with ⟨c, rfl⟩ | ⟨c, pm⟩
  · refine ⟨fun p hp => List.mem_append_left _ (h1 p hp), fun p hp => ?_, by rw [List.length_append]; omega⟩
    rcases List.mem_append.mp hp with z | z
    · exact h2 p z
    · rw [List.mem_singleton.mp z]
      exact c
  · refine ⟨fun p hp => ?_, fun p hp => ?_, by rw [pm.length_eq, List.length_append, List.length_cons]; show _ ≤ _ + 1; omega⟩
    · rcases List.mem_cons.mp (pm.mem_iff.mp hp) with rfl | z
      · exact List.mem_append_right _ List.mem_cons_self
      · exact List.mem_append_left _ (h1 p z)
    · rw [(pm.map (·.2)).mem_iff, List.map_cons]
      rcases List.mem_append.mp hp with z | z
      · exact List.mem_cons_of_mem _ (h2 p z)
      · rw [List.mem_singleton.mp z]
        exact List.mem_cons_self
theorem putAll {R : Result → Shared → Prop} {J : Addr} {fp wr : List Addr} {G : Array GenState → Array GenState → Prop} {n : Nat} {Pv : Nat → Value → Prop} {St : Nat → Shared → Prop}
    (W : WalksS P w A.in1 J fp wr G n Pv St) (S : Addr) (nS : S ∉ fp) (bs : List (Addr × List Key)) (hn : bs.length = n) (few : n ≤ 4) (tx : ∀ i v, Pv i v → ∃ p, bs[i]? = some p ∧ v = .ref p.1)
    (H0 : Heap) (k0 : ∀ p ∈ bs, KeyAt P w H0 p.2 p.1) (S0 : H0.get? S = none) (w0 : ∀ b ∈ wr, H0.get? b = none) (hu : A.in1.units < cLine) :
    ∀ (m i : Nat) (s : Shared), n - i = m → i ≤ n → St i s → (∀ b o, H0.get? b = some o → s.heap.get? b = some o) → (∃ L es t, KSet P w s.heap S L es t ∧ Has (bs.take i) L) →
      (∀ s' L es t, Moved (S :: wr) G s s' → KSet P w s'.heap S L es t → Has bs L → (∀ b o, H0.get? b = some o → s'.heap.get? b = some o) → R (.ok (.ret .none)) s') →
      codeAny (model P w) A (.builtin "set.update.loop" ⟨[.ref S, .ref J], []⟩) R s := by
  have nw' : S ∉ wr := fun h => nS (W.sub _ h)
  have sub : ∀ b ∈ wr, b ∈ S :: wr := fun b h => List.mem_cons_of_mem _ h
  have stay : ∀ {s s' : Shared}, Moved wr G s s' → (∀ b o, H0.get? b = some o → s.heap.get? b = some o) → ∀ b o, H0.get? b = some o → s'.heap.get? b = some o := fun mv k b o e =>
    mv.heap b o (fun z => by rw [w0 b z] at e; cases e) (k b o e)
  intro m
  induction m with
  | zero =>
    intro i s e1 e2 st k ⟨L, es, t, hS, g⟩ hR
    obtain rfl : i = n := by omega
    refine codeAny_builtin PyProof.Rows.F.entry_set_update_loop ?_
    rw [Around.under_plainId PyProof.Rows.F.plain_set_update_loop _]
    rw [← hn, List.take_length] at g
    exact wpAny_bind (W.done s _ _ st fun s' mv => wpAny_pure (hR s' L es t (mv.mono sub) (hS.on fun o e => mv.heap S _ nw' e) g (stay (s' := s') mv k)))
  | succ m ih =>
    intro i s e1 e2 st k ⟨L, es, t, hS, g⟩ hR
    have lt : i < n := by omega
    refine codeAny_builtin PyProof.Rows.F.entry_set_update_loop ?_
    rw [Around.under_plainId PyProof.Rows.F.plain_set_update_loop _]
    refine wpAny_bind (W.item i s _ _ lt st fun v s' pv st' mv => ?_)
    obtain ⟨p, hp, rfl⟩ := tx i v pv
    have k' := stay (s' := s') mv k
    have hS' : KSet P w s'.heap S L es t := hS.on fun o e => mv.heap S _ nw' e
    have keys : ∀ q ∈ L, KeyAt P w s'.heap q.2 q.1 := fun q hq => (k0 q (List.mem_of_mem_take (g.1 q hq))).on k'
    have kp : KeyAt P w s'.heap p.2 p.1 := (k0 p (List.mem_of_getElem? hp)).on k'
    have l3 : L.length ≤ 3 := by
      have := g.2.2
      rw [List.length_take] at this
      omega
    refine wpAny_bind (wpAny_holding ?_)
    unfold setAdd
    refine wpAny_holding (wpAny_bind (wpAny_pyHash_tuple hu kp ?_))
    refine hS'.put (s := { s' with toks := s'.toks + (p.2.length + 1) }) keys l3 kp hu fun b h' L' es' t' but hS2 c => ?_
    have g2 : Has (bs.take (i + 1)) L' := by
      rw [List.take_succ, hp]
      exact g.more c
    have k2 : ∀ b o, H0.get? b = some o → h'.get? b = some o := fun b o e => (but.2 b (fun z => by rw [z, S0] at e; cases e)).trans (k' b o e)
    refine wpAny_pure ⟨plainId_quiet PyProof.Rows.F.plain_set_update_loop _, ih (i + 1) _ (by omega) lt (W.frame _ s' _ _ st' (Nat.le_add_right _ _) fun b hb o e => ?_) k2 ⟨L', es', t', hS2, g2⟩ fun s2 L2 es2 t2 mv2 q2 g3 k3 => ?_⟩
    · exact (but.2 b (fun z => nS (by rw [← z]; exact hb))).trans e
    · exact hR s2 L2 es2 t2 (Moved.trans W.gtrans ((mv.mono sub).then_heap (Nat.le_add_right _ _) fun b o hb e => (but.2 b (fun z => hb (by rw [z]; exact List.mem_cons_self))).trans e) mv2) q2 g3 k3
/-- set(xs), xs a list of tuples -/
theorem set_of_keys {l : Addr} {its : Array Value} {bs : List (Addr × List Key)} {Q : Value → Shared → Prop} (hh : A.handled = none) (hl : s.heap.IsList l its) (hi : its.toList = bs.map fun p => Value.ref p.1) (hk : ∀ p ∈ bs, KeyAt P w s.heap p.2 p.1) (few : bs.length ≤ 4) (hu : A.units + 3 < cLine)
    (h : ∀ (h' : Heap) (tk : Nat) L es t, KSet P w h' s.heap.objs.size L es t → Has bs L → (∀ b o, s.heap.get? b = some o → h'.get? b = some o) → Q (.ref s.heap.objs.size) { s with heap := h', toks := tk }) :
    wpAny (model P w) A (call (.type "set") [.ref l]) Q E s := by
  obtain ⟨c0, c1, mro⟩ := PySem.F.called_set.mro
  have made := PySem.F.called_set.made
  have sub0 := PySem.F.called_set.sub
  have not := PySem.F.called_set.notType
  have can := PySem.F.called_set.canCreate
  have tc := PySem.F.typeCall_set_1 (.ref l)
  refine wpAny_call (codeAny_of_tree (wpAny_pure ⟨Code.quiet_builtin _ (by decide +kernel), codeAny_builtin PySem.F.entry_type_call ?_⟩))
  rw [Around.under_plain (weight_type_call_type "set" [.ref l] []) rfl]
  repeat (any_goals (first | assumption | wp_step))
  refine codeAny_mono (code_set_led1 (.ref l) (E := E) (Q₁ := fun ob s1 => ob = .ref s.heap.objs.size ∧ s1 = { s with heap := s.heap.push (newSet (!w.params.followText "set-order")) }) ⟨rfl, rfl⟩) fun r s1 hr => ?_
  cases r with
  | error e => exact hr
  | ok fl =>
    cases fl with
    | next => exact hr.elim
    | brk => exact hr.elim
    | cont => exact hr.elim
    | ret ob =>
      obtain ⟨rfl, rfl⟩ := hr
      have at0 : (s.heap.push (newSet (!w.params.followText "set-order"))).get? s.heap.objs.size = some (newSet (!w.params.followText "set-order")) := Heap.get?_push_size _ rfl
      have ty0 : Shared.TypeIs { s with heap := s.heap.push (newSet (!w.params.followText "set-order")) } (.ref s.heap.objs.size) "set" := ⟨_, at0, rfl⟩
      have li := PySem.F.called_set.init.lookup
      have bi := PySem.F.called_set.init.bind (.ref s.heap.objs.size)
      repeat (any_goals (first | assumption | wp_step))
      refine codeAny_mono (codeAny_call_builtin (R := wants (fun r s2 => r = .none ∧ ∃ h' tk L es t, s2 = { s with heap := h', toks := tk } ∧ KSet P w h' s.heap.objs.size L es t ∧ Has bs L ∧ ∀ b o, s.heap.get? b = some o → h'.get? b = some o) E) PySem.F.called_set.init.plain PySem.F.entry_set_init (check_set_init_1 ty0 ?_)) fun r2 s2 hr2 => ?_
      · obtain ⟨⟨oc, od, odt, os⟩, ho, k1, nl, k2⟩ := hl
        dsimp only at k1 k2
        subst k1 k2
        have at1 : (s.heap.push (newSet (!w.params.followText "set-order"))).get? l = some { cls := .type "list", dict := od, data := .seq its nl, slots := os } := Heap.get?_push_of_some _ ho
        have b1 := PySem.F.sub_list_set
        have b2 := PySem.F.sub_list_frozenset
        have b3 : (Value.type "list" == Value.type "dict") = false := by decide
        have row : (s.heap.push (newSet (!w.params.followText "set-order"))).IsList l its := ⟨_, at1, rfl, nl, rfl⟩
        unfold Builtin.«set.__init__» noKeywords Builtin.Frozenset.updateFrom
        generalize hp : pyIter = PI
        wp_walk
        subst hp
        refine wpAny_pyIter_list row (wpAny_bind (wpAny_runValue ?_))
        have ls : l < s.heap.objs.size := Heap.lt_size ho
        have sz : bs.length = its.size := by rw [← Array.length_toList, hi, List.length_map]
        have e1 : (s.heap.push (newSet (!w.params.followText "set-order"))).objs.size = s.heap.objs.size + 1 := Heap.size_push ..
        have gone : ∀ b, s.heap.objs.size ≤ b → s.heap.get? b = none := fun b hb => by
          cases q : s.heap.get? b with
          | none => rfl
          | some o => exact absurd (Nat.lt_of_lt_of_le (Heap.lt_size q) hb) (Nat.lt_irrefl _)
        refine putAll ((Walks.list (by simp [hh]) _ l (by rw [e1]; exact Nat.ne_of_lt (Nat.lt_succ_of_lt ls)) its).toS) s.heap.objs.size (by
            rw [e1]
            simp only [List.mem_cons, List.not_mem_nil, or_false, not_or]
            exact ⟨Nat.ne_of_lt (Nat.lt_succ_self _), Nat.ne_of_gt ls⟩) bs sz (by omega) (fun i v hv => ?_) s.heap hk (gone _ (Nat.le_refl _)) (fun b hb => gone b (by rw [List.mem_singleton.mp hb, e1]; exact Nat.le_succ _)) (by first | exact hu | omega) (its.size - 0) 0 _ (by omega) (Nat.zero_le _)
          ⟨⟨_, Heap.get?_push_size _ rfl, rfl, rfl⟩, row.push _⟩ (fun b o e => Heap.get?_push_of_some _ (Heap.get?_push_of_some _ e)) ?_ ?_
        · have hv : its.toList[i]? = some v := by rw [Array.getElem?_toList]; exact hv
          rw [hi, List.getElem?_map] at hv
          cases q : bs[i]? with
          | none => rw [q] at hv; cases hv
          | some p => rw [q] at hv; exact ⟨p, rfl, (Option.some.inj hv).symm⟩
        · refine ⟨[], #[], _, ⟨⟨_, _, Heap.get?_push_of_some _ at0, ⟨rfl, rfl, rfl⟩, rfl⟩, rfl, ⟨List.Pairwise.nil, rfl, rfl, .inl rfl, (fun x z => by cases z), (fun i h j z => by simp at z)⟩, List.nodup_nil, ?_, rfl, Nat.zero_le _⟩, (fun p z => by cases z), (fun p z => by simp at z), Nat.zero_le _⟩
          show _ ∨ (!w.params.followText "set-order") = true
          cases w.params.followText "set-order"
          · exact .inr rfl
          · exact .inl rfl
        · intro s' L es t mv q g k
          obtain ⟨h', g', d', tk', os'⟩ := s'
          obtain rfl : g' = s.gens := mv.gens
          obtain rfl : d' = s.drawn := mv.drawn
          obtain rfl : os' = s.os := mv.os
          exact wpAny_pure (wpAny_pure ⟨rfl, h', tk', L, es, t, rfl, q, g, k⟩)
      · cases r2 with
        | error e => exact hr2
        | ok fl2 =>
          cases fl2 with
          | next => exact hr2.elim
          | brk => exact hr2.elim
          | cont => exact hr2.elim
          | ret r =>
            obtain ⟨rfl, h', tk, L, es, t, rfl, q1, q2, q3⟩ := hr2
            repeat (any_goals (first | assumption | wp_step))
            exact h _ _ _ _ _ q1 q2 q3
end
end TP

namespace TP
open PySem PySem.Spec PyProof.Rows L2
/-! ### sorted(set(xs)) of a few tuples -/
def encK (ks : List Key) : PyData := .tuple (ks.map kD)
abbrev ltK (a b : List Key) : Bool := PySem.W.dataLt (encK a) (encK b)
theorem ltK_neg {a b c : List Key} (h1 : ltK b a = false) (h2 : ltK c b = false) : ltK c a = false := by
  refine Bool.eq_false_iff.mpr fun z => ?_
  rcases lex_negTrans (O := itemOrd) _ _ _ z with q | q
  · exact Bool.false_ne_true (h2.symm.trans q)
  · exact Bool.false_ne_true (h1.symm.trans q)
theorem ltK_asym {a b : List Key} (h : ltK a b = true) : ltK b a = false := by
  refine Bool.eq_false_iff.mpr fun z => ?_
  have := lex_trans (O := itemOrd) _ _ _ h z
  rw [lex_irrefl] at this
  cases this
theorem perm_unmap {α β : Type} {f : α → β} : ∀ {l l' : List β}, l.Perm l' → ∀ {L : List α}, l' = L.map f → ∃ L1 : List α, L1.Perm L ∧ l = L1.map f := by
  intro l l' p
  induction p with
  | nil =>
    intro L e
    exact ⟨L, List.Perm.refl _, e⟩
  | cons x p ih =>
    intro L e
    cases L with
    | nil => cases e
    | cons y L =>
      rw [List.map_cons] at e
      injection e with e1 e2
      obtain ⟨L1, q1, q2⟩ := ih e2
      exact ⟨y :: L1, q1.cons y, by rw [List.map_cons, e1, q2]⟩
  | swap x y l =>
    intro L e
    cases L with
    | nil => cases e
    | cons a L =>
      cases L with
      | nil => cases e
      | cons b L =>
        rw [List.map_cons, List.map_cons] at e
        injection e with e1 e2
        injection e2 with e2 e3
        exact ⟨b :: a :: L, List.Perm.swap a b L, by rw [List.map_cons, List.map_cons, e1, e2, e3]⟩
  | trans p1 p2 ih1 ih2 =>
    intro L e
    obtain ⟨L2, q1, q2⟩ := ih2 e
    obtain ⟨L1, r1, r2⟩ := ih1 q2
    exact ⟨L1, r1.trans q1, r2⟩
section
variable {P : Program} {w : World} {A : Around} {E : Value → Shared → Prop} {s : Shared}
theorem items_reads {h : Heap} {ks : List Key} {us : List Value} (x : ItemsAre (mixKind P w) ks us) : ReadsAll h us (ks.map kD) [] := by
  induction x with
  | nil => exact ReadsAll.nil
  | cons q _ ih => exact ReadsAll.cons (as := []) (bs := []) (keyReads q) ih
theorem KeyAt.reads {h : Heap} {ks : List Key} {b : Addr} (k : KeyAt P w h ks b) : Reads h (.ref b) (encK ks) [] := by
  obtain ⟨o, its, n, e1, e2, e3, e4⟩ := k
  exact Reads.tuple e1 e2 e3 (items_reads e4)
theorem sorted_keys {a : Addr} {L : List (Addr × List Key)} {es : Array (Int × Value)} {t : SetTable} {Q : Value → Shared → Prop} (S : KSet P w s.heap a L es t) (keys : ∀ p ∈ L, KeyAt P w s.heap p.2 p.1) (hh : A.handled = none)
    (al : ∀ p ∈ L, ∀ q ∈ L, PySem.W.alike (encK p.2) (encK q.2) = true) (ne : ∀ p ∈ L, p.2 ≠ []) (hu : A.units + 64 < cLine)
    (hQ : ∀ s' (p : Addr) (out : Array Value) (c : Nat) (L' : List (Addr × List Key)), (∀ b o, s.heap.get? b = some o → s'.heap.get? b = some o) → s'.gens = s.gens → s'.os = s.os → s.heap.objs.size ≤ p →
      s'.heap.get? p = some (seqObj "list" out c) → out.toList = L'.map (fun q => Value.ref q.1) → L'.Perm L → L'.Pairwise (fun q r => ltK r.2 q.2 = false) → Q (.ref p) s') :
    wpAny (model P w) A (call (.builtin "sorted") [.ref a]) Q E s := by
  obtain ⟨o, ep, ho, hex, hd⟩ := S.ob
  have few := S.few
  have el := S.len
  refine Calls.call_function_entry kind_sorted plain_sorted entry_sorted (args_sorted1 _) ?_
  unfold Builtin.«sorted»
  refine wpAny_bind (m := checkCount "sorted" 1 1 _) (wpAny_pure ?_)
  refine wpAny_bind (collect_set (A := A.in1) hh ⟨o, ho, hex.1, hd⟩ S.fit (by unfold scanBound; omega) S.tab.ris S.led fun s1 vs k1 z1 g1 o1 pm => ?_)
  rw [S.ro, List.map_map] at pm
  obtain ⟨L1, p1, rfl⟩ := perm_unmap (f := fun q : Addr × List Key => Value.ref q.1) pm rfl
  have l1 := p1.length_eq
  have mem : ∀ q ∈ L1, q ∈ L := fun q hq => p1.mem_iff.mp hq
  refine wpAny_bind (wpAny_newList ?_ (by rw [List.length_map, sizeLine_eq]; omega))
  have at0 : (s1.heap.push (seqObj "list" (L1.map fun q => Value.ref q.1).toArray 0)).get? s1.heap.objs.size = some (seqObj "list" (L1.map fun q => Value.ref q.1).toArray 0) := Heap.get?_push_size _ rfl
  have kk : ∀ q ∈ L1, KeyAt P w (s1.heap.push (seqObj "list" (L1.map fun q => Value.ref q.1).toArray 0)) q.2 q.1 := fun q hq => (keys q (mem q hq)).on fun c o e => Heap.get?_push_of_some _ (k1 c o e)
  have e1 : PySem.W.EachIs (fun u (q : Addr × List Key) => u = Value.ref q.1) (L1.map fun q => Value.ref q.1) L1 := each_of (List.length_map ..) fun i u q h1 h2 => by
    rw [List.getElem?_map, h2] at h1
    exact (Option.some.inj h1).symm
  have e2 : PySem.W.EachIs (fun u (q : Addr × List Key) => ∃ as, Reads (s1.heap.push (seqObj "list" (L1.map fun q => Value.ref q.1).toArray 0)) u (encK q.2) as ∧ s1.heap.objs.size ∉ as) (L1.map fun q => Value.ref q.1) L1 := each_of (List.length_map ..) fun i u q h1 h2 => by
    rw [List.getElem?_map, h2] at h1
    rw [← Option.some.inj h1]
    exact ⟨[], (kk q (List.mem_of_getElem? h2)).reads, List.not_mem_nil⟩
  have dp : ∀ ks : List Key, (encK ks).depth ≤ 1 := fun ks => by
    unfold encK
    have : ∀ ks : List Key, PyData.depthAll (ks.map kD) = 0 := by
      intro ks
      induction ks with
      | nil => rfl
      | cons k ks ih =>
        rw [List.map_cons, PyData.depthAll, ih]
        cases k <;> rfl
    rw [PyData.depth, this]
    exact Nat.le_refl _
  refine wpAny_bind (wpAny_holding (PySem.W.list_sort_data (s := { s1 with heap := s1.heap.push (seqObj "list" (L1.map fun q => Value.ref q.1).toArray 0) }) (R := fun u (q : Addr × List Key) => u = Value.ref q.1) (enc := fun q => encK q.2) at0 e1 e2 (fun d hd e he => ?_) (.inl fun d hd => ?_) (by rw [sizeLine_eq]; omega) (fun q _ => by have h1 := dp q.2; have h2 : A.in1.units + 1 ≤ A.units + 4 := Nat.le_of_lt_succ (by show _ < _; simp); omega) fun out ol oe => ?_))
  · obtain ⟨p, hp, rfl⟩ := List.mem_map.mp hd
    obtain ⟨q, hq, rfl⟩ := List.mem_map.mp he
    exact al p (mem p hp) q (mem q hq)
  · obtain ⟨p, hp, rfl⟩ := List.mem_map.mp hd
    have := ne p (mem p hp)
    obtain ⟨k, r, e⟩ := List.exists_cons_of_ne_nil this
    exact ⟨kD k, r.map kD, by show PyData.tuple (p.2.map kD) = _; rw [e]; rfl⟩
  obtain ⟨c, hc⟩ := sortedHeap_at (vs := L1.map fun q => Value.ref q.1) (out := out.toArray) at0
  have eo : ∀ {us : List Value} {qs : List (Addr × List Key)}, PySem.W.EachIs (fun u (q : Addr × List Key) => u = Value.ref q.1) us qs → us = qs.map fun q => Value.ref q.1 := fun {us qs} h => by
    induction h with
    | nil => rfl
    | cons r _ ih => rw [List.map_cons, ih, r]
  have pw : (L1.mergeSort (PySem.W.dataLe false fun q : Addr × List Key => encK q.2)).Pairwise (fun q r => ltK r.2 q.2 = false) := by
    refine List.Pairwise.imp (fun {q r} h => ?_) (List.pairwise_mergeSort (le := PySem.W.dataLe false fun q : Addr × List Key => encK q.2) (fun a b c h1 h2 => ?_) (fun a b => ?_) L1)
    · have h : (!ltK r.2 q.2) = true := h
      rwa [Bool.not_eq_true'] at h
    · have h1 : (!ltK b.2 a.2) = true := h1
      have h2 : (!ltK c.2 b.2) = true := h2
      rw [Bool.not_eq_true'] at h1 h2
      show (!ltK c.2 a.2) = true
      rw [ltK_neg h1 h2]
      rfl
    · show ((!ltK b.2 a.2) || (!ltK a.2 b.2)) = true
      cases e : ltK b.2 a.2
      · rfl
      · rw [ltK_asym e]
        rfl
  refine wpAny_pure ⟨_, rfl, hQ _ s1.heap.objs.size out.toArray c (L1.mergeSort (PySem.W.dataLe false fun q : Addr × List Key => encK q.2)) (fun b u e => ?_) g1 o1 z1 hc (by simpa using eo oe) ((List.mergeSort_perm _ _).trans p1) pw⟩
  have q := k1 b u e
  have lt := Heap.lt_size q
  show (sortedHeap (s1.heap.push (seqObj "list" (L1.map fun q => Value.ref q.1).toArray 0)) s1.heap.objs.size _ out.toArray).get? b = some u
  rw [sortedHeap_old (Nat.ne_of_lt lt) (by rw [Heap.size_push]; exact Nat.lt_succ_of_lt lt)]
  exact Heap.get?_push_of_some _ q
end
/-! ### the rules -/
def KSO (P : Program) (w : World) (a : Addr) (L : List (Addr × List Key)) : HO := .ext fun h => ∃ es t, KSet P w h a L es t
theorem kso_new {P : Program} {w : World} {H : Hp} {h : Heap} {a : Addr} {L : List (Addr × List Key)} {es : Array (Int × Value)} {t : SetTable} (S : KSet P w h a L es t) : ObjOk P w H h a (KSO P w a L) := by
  obtain ⟨o, ep, ho, r⟩ := S.ob
  exact ⟨⟨es, t, S⟩, ⟨o, ho⟩, fun h1 h2 ⟨es', t', S'⟩ k => ⟨es', t', S'.on k⟩⟩
section
variable {X : Cx}
theorem key_at {pins : List (Addr × Obj)} {σ : L2.St} {H : Hp} {s : Shared} {b : Addr} {ks : List Key} (I : Inv X pins σ H s) (h : SqT X.K H b (ks.map kV)) : KeyAt X.prog X.w s.heap ks b := by
  obtain ⟨its, r, ⟨o, ho, hc, n, hd⟩, _⟩ := I.tuple h
  exact ⟨o, its.toArray, n, ho, hc, hd, by simpa using items_are r⟩
theorem ref_vals : ∀ {bs : List (Addr × List Key)} {us : List Value}, Vals (bs.map fun p => V.ref p.1) us → us = bs.map fun p => Value.ref p.1
  | [], _, .nil => rfl
  | p :: bs, _, .cons r t => by
    cases r
    rw [ref_vals t]
    rfl
theorem vals_ref : ∀ (bs : List (Addr × List Key)), Vals (bs.map fun p => V.ref p.1) (bs.map fun p => Value.ref p.1)
  | [] => .nil
  | p :: bs => .cons rfl (vals_ref bs)
/-- set(xs) -/
def rSetK (K : PySem.W.Frag) (P : Program) (w : World) : List V → Hp → VK → Prop := fun xs H Q => ∃ (l : Addr) (bs : List (Addr × List Key)), xs = [.ref l] ∧ SqL K H l (bs.map fun p => V.ref p.1) ∧ (∀ p ∈ bs, SqT K H p.1 (p.2.map kV)) ∧ bs.length ≤ 4 ∧
  ∀ a L, H a = none → Has bs L → (L.map (·.2)).Nodup → Q (.ref a) (upd H a (KSO P w a L))
theorem cr_setK (hc : X.calm = true) (hu : X.A.units + 64 < cLine) : CallR X (.type "set") (rSetK X.K X.prog X.w) := by
  intro pins s σ H xs us Q I r h
  obtain ⟨l, bs, rfl, hl, hk, hf, q⟩ := h
  rw [Vals.ref1 r]
  obtain ⟨its, rv, pl, hz⟩ := I.list hl
  have hn : H s.heap.objs.size = none := I.hok.fresh (Nat.le_refl _)
  refine set_of_keys (P := X.prog) (w := X.w) (bs := bs) (I.ok.hd hc) pl.isList (by simpa using ref_vals rv) (fun p hp => key_at I (hk p hp)) hf (by omega) fun h' tk L es t S g k => ?_
  exact ⟨.ref s.heap.objs.size, upd H s.heap.objs.size (KSO X.prog X.w s.heap.objs.size L), I.laid (t' := tk) k (Nat.le_refl _) (kso_new S), rfl, q _ L hn g S.un⟩
/-- sorted(set) -/
def rSortK (K : PySem.W.Frag) (P : Program) (w : World) : List V → Hp → VK → Prop := fun vs H Q => ∃ (a : Addr) (L : List (Addr × List Key)), vs = [.ref a] ∧ H a = some (KSO P w a L) ∧ (∀ p ∈ L, SqT K H p.1 (p.2.map kV)) ∧ (∀ p ∈ L, ∀ q ∈ L, PySem.W.alike (encK p.2) (encK q.2) = true) ∧ (∀ p ∈ L, p.2 ≠ []) ∧
  ∀ (L' : List (Addr × List Key)) (p : Addr), L'.Perm L → L'.Pairwise (fun q r => ltK r.2 q.2 = false) → H p = none → Q (.ref p) (upd H p (.lst (L'.map fun q => V.ref q.1)))
theorem cr_sortK (hc : X.calm = true) (hu : X.A.units + 64 < cLine) : CallR X (.builtin "sorted") (rSortK X.K X.prog X.w) := by
  intro pins s σ H vs us Q I r h
  obtain ⟨a, L, rfl, ha, hk, hal, hne, q⟩ := h
  obtain ⟨es, t, S⟩ : ∃ es t, KSet X.prog X.w s.heap a L es t := (I.hok a _ ha).1
  rw [Vals.ref1 r]
  refine sorted_keys S (fun p hp => key_at I (hk p hp)) (I.ok.hd hc) hal hne hu fun s' p out c L' k g o hp hg hout pm pw => ?_
  have lf : L'.length ≤ 4 := by rw [pm.length_eq]; exact S.few
  have hlen : (L'.map fun q => V.ref q.1).length ≤ sizeLine := by rw [List.length_map, sizeLine_eq]; omega
  have hn : H p = none := I.hok.fresh hp
  have hv : Vals (L'.map fun q => V.ref q.1) out.toList := by rw [hout]; exact vals_ref L'
  obtain ⟨h2, g2, d2, t2, o2⟩ := s'
  obtain rfl : g2 = s.gens := g
  obtain rfl : o2 = s.os := o
  have J : Inv X pins σ (upd H p (.lst (L'.map fun q => V.ref q.1))) { s with heap := h2, gens := s.gens, drawn := d2, toks := t2 } :=
    I.call (ch := []) (Un.laid k hp hn) (I.hok.laid k hp ⟨hlen, out.toList, c, hv, hg⟩) I.bare (fun _ z => nomatch z)
  exact ⟨.ref p, _, J, rfl, q L' p pm pw hn⟩
end
end TP

namespace TP
open PySem PySem.Spec PyProof.Rows L2
/-! ### labels of houses in a dict -/
structure Ent where
  h : Str
  a : Addr
  b : Addr
  l : Lb
def natsV (p : List Nat) : List V := p.map fun (n : Nat) => V.int (n : Int)
theorem key_one {β : Type} : ∀ {l : List (Str × β)} {x y : Str × β}, (l.map (·.1)).Nodup → x ∈ l → y ∈ l → x.1 = y.1 → x = y
  | [], _, _, _, h, _, _ => nomatch h
  | q :: r, x, y, nd, hx, hy, e => by
    rw [List.map_cons, List.nodup_cons] at nd
    rcases List.mem_cons.mp hx with ex | hx2
    · rcases List.mem_cons.mp hy with ey | hy2
      · rw [ex, ey]
      · rw [ex] at e
        exact absurd (List.mem_map.mpr ⟨y, hy2, e.symm⟩) nd.1
    · rcases List.mem_cons.mp hy with ey | hy2
      · rw [ey] at e
        exact absurd (List.mem_map.mpr ⟨x, hx2, e⟩) nd.1
      · exact key_one nd.2 hx2 hy2 e
def enV (es : List Ent) : List (Key × V) := es.map fun e => (.inr e.h, .ref e.a)
def enL (es : List Ent) : List (Str × Lb) := es.map fun e => (e.h, e.l)
def EnOk (K : PySem.W.Frag) (H : Hp) (e : Ent) : Prop := SqT K H e.a [.int e.l.t, .ref e.b] ∧ SqT K H e.b (natsV e.l.p)
theorem EnOk.ex {K : PySem.W.Frag} {H H' : Hp} {e : Ent} (h : EnOk K H e) (x : Evl.Ex H H') : EnOk K H' e := ⟨sqt_ex h.1 x, sqt_ex h.2 x⟩
theorem dr_nats {K : PySem.W.Frag} {H : Hp} : ∀ p : List Nat, DrAll K H (natsV p) (p.map nD)
  | [] => .nil
  | n :: p => .cons (.int _) (dr_nats p)
theorem EnOk.dr {K : PySem.W.Frag} {H : Hp} {e : Ent} (h : EnOk K H e) : Dr K H (.ref e.a) (lbD e.l) := .tup h.1 (.cons (.int _) (.cons (.tup h.2 (dr_nats _)) .nil))
theorem enL_keys (F : List Ent) : (enL F).map (·.1) = F.map (·.h) := by
  unfold enL
  rw [List.map_map]
  rfl
theorem enV_val (F : List Ent) (g : Str) : (g ∉ F.map (·.h) ∧ valV (enV F) (.inr g) = none) ∨ ∃ x ∈ F, x.h = g ∧ valV (enV F) (.inr g) = some (.ref x.a) := by
  induction F with
  | nil => exact .inl ⟨by simp, rfl⟩
  | cons x r ih =>
    by_cases e : x.h = g
    · refine .inr ⟨x, List.mem_cons_self, e, ?_⟩
      exact valV_pos (p := (Sum.inr x.h, V.ref x.a)) (by show (Sum.inr x.h : Key) = _; rw [e])
    · have n : valV (enV (x :: r)) (.inr g) = valV (enV r) (.inr g) := valV_neg (p := (Sum.inr x.h, V.ref x.a)) (fun k => e (Sum.inr.inj k))
      rw [n]
      rcases ih with ⟨h1, h2⟩ | ⟨y, hy, h1, h2⟩
      · refine .inl ⟨?_, h2⟩
        rw [List.map_cons, List.mem_cons]
        rintro (k | k)
        · exact e k.symm
        · exact h1 k
      · exact .inr ⟨y, List.mem_cons_of_mem _ hy, h1, h2⟩
def putE (F : List Ent) (e : Ent) : List Ent := if e.h ∈ F.map (·.h) then F.map (fun x => if x.h = e.h then e else x) else F ++ [e]
theorem putK_en (F : List Ent) (e : Ent) : putK (enV F) (.inr e.h) (.ref e.a) = enV (putE F e) := by
  unfold putE
  by_cases h : e.h ∈ F.map (·.h)
  · rw [if_pos h]
    unfold putK
    rw [if_pos]
    · unfold enV
      rw [List.map_map, List.map_map]
      refine List.map_congr_left fun x _ => ?_
      show (if (Sum.inr x.h : Key) = Sum.inr e.h then ((Sum.inr x.h : Key), V.ref e.a) else (Sum.inr x.h, V.ref x.a)) = ((Sum.inr (if x.h = e.h then e else x).h : Key), V.ref (if x.h = e.h then e else x).a)
      by_cases k : x.h = e.h
      · rw [if_pos (by rw [k]), if_pos k, k]
      · rw [if_neg (fun z => k (Sum.inr.inj z)), if_neg k]
    · obtain ⟨x, hx, hk⟩ := List.mem_map.mp h
      rw [List.any_eq_true]
      exact ⟨(.inr x.h, .ref x.a), List.mem_map.mpr ⟨x, hx, rfl⟩, decide_eq_true (by show (Sum.inr x.h : Key) = Sum.inr e.h; rw [hk])⟩
  · rw [if_neg h, TP.putK_new]
    · unfold enV
      rw [List.map_append]
      rfl
    · unfold enV
      rw [List.map_map]
      intro k
      obtain ⟨x, hx, hk⟩ := List.mem_map.mp k
      exact h (List.mem_map.mpr ⟨x, hx, Sum.inr.inj hk⟩)
theorem putE_keys (F : List Ent) (e : Ent) : (putE F e).map (·.h) = if e.h ∈ F.map (·.h) then F.map (·.h) else F.map (·.h) ++ [e.h] := by
  unfold putE
  by_cases h : e.h ∈ F.map (·.h)
  · rw [if_pos h, if_pos h, List.map_map]
    refine List.map_congr_left fun x _ => ?_
    show (if x.h = e.h then e else x).h = x.h
    by_cases k : x.h = e.h
    · rw [if_pos k, k]
    · rw [if_neg k]
  · rw [if_neg h, if_neg h, List.map_append]
    rfl
theorem putE_mem {F : List Ent} {e x : Ent} (h : x ∈ putE F e) : x = e ∨ (x ∈ F ∧ x.h ≠ e.h) := by
  unfold putE at h
  by_cases k : e.h ∈ F.map (·.h)
  · rw [if_pos k] at h
    obtain ⟨y, hy, rfl⟩ := List.mem_map.mp h
    by_cases z : y.h = e.h
    · rw [if_pos z]
      exact .inl rfl
    · rw [if_neg z]
      exact .inr ⟨hy, z⟩
  · rw [if_neg k] at h
    rcases List.mem_append.mp h with z | z
    · exact .inr ⟨z, fun q => k (List.mem_map.mpr ⟨x, z, q⟩)⟩
    · exact .inl (by simpa using z)
theorem putE_len (F : List Ent) (e : Ent) : (putE F e).length ≤ F.length + 1 := by
  unfold putE
  split
  · rw [List.length_map]; omega
  · rw [List.length_append]; exact Nat.le_refl _
theorem Fnd.put {C : Str → Lb → Prop} {seen : List (Str × Lb)} {F : List Ent} (f : Fnd C seen (enL F)) {e : Ent} (ns : e.h ∉ seen.map (·.1)) (lt : ∀ x ∈ F, x.h = e.h → e.l.lt x.l = true) :
    Fnd (fun g l => C g l ∨ (g = e.h ∧ l = e.l)) seen (enL (putE F e)) := by
  refine ⟨?_, fun q hq => ?_, fun g l hc hn => ?_⟩
  · have nd := f.nd
    rw [enL_keys] at nd ⊢
    rw [putE_keys]
    by_cases k : e.h ∈ F.map (·.h)
    · rw [if_pos k]
      exact nd
    · rw [if_neg k, List.nodup_append]
      refine ⟨nd, by simp, fun a ha b hb => ?_⟩
      obtain rfl : b = e.h := by simpa using hb
      exact fun z => k (z ▸ ha)
  · obtain ⟨x, hx, rfl⟩ := List.mem_map.mp hq
    rcases putE_mem hx with rfl | ⟨hx, hk⟩
    · refine ⟨.inr ⟨rfl, rfl⟩, ns, fun l hl => ?_⟩
      rcases hl with hl | ⟨_, rfl⟩
      · have := f.f2 _ _ hl ns
        rw [enL_keys] at this
        obtain ⟨y, hy, hyk⟩ := List.mem_map.mp this
        have y1 := (f.f1 (y.h, y.l) (List.mem_map.mpr ⟨y, hy, rfl⟩)).2.2 l (by show C y.h l; rw [hyk]; exact hl)
        have y2 := lt y hy hyk
        refine Bool.eq_false_iff.mpr fun z => ?_
        have := Lb.trans z y2
        rw [this] at y1
        cases y1
      · exact Lb.irr _
    · obtain ⟨c1, c2, c3⟩ := f.f1 (x.h, x.l) (List.mem_map.mpr ⟨x, hx, rfl⟩)
      refine ⟨.inl c1, c2, fun l hl => ?_⟩
      rcases hl with hl | ⟨z, _⟩
      · exact c3 l hl
      · exact absurd z hk
  · rw [enL_keys, putE_keys]
    rcases hc with hc | ⟨rfl, rfl⟩
    · have := f.f2 g l hc hn
      rw [enL_keys] at this
      split
      · exact this
      · exact List.mem_append_left _ this
    · split
      · assumption
      · exact List.mem_append_right _ (by simp)
theorem Fnd.skip {C : Str → Lb → Prop} {seen : List (Str × Lb)} {F : List Ent} (f : Fnd C seen (enL F)) {h : Str} {l : Lb} (hs : h ∈ seen.map (·.1) ∨ ∃ x ∈ F, x.h = h ∧ l.lt x.l = false) :
    Fnd (fun g m => C g m ∨ (g = h ∧ m = l)) seen (enL F) := by
  refine ⟨f.nd, fun q hq => ?_, fun g m hc hn => ?_⟩
  · obtain ⟨c1, c2, c3⟩ := f.f1 q hq
    refine ⟨.inl c1, c2, fun m hm => ?_⟩
    rcases hm with hm | ⟨e1, rfl⟩
    · exact c3 m hm
    · rcases hs with hs | ⟨x, hx, hxh, hl⟩
      · exact absurd (e1 ▸ hs) c2
      · have : q = (x.h, x.l) := by
          exact key_one f.nd hq (List.mem_map.mpr ⟨x, hx, rfl⟩) (e1.trans hxh.symm)
        rw [this]
        exact hl
  · rcases hc with hc | ⟨rfl, rfl⟩
    · exact f.f2 g m hc hn
    · rcases hs with hs | ⟨x, hx, hxh, _⟩
      · exact absurd hs hn
      · rw [enL_keys]
        exact List.mem_map.mpr ⟨x, hx, hxh⟩
theorem Fnd.iff {C D : Str → Lb → Prop} {seen found : List (Str × Lb)} (f : Fnd C seen found) (e : ∀ g l, C g l ↔ D g l) : Fnd D seen found :=
  ⟨f.nd, fun q hq => ⟨(e _ _).mp (f.f1 q hq).1, (f.f1 q hq).2.1, fun l hl => (f.f1 q hq).2.2 l ((e _ _).mpr hl)⟩, fun g l hl hn => f.f2 g l ((e _ _).mpr hl) hn⟩
theorem Fnd.nil (seen : List (Str × Lb)) : Fnd (fun _ _ => False) seen (enL []) := ⟨by simp [enL], fun q h => (nomatch h), fun _ _ h => h.elim⟩
/-! ### candidates, one behind the other -/
def rdN (rs : List RD) (h : Str) : List Nat := (List.range rs.length).filter fun i => decide ((rs[i]?).map (·.b) = some h)
theorem rdFrom_N (h : Str) (rs : List RD) : rdFrom h 0 rs = (rdN rs h).map fun (i : Nat) => (i : Int) := rdFrom_filter h rs
theorem rdN_mem {rs : List RD} {h : Str} {r : Nat} : r ∈ rdN rs h ↔ ∃ q, rs[r]? = some q ∧ q.b = h := by
  unfold rdN
  rw [List.mem_filter, List.mem_range, decide_eq_true_iff]
  constructor
  · rintro ⟨h1, h2⟩
    rw [List.getElem?_eq_getElem h1] at h2 ⊢
    exact ⟨_, rfl, Option.some.inj h2⟩
  · rintro ⟨q, h1, h2⟩
    exact ⟨(List.getElem?_eq_some_iff.mp h1).1, by rw [h1, ← h2]; rfl⟩
def glO (rs : List RD) (r : Nat) : Str := ((rs[r]?).map (·.g)).getD ""
def cdOf (rs : List RD) (e : Str × Lb) : List (Str × Lb) := (rdN rs e.1).map fun r => (glO rs r, ⟨e.2.t + tkO rs r, e.2.p ++ [r]⟩)
theorem cand_iff (rs : List RD) (ed : List (Str × Lb)) (g : Str) (l : Lb) : (g, l) ∈ ed.flatMap (cdOf rs) ↔ Cand rs ed g l := by
  rw [List.mem_flatMap]
  constructor
  · rintro ⟨e, he, hc⟩
    obtain ⟨r, hr, hq⟩ := List.mem_map.mp hc
    obtain ⟨q, h1, h2⟩ := rdN_mem.mp hr
    injection hq with a b
    refine ⟨e, he, r, q, h1, h2, ?_, ?_⟩
    · rw [← a]
      unfold glO
      rw [h1]
      rfl
    · rw [← b]
      unfold tkO
      rw [h1]
      rfl
  · rintro ⟨e, he, r, q, h1, h2, h3, rfl⟩
    refine ⟨e, he, List.mem_map.mpr ⟨r, rdN_mem.mpr ⟨q, h1, h2⟩, ?_⟩⟩
    unfold glO tkO
    rw [h1, ← h3]
    rfl
/-! ### a land beside a dict -/
theorem LandNe.hid {K : PySem.W.Frag} {H : Hp} {a b : Addr} {L : LandD} {kvs : List (Key × V)} (h : LandNe K H a L b) (hb : H b = some (.dK kvs)) : LandAt K (TP.hid b H) a L := by
  obtain ⟨dx, ht, st, rt, ut, I, ne⟩ := h
  have n1 : ∀ xs, (HO.dK kvs) ≠ .tup xs := fun _ z => nomatch z
  have n2 : ∀ ob u, (HO.dK kvs) ≠ .frz ob u := fun _ _ z => nomatch z
  refine ⟨dx, ht, st, rt, ut, ⟨?_, sqt_hid hb n1 n2 I.h, ?_, sqt_hid hb n1 n2 I.r, fun q hq => sqt_hid hb n1 n2 (I.rs q hq), sqt_hid hb n1 n2 I.u, fun q hq => Ru.hid hb (fun _ z => nomatch z) (I.us q hq)⟩⟩
  · rw [hid_ne (ne_of I.o hb (fun z => nomatch z))]
    exact I.o
  · rw [hid_ne ne]
    exact I.s
theorem LandAt.ne {K : PySem.W.Frag} {H H' : Hp} {a b : Addr} {L : LandD} (h : LandAt K H a L) (hb : H b = none) (e : Evl.Ex H H') : LandNe K H' a L b := by
  obtain ⟨dx, ht, st, rt, ut, I⟩ := h
  exact ⟨dx, ht, st, rt, ut, I.ex e, ne_of_none I.s hb⟩
/-- what a land's own parts keep to -/
structure LOk (L : LandD) : Prop where
  h : HsOk L.hs
  s : SsOk L.hs L.ss
  r : ∀ q ∈ L.rq, q.2.ok L.hs
  rl : L.rq.length ≤ 16
abbrev LandD.rs (L : LandD) : List RD := L.rq.map (·.2)
def spEdge (K : PySem.W.Frag) : Sp := fun vs H Q _ => ∃ (a sd ed : Addr) (L : LandD) (S E : List Ent), vs = [.ref a, .ref sd, .ref ed] ∧ LandNe K H a L ed ∧ LOk L ∧ H sd = some (.dK (enV S)) ∧ H ed = some (.dK (enV E)) ∧ sd ≠ ed ∧
  (∀ e ∈ E, EnOk K H e ∧ e.h ∈ L.hs ∧ e.l.p.length ≤ 100) ∧ E.length ≤ 100 ∧
  ∀ (p : Addr) (F : List Ent) (H' : Hp), Evl.Ex H H' → H p = none → H' p = some (.dK (enV F)) → (∀ e ∈ F, EnOk K H' e ∧ e.h ∈ L.hs) → Fnd (Cand L.rs (enL E)) (enL S) (enL F) → Q (.ref p) H'
def spChk (K : PySem.W.Frag) : Sp := fun vs H Q E => ∃ (a t : Addr) (L : LandD) (ds : List (V × PyData)), vs = [.ref a, .ref t] ∧ LandAt K H a L ∧ SqT K H t (ds.map (·.1)) ∧ (∀ b ∈ ds, Dr K H b.1 b.2 ∧ ∀ z, b.2 = .str z → z.length ≤ 1000000) ∧ ds.length ≤ 10 ∧
  ((∀ b ∈ ds, hasD L.hs b.2 = true) → ∀ H', Evl.Ex H H' → Q .non H') ∧
  (∀ (i : Nat) b, ds[i]? = some b → hasD L.hs b.2 = false → (∀ c ∈ ds.take i, hasD L.hs c.2 = true) → ∀ d H', Evl.Ex H H' → H' d = some (.xd [("house", b.1)]) → E (.ref (eC K "NoHouse")) (some d) H')
def spWay (K : PySem.W.Frag) : Sp := fun vs H Q E => ∃ (a : Addr) (L : LandD) (v w : V) (D G : PyData), vs = [.ref a, v, w] ∧ LandAt K H a L ∧ LOk L ∧ Dr K H v D ∧ Dr K H w G ∧ (∀ z, D = .str z → z.length ≤ 1000000) ∧ (∀ z, G = .str z → z.length ≤ 1000000) ∧
  (∀ h g, v = .str h → w = .str g → h ∈ L.hs → g ∈ L.hs → (∃ p, Leads L.rs h p g) ∧ ∀ (p : Addr) (l : Lb) (H' : Hp), Evl.Ex H H' → SqT K H' p (natsV l.p) → Best L.rs h g l → l.p.length ≤ 7 → Q (.ref p) H') ∧
  (hasD L.hs D = false → ∀ d H', Evl.Ex H H' → H' d = some (.xd [("house", v)]) → E (.ref (eC K "NoHouse")) (some d) H') ∧
  (hasD L.hs D = true → hasD L.hs G = false → ∀ d H', Evl.Ex H H' → H' d = some (.xd [("house", w)]) → E (.ref (eC K "NoHouse")) (some d) H')
end TP

namespace TP
open PySem PySem.Spec PyProof.Rows L2
theorem nd_len : ∀ {l m : List Str}, l.Nodup → (∀ x ∈ l, x ∈ m) → l.length ≤ m.length
  | [], _, _, _ => Nat.zero_le _
  | x :: l, m, nd, h => by
    rw [List.nodup_cons] at nd
    have hx := h x List.mem_cons_self
    have := nd_len (m := m.erase x) nd.2 fun y hy => (List.mem_erase_of_ne (fun e : y = x => nd.1 (e ▸ hy))).mpr (h y (List.mem_cons_of_mem _ hy))
    rw [List.length_erase_of_mem hx] at this
    have := List.length_pos_of_mem hx
    rw [List.length_cons]
    omega
theorem sqt_frz {K : PySem.W.Frag} {H : Hp} {b x : Addr} {o : Obj} {kvs : List (Key × V)} {u : HO} {ys : List V} (h : SqT K H x ys) (hb : H b = some (.frz o (.dK kvs))) : SqT K (upd H b u) x ys := by
  rcases h with (h | ⟨o', h⟩) | h
  · refine .inl (.inl ?_)
    rw [upd_ne (fun e => by rw [e, hb] at h; cases h)]
    exact h
  · refine .inl (.inr ⟨o', ?_⟩)
    rw [upd_ne (fun e => by rw [e, hb] at h; cases h)]
    exact h
  · exact .inr h
theorem enok_frz {K : PySem.W.Frag} {H : Hp} {b : Addr} {o : Obj} {kvs : List (Key × V)} {u : HO} {e : Ent} (h : EnOk K H e) (hb : H b = some (.frz o (.dK kvs))) : EnOk K (upd H b u) e := ⟨sqt_frz h.1 hb, sqt_frz h.2 hb⟩
theorem enok_put {K : PySem.W.Frag} {H : Hp} {b : Addr} {kvs : List (Key × V)} {u : HO} {e : Ent} (h : EnOk K H e) (hb : H b = some (.dK kvs)) : EnOk K (upd H b u) e := ⟨sqt_put h.1 hb (.dK _), sqt_put h.2 hb (.dK _)⟩
theorem enok_hid {K : PySem.W.Frag} {H : Hp} {b : Addr} {kvs : List (Key × V)} {e : Ent} (h : EnOk K H e) (hb : H b = some (.dK kvs)) : EnOk K (hid b H) e :=
  ⟨sqt_hid hb (fun _ z => nomatch z) (fun _ _ z => nomatch z) h.1, sqt_hid hb (fun _ z => nomatch z) (fun _ _ z => nomatch z) h.2⟩
theorem ex_put_none {B H : Hp} {p : Addr} {o : HO} (e : Evl.Ex B H) (h : B p = none) : Evl.Ex B (upd H p o) := fun b u hb => by
  rw [upd_ne (ne_of_none hb h)]
  exact e b u hb
theorem ex_unhid {B H H' : Hp} {b : Addr} {o : HO} (e : Evl.Ex (hid b H) H') (hb : H b = some o) (hb' : H' b = some o) : Evl.Ex H H' := fun c u hc => by
  by_cases k : c = b
  · subst k
    rw [hb] at hc
    cases hc
    exact hb'
  · exact e c u (by rw [hid_ne k]; exact hc)
end TP
namespace TP
open PySem PySem.Spec PyProof.Rows L2
theorem catA_by {K : PySem.W.Frag} {H : Hp} {a b : Addr} {xs ys : List V} {Q : VK} (hx : SqT K H a xs) (hy : SqT K H b ys) (hz : xs.length + ys.length ≤ 100000) (k : ∀ r H', Evl.Ex H H' → SqT K H' r (xs ++ ys) → Q (.ref r) H') : rCatA K (.ref a) (.ref b) H Q := by
  refine ⟨a, b, xs, ys, rfl, rfl, hx, hy, by rw [sizeLine_eq]; omega, fun e => ?_, fun _ e => ?_, fun _ _ p hp => k p _ (Evl.Ex.new hp) (SqT.of upd_same)⟩
  · exact k b H (Evl.Ex.refl _) (by rw [e, List.nil_append]; exact hy)
  · exact k a H (Evl.Ex.refl _) (by rw [e, List.append_nil]; exact hx)
theorem cdOf_at {rs : List RD} {e : Str × Lb} {j r : Nat} (h : (rdN rs e.1)[j]? = some r) : (cdOf rs e)[j]? = some (glO rs r, ⟨e.2.t + tkO rs r, e.2.p ++ [r]⟩) := by
  unfold cdOf
  rw [List.getElem?_map, h]
  rfl
theorem cd_step {rs : List RD} {E : List (Str × Lb)} {i j r : Nat} {e : Str × Lb} (h : (rdN rs e.1)[j]? = some r) (g : Str) (l : Lb) :
    (((g, l) ∈ (E.take i).flatMap (cdOf rs) ∨ (g, l) ∈ (cdOf rs e).take j) ∨ (g = glO rs r ∧ l = ⟨e.2.t + tkO rs r, e.2.p ++ [r]⟩)) ↔ ((g, l) ∈ (E.take i).flatMap (cdOf rs) ∨ (g, l) ∈ (cdOf rs e).take (j + 1)) := by
  rw [List.take_succ, cdOf_at h, List.mem_append, or_assoc]
  refine or_congr Iff.rfl (or_congr Iff.rfl ?_)
  simp [Prod.ext_iff]
theorem cd_end {rs : List RD} {E : List (Str × Lb)} {i : Nat} {e : Str × Lb} (h : E[i]? = some e) (g : Str) (l : Lb) :
    ((g, l) ∈ (E.take i).flatMap (cdOf rs) ∨ (g, l) ∈ (cdOf rs e).take (rdN rs e.1).length) ↔ (g, l) ∈ (E.take (i + 1)).flatMap (cdOf rs) := by
  have : (cdOf rs e).length = (rdN rs e.1).length := List.length_map ..
  rw [← this, List.take_length, List.take_succ, h, List.flatMap_append, List.mem_append]
  simp
end TP

namespace TP
open PySem PySem.Spec PyProof.Rows L2
/-! ### xs != [] -/
def rNeNil (K : PySem.W.Frag) : R2 := fun x y H Q => ∃ (p q : Addr) (xs : List V), x = .ref p ∧ y = .ref q ∧ SqL K H p xs ∧ SqL K H q [] ∧ Q (.bl (!xs.isEmpty)) H
theorem op_neNil {X : Cx} (hu : X.A.units + 64 < cLine) : OpR X (compareOp .NotEq) (rNeNil X.K) := by
  intro pins s σ H x y v u Q I rx ry h
  obtain ⟨p, q, xs, rfl, rfl, hp, hq, k⟩ := h
  obtain rfl : v = Value.ref p := rx
  obtain rfl : u = Value.ref q := ry
  obtain ⟨its, rv, hl, _⟩ := I.list hp
  obtain ⟨jts, rw_, hm, _⟩ := I.list hq
  cases rw_
  cases xs with
  | nil =>
    cases rv
    exact (SeqAt.RcNeAt.lists (e := fun _ => true) hl.isList hm.isList rfl (by omega) (fun j h1 _ => absurd h1 (Nat.not_lt_zero _))) _ _ _ _ ⟨.bl _, H, I, rfl, k⟩
  | cons x r =>
    cases rv with
    | cons r1 r2 => exact (SeqAt.RcNeAt.lists_lengths hl.isList hm.isList (by simp) (by omega)) _ _ _ _ ⟨.bl _, H, I, rfl, k⟩
/-! ### things of the wide lands -/
structure RW (r : RD) : Prop where
  f : r.f < 10 ^ 62
  e : r.e < 10 ^ 62
  t : r.t < 10 ^ 62
def spSNames : Sp := fun vs H Q _ => ∃ (w : Addr) (n m : Nat), vs = [.ref w, .int m] ∧ Wl H w n ∧ n < 800000 ∧ m ≤ 20 ∧
  ∀ (l : Addr) (zs : List Str) (H' : Hp), Dn w (n + 11) H H' → H l = none → l ≠ w → H' l = some (.lst (zs.map V.str)) → zs.length = m → zs.Nodup → (∀ z ∈ zs, NmP z) → Q (.ref l) H'
def spWNum : Sp := fun vs H Q _ => ∃ (w : Addr) (n : Nat) (l : Int), vs = [.ref w, .int l] ∧ Wl H w n ∧ n < 800000 ∧ ∀ (d : Int) (H' : Hp), 0 ≤ d → d < 10 ^ 61 → Dn w (n + 5) H H' → Q (.int (l + d)) H'
def spWRoad : Sp := fun vs H Q _ => ∃ (w : Addr) (n : Nat) (b g : Str), vs = [.ref w, .str b, .str g] ∧ Wl H w n ∧ n < 700000 ∧
  ∀ (p : Addr) (r : RD) (H' : Hp), r.b = b → r.g = g → 0 ≤ r.f → 1 ≤ r.e → 1 ≤ r.t → RW r → Dn w (n + 15) H H' → H p = none → p ≠ w → H' p = some (.tup r.vs) → Q (.ref p) H'
/-- the parts of a wide land -/
structure Wide (H : Hp) (ha sa pa ea : Addr) (hs : List Str) (ss : List (Str × Str)) (rq : List (Addr × RD)) : Prop where
  h : H ha = some (.lst (hs.map V.str))
  s : H sa = some (.dK (ssK ss))
  r : H pa = some (.lst (rqV rq))
  rs : ∀ q ∈ rq, H q.1 = some (.tup q.2.vs)
  e : H ea = some (.lst [])
theorem Wide.ex {H H' : Hp} {ha sa pa ea : Addr} {hs : List Str} {ss : List (Str × Str)} {rq : List (Addr × RD)} (h : Wide H ha sa pa ea hs ss rq) (e : Evl.Ex H H') : Wide H' ha sa pa ea hs ss rq :=
  ⟨e _ _ h.h, e _ _ h.s, e _ _ h.r, fun q hq => e _ _ (h.rs q hq), e _ _ h.e⟩
theorem Wide.dn {H H' : Hp} {ha sa pa ea w : Addr} {n m : Nat} {hs : List Str} {ss : List (Str × Str)} {rq : List (Addr × RD)} (h : Wide H ha sa pa ea hs ss rq) (W : Wl H w n) (d : Dn w m H H') (n1 : ha ≠ w) (n2 : pa ≠ w) (n3 : ea ≠ w) : Wide H' ha sa pa ea hs ss rq := by
  obtain ⟨x, y, c, hw, _⟩ := W
  exact ⟨d.k _ _ n1 h.h, d.k _ _ (ne_of h.s hw (fun z => nomatch z)) h.s, d.k _ _ n2 h.r, fun q hq => d.k _ _ (ne_of (h.rs q hq) hw (fun z => nomatch z)) (h.rs q hq), d.k _ _ n3 h.e⟩
structure WOk (hs : List Str) (ss : List (Str × Str)) (rq : List (Addr × RD)) (bn : Int) : Prop where
  h : HsOk hs
  s : SsOk hs ss
  r : ∀ q ∈ rq, q.2.ok hs ∧ RW q.2
  rl : rq.length ≤ 16
  ti : Tied hs (rdP rq)
  b2 : 2 ≤ bn
  b5 : bn ≤ 5
def spWide (K : PySem.W.Frag) : Sp := fun vs H Q _ => ∃ (w : Addr) (n : Nat), vs = [.ref w] ∧ Wl H w n ∧ n < 600000 ∧
  ∀ (t ha sa pa ea : Addr) (hs : List Str) (ss : List (Str × Str)) (rq : List (Addr × RD)) (bn : Int) (H' : Hp), Dn w (n + 1000) H H' → H' t = some (.tup [.ref ha, .ref sa, .ref pa, .int bn, .ref ea]) → Wide H' ha sa pa ea hs ss rq → WOk hs ss rq bn → H ha = none → H sa = none → H pa = none → H ea = none → ha ≠ w → pa ≠ w → ea ≠ w → Q (.ref t) H'
def spMade (K : PySem.W.Frag) : Sp := fun vs H Q _ => ∃ (t ha sa pa ea : Addr) (hs : List Str) (ss : List (Str × Str)) (rq : List (Addr × RD)) (bn : Int), vs = [.ref t] ∧ SqT K H t [.ref ha, .ref sa, .ref pa, .int bn, .ref ea] ∧ Wide H ha sa pa ea hs ss rq ∧ WOk hs ss rq bn ∧
  ∀ (l u : Addr) (H' : Hp), Evl.Ex H H' → LandAt K H' l ⟨hs, ss, rq, bn, [(u, r0)]⟩ → Q (.ref l) H'
/-! ### names that differ at one place -/
theorem cutS_lo {z : Str} {k : Nat} (h : k ≤ z.length) : (cutS z none (some (k : Int))).cps.toList = z.cps.toList.take k := by
  rw [cutS_codes, HT.sIx_nat, HT.sIx_none, List.drop_zero, Nat.sub_zero, Nat.min_eq_left h]
theorem cutS_mid {z : Str} {k j : Nat} (h : k + j ≤ z.length) : (cutS z (some (k : Int)) (some ((k : Int) + (j : Int)))).cps.toList = (z.cps.toList.drop k).take j := by
  rw [cutS_codes, HT.sIx_nat, show (k : Int) + (j : Int) = ((k + j : Nat) : Int) from by omega, HT.sIx_nat, Nat.min_eq_left h, Nat.min_eq_left (show k ≤ z.length by omega)]
  congr 1
  omega
theorem join_ones : ∀ cs : List Nat, TL.joinL [] (cs.map fun c => [c]) = cs
  | [] => rfl
  | [c] => rfl
  | c :: d :: r => by
    show [c] ++ ([] ++ TL.joinL [] ((d :: r).map fun c => [c])) = _
    rw [join_ones (d :: r)]
    rfl
theorem join_codes (cs : List Nat) : (Txt.join "" (cs.map fun c => (⟨#[c]⟩ : Str))).cps.toList = cs := by
  have e1 : ("" : Str) = SX.S [] := by decide +kernel
  have e2 : (cs.map fun c => (⟨#[c]⟩ : Str)) = (cs.map fun c => [c]).map SX.S := by
    rw [List.map_map]
    rfl
  rw [e1, e2, SX.join_S, join_ones]
/-- a name: base, one letter put in at a place -/
def nmAt (base : List Nat) (k j c : Nat) : List Nat := base.take k ++ [c] ++ (base.drop k).take j
theorem nmAt_len {base : List Nat} {k j c : Nat} (h : k + j ≤ base.length) : (nmAt base k j c).length = k + 1 + j := by
  unfold nmAt
  rw [List.length_append, List.length_append, List.length_take, List.length_take, List.length_drop]
  show min k base.length + 1 + min j (base.length - k) = _
  omega
theorem nmAt_at {base : List Nat} {k j c : Nat} (h : k ≤ base.length) : (nmAt base k j c)[k]? = some c := by
  unfold nmAt
  rw [List.append_assoc, List.getElem?_append_right (by rw [List.length_take]; omega), List.length_take]
  rw [Nat.min_eq_left h, Nat.sub_self]
  rfl
theorem str_ext {x y : Str} (h : x.cps.toList = y.cps.toList) : x = y := PySem.W.str_of_cps h
theorem nm_of {base z : Str} {k j c : Nat} (hz : z.cps.toList = nmAt base.cps.toList k j c) (hb : base.length = 7) (hk : k + j ≤ 7) (hs : ∀ c ∈ base.cps.toList, c ∈ LT.cps.toList) (hc : c ∈ LT.cps.toList) : NmP z := by
  have bl : base.cps.toList.length = 7 := by rw [← strLen]; exact hb
  have zl : z.length = k + 1 + j := by rw [strLen, hz, nmAt_len (by omega)]
  refine ⟨by omega, by omega, fun d hd => ?_⟩
  rw [hz] at hd
  unfold nmAt at hd
  rcases List.mem_append.mp hd with hd | hd
  · rcases List.mem_append.mp hd with hd | hd
    · exact hs d (List.mem_of_mem_take hd)
    · obtain rfl : d = c := by simpa using hd
      exact hc
  · exact hs d (List.mem_of_mem_drop (List.mem_of_mem_take hd))
theorem LT_get {j : Nat} (h : j < 26) : LT.cps.toList[j]? = some (97 + j) := LT_at h
end TP

namespace TP
open PySem PySem.Spec PyProof.Rows L2
/-! ### any data held against any -/
def rEqR (K : PySem.W.Frag) (neg : Bool) : R2 := fun x y H Q => ∃ d e : PyData, Dr K H x d ∧ Dr K H y e ∧ d.canLay0 = true ∧ e.canLay0 = true ∧ d.depth ≤ 40 ∧ Q (.bl (if neg = true then !PyData.eqv d e else PyData.eqv d e)) H
theorem op_eqR {X : Cx} (hS : SysK X.K) (hu : X.A.units + 64 < cLine) : OpR X (compareOp .Eq) (rEqR X.K false) := by
  intro pins s σ H x y v u Q I rx ry h
  obtain ⟨d, e, hd, he, ld, le, dp, q⟩ := h
  obtain ⟨as, ra, _⟩ := Dr.reads hS I d _ _ hd rx
  obtain ⟨bs, rb, _⟩ := Dr.reads hS I e _ _ he ry
  exact SeqAt.compareEq_reads ra rb ld le (by omega) ⟨.bl _, H, I, rfl, q⟩
theorem op_neR {X : Cx} (hS : SysK X.K) (hu : X.A.units + 64 < cLine) : OpR X (compareOp .NotEq) (rEqR X.K true) := by
  intro pins s σ H x y v u Q I rx ry h
  obtain ⟨d, e, hd, he, ld, le, dp, q⟩ := h
  obtain ⟨as, ra, _⟩ := Dr.reads hS I d _ _ hd rx
  obtain ⟨bs, rb, _⟩ := Dr.reads hS I e _ _ he ry
  exact SeqAt.compareNe_reads ra rb ld le (by omega) ⟨.bl _, H, I, rfl, q⟩
theorem lay_nats : ∀ p : List Nat, PyData.canLayAll0 (p.map nD) = true
  | [] => rfl
  | n :: p => by
    rw [List.map_cons, PyData.canLayAll0, lay_nats p]
    rfl
theorem eqv_nats : ∀ p q : List Nat, PyData.eqvAll (p.map nD) (q.map nD) = decide (p = q)
  | [], [] => by simp [PyData.eqvAll]
  | [], _ :: _ => by simp [PyData.eqvAll]
  | _ :: _, [] => by simp [PyData.eqvAll]
  | n :: p, m :: q => by
    rw [List.map_cons, List.map_cons, PyData.eqvAll, eqv_nats p q]
    have : PyData.eqv (nD n) (nD m) = decide (n = m) := by
      show ((n : Int) == (m : Int)) = _
      by_cases h : n = m
      · subst h; simp
      · rw [decide_eq_false h]
        simp
        omega
    rw [this]
    by_cases h : n = m
    · subst h; simp
    · simp [h]
def rowD (p : List Nat) : PyData := .tuple (p.map nD)
theorem lay_row (p : List Nat) : (rowD p).canLay0 = true := lay_nats p
theorem eqv_row (p q : List Nat) : PyData.eqv (rowD p) (rowD q) = decide (p = q) := by
  unfold rowD
  rw [show PyData.eqv (.tuple (p.map nD)) (.tuple (q.map nD)) = PyData.eqvAll (p.map nD) (q.map nD) from by rw [PyData.eqv]]
  exact eqv_nats p q
theorem depth_row (p : List Nat) : (rowD p).depth ≤ 40 := by
  unfold rowD
  simp only [PyData.depth, depth_nats]
  decide
theorem dr_row {K : PySem.W.Frag} {H : Hp} {a : Addr} {p : List Nat} (h : SqT K H a (natsV p)) : Dr K H (.ref a) (rowD p) := .tup h (dr_nats p)
theorem slA_by {K : PySem.W.Frag} {H : Hp} {a : Addr} {xs : List V} {lo hi : Option Int} {Q : VK} (hx : SqT K H a xs) (k : ∀ r H', Evl.Ex H H' → SqT K H' r (cutV xs lo hi) → Q (.ref r) H') : rSlA K (.ref a) lo hi H Q := by
  refine ⟨a, xs, rfl, hx, fun e => ?_, fun _ p hp => k p _ (Evl.Ex.new hp) (SqT.of upd_same)⟩
  refine k a H (Evl.Ex.refl _) ?_
  have : cutV xs lo hi = xs := by
    unfold cutV
    rw [e.1, e.2]
    simp
  rw [this]
  exact hx
theorem natsV_app (p q : List Nat) : natsV (p ++ q) = natsV p ++ natsV q := by
  unfold natsV
  rw [List.map_append]
theorem natsV_cons (r : Nat) (p : List Nat) : natsV (r :: p) = V.int (r : Int) :: natsV p := rfl
/-! ### labels of three -/
def lb3D (n : Int) (a : Lb) : PyData := .tuple [.int n, .int a.t, rowD a.p]
theorem dataLt_lb3 (n m : Int) (a b : Lb) : PySem.W.dataLt (lb3D n a) (lb3D m b) = (decide (n < m) || (decide (n = m) && a.lt b)) := by
  have k := dataLt_lb a b
  unfold lbD at k
  unfold lb3D rowD
  rw [PySem.W.dataLt_tuple] at k ⊢
  rw [PySem.W.toks_all_cons, PySem.W.toks_all_cons (PyData.int m)]
  have e1 : ∀ i : Int, PySem.W.keyToks (.int i) = [.inl i] := fun i => by rw [PySem.W.keyToks]
  rw [e1, e1]
  show PyProof.Rows.lexLt itemOrd (.inl 1 :: .inl n :: PySem.W.keyToksAll [.int a.t, .tuple (a.p.map nD)]) (.inl 1 :: .inl m :: PySem.W.keyToksAll [.int b.t, .tuple (b.p.map nD)]) = _
  rw [lex_cons, lex_cons, k]
  show (decide ((1 : Int) < 1) || (!decide ((1 : Int) < 1) && (decide (n < m) || (!decide (m < n) && a.lt b)))) = _
  have e3 : decide ((1 : Int) < 1) = false := by decide
  rw [e3]
  simp only [Bool.false_or, Bool.not_false, Bool.true_and]
  by_cases h1 : n < m
  · rw [decide_eq_true h1]
    rfl
  · rw [decide_eq_false h1]
    by_cases h2 : n = m
    · rw [h2]
      simp
    · rw [decide_eq_true (show m < n by omega), decide_eq_false h2]
      rfl
theorem alike_lb3 (n m : Int) (a b : Lb) : PySem.W.alike (lb3D n a) (lb3D m b) = true := by
  unfold lb3D rowD
  simp [PySem.W.alike, PySem.W.alikeAll, alike_nats]
theorem depth_lb3 (n : Int) (a : Lb) : (lb3D n a).depth ≤ 40 := by
  unfold lb3D rowD
  simp only [PyData.depth, PyData.depthAll, depth_nats]
  decide
/-! ### ways, laws -/
theorem leads_ok {rs : List RD} : ∀ {p : List Nat} {h g : Str}, Leads rs h p g → ∀ r ∈ p, r < rs.length
  | [], _, _, _, r, hr => nomatch hr
  | x :: p, h, g, ⟨q, h1, _, h3⟩, r, hr => by
    rcases List.mem_cons.mp hr with rfl | hr
    · exact (List.getElem?_eq_some_iff.mp h1).1
    · exact leads_ok h3 r hr
theorem best_self {rs : List RD} {h : Str} {l : Lb} (b : Best rs h h l) : l.p = [] := by
  have := b.sh [] rfl
  exact List.eq_nil_of_length_eq_zero (Nat.le_zero.mp this)
/-- the way's first road, and the way from there -/
theorem best_next {rs : List RD} {h g : Str} {l : Lb} (b : Best rs h g l) (ne : h ≠ g) : ∃ r q, l.p = r :: l.p.tail ∧ rs[r]? = some q ∧ q.b = h ∧ Best rs q.g g (lab rs l.p.tail) := by
  have hl := b.ld
  cases e : l.p with
  | nil =>
    rw [e] at hl
    exact absurd hl ne
  | cons r t =>
    rw [e] at hl
    obtain ⟨q, h1, h2, h3⟩ := hl
    refine ⟨r, q, rfl, h1, h2, ?_⟩
    show Best rs q.g g (lab rs t)
    refine ⟨h3, rfl, fun p hp => ?_, fun p hp pl => ?_⟩
    · have := b.sh (r :: p) ⟨q, h1, h2, hp⟩
      rw [e] at this
      exact Nat.le_of_succ_le_succ this
    · have := b.mn (r :: p) ⟨q, h1, h2, hp⟩ (by rw [e]; exact congrArg (· + 1) pl)
      have bt := b.t
      unfold lab at this ⊢
      have e1 : tks rs (r :: p) = q.t + tks rs p := by rw [show r :: p = [r] ++ p from rfl, tks_app, tks_one h1]
      have e2 : l.t = q.t + tks rs t := by rw [bt, e, show r :: t = [r] ++ t from rfl, tks_app, tks_one h1]
      unfold Lb.lt at this ⊢
      simp only [e, e1, e2, lexI_cons] at this ⊢
      simp only [Bool.or_eq_false_iff, Bool.and_eq_false_iff, decide_eq_false_iff_not] at this ⊢
      refine ⟨by omega, ?_⟩
      rcases this.2 with z | z
      · exact .inl (by omega)
      · exact .inr z
/-- no road betters a way -/
theorem best_road {rs : List RD} {b g : Str} {r : Nat} {q : RD} {l m : Lb} (h1 : rs[r]? = some q) (h2 : q.b = b) (bl : Best rs b g l) (bm : Best rs q.g g m) :
    (decide (((r :: m.p).length : Int) < (l.p.length : Int)) || (decide (((r :: m.p).length : Int) = (l.p.length : Int)) && (lab rs (r :: m.p)).lt l)) = false := by
  have ld : Leads rs b (r :: m.p) g := ⟨q, h1, h2, bm.ld⟩
  have s := bl.sh _ ld
  rw [decide_eq_false (by omega), Bool.false_or]
  by_cases e : (r :: m.p).length = l.p.length
  · rw [bl.mn _ ld e, Bool.and_false]
  · rw [decide_eq_false (by omega), Bool.false_and]
theorem tied_leads {hs : List Str} {rq : List (Addr × RD)} (hok : HsOk hs) (ti : Tied hs (rdP rq)) {h g : Str} (hm : h ∈ hs) (gm : g ∈ hs) : ∃ p, Leads (rq.map (·.2)) h p g := by
  have r := (tied_all (ps := rdP rq) (qs := rdP rq) hok.lo (fun _ => Iff.rfl)).mpr ti h hm g gm
  clear gm
  induction r with
  | here => exact ⟨[], rfl⟩
  | step _ hp ih =>
    obtain ⟨p, lp⟩ := ih
    obtain ⟨q, hq, e⟩ := List.mem_map.mp hp
    obtain ⟨i, hi⟩ := List.mem_iff_getElem?.mp hq
    injection e with e1 e2
    exact ⟨p ++ [i], leads_app lp ⟨q.2, by rw [List.getElem?_map, hi]; rfl, e1, e2⟩⟩
end TP
namespace TP
open PySem PySem.Spec PyProof.Rows L2
theorem cells_int0 {ns : List Int} {lo hi : Option Int} {i : Nat} {x : V} (h : ([V.int 0] ++ cutV (ns.map V.int) lo hi)[i]? = some x) : ∃ z, x = .int z := by
  rcases List.mem_append.mp (List.mem_of_getElem? h) with q | q
  · obtain rfl : x = .int 0 := by simpa using q
    exact ⟨0, rfl⟩
  · obtain ⟨z, _, rfl⟩ := List.mem_map.mp (cut_mem q)
    exact ⟨z, rfl⟩
theorem cells_len0 {ns : List Int} {lo hi : Option Int} (h : ns.length ≤ 63) : [V.int 0].length + (cutV (ns.map V.int) lo hi).length ≤ sizeLine := by
  have h1 := cutV_length (ns.map V.int) lo hi
  rw [List.length_map] at h1
  rw [sizeLine_eq]
  show 1 + _ ≤ _
  omega
end TP

namespace TP
open PySem PySem.Spec PyProof.Rows L2
def rEqNil (K : PySem.W.Frag) : R2 := fun x y H Q => ∃ (p q : Addr) (xs : List V), x = .ref p ∧ y = .ref q ∧ SqL K H p xs ∧ SqL K H q [] ∧ Q (.bl xs.isEmpty) H
theorem op_eqNil {X : Cx} (hu : X.A.units + 64 < cLine) : OpR X (compareOp .Eq) (rEqNil X.K) := by
  intro pins s σ H x y v u Q I rx ry h
  obtain ⟨p, q, xs, rfl, rfl, hp, hq, k⟩ := h
  obtain rfl : v = Value.ref p := rx
  obtain rfl : u = Value.ref q := ry
  obtain ⟨its, rv, hl, _⟩ := I.list hp
  obtain ⟨jts, rw_, hm, _⟩ := I.list hq
  cases rw_
  cases xs with
  | nil =>
    cases rv
    exact (SeqAt.RcAt.lists (e := fun _ => true) hl.isList hm.isList rfl (by omega) (fun j h1 _ => absurd h1 (Nat.not_lt_zero _))) _ _ _ _ ⟨.bl _, H, I, rfl, k⟩
  | cons x r =>
    cases rv with
    | cons r1 r2 => exact (SeqAt.RcAt.lists_lengths hl.isList hm.isList (by simp) (by omega)) _ _ _ _ ⟨.bl _, H, I, rfl, k⟩
/-! ### the least of alike things -/
theorem dataLt_irr (a : PyData) : PySem.W.dataLt a a = false := (PyProof.Rows.listOrd itemOrd).irrefl _
theorem dataLt_trans {a b c : PyData} (h : PySem.W.dataLt a b = true) (g : PySem.W.dataLt b c = true) : PySem.W.dataLt a c = true := (PyProof.Rows.listOrd itemOrd).trans _ _ _ h g
theorem dataLt_neg {a c : PyData} (b : PyData) (h : PySem.W.dataLt a c = true) : PySem.W.dataLt a b = true ∨ PySem.W.dataLt b c = true := (PyProof.Rows.listOrd itemOrd).negTrans _ _ _ h
theorem minD_le : ∀ (xs : List PyData) (x : PyData), PySem.W.minD x xs ∈ x :: xs ∧ ∀ c ∈ x :: xs, PySem.W.dataLt c (PySem.W.minD x xs) = false
  | [], x => ⟨List.mem_cons_self, fun c hc => by
    obtain rfl : c = x := by simpa using hc
    exact dataLt_irr _⟩
  | y :: ys, x => by
    obtain ⟨m, h⟩ := minD_le ys (if PySem.W.dataLt y x = true then y else x)
    have e : PySem.W.minD x (y :: ys) = PySem.W.minD (if PySem.W.dataLt y x = true then y else x) ys := rfl
    rw [e]
    have h0 := h _ List.mem_cons_self
    refine ⟨?_, fun c hc => ?_⟩
    · rcases List.mem_cons.mp m with z | z
      · rw [z]
        split
        · exact List.mem_cons_of_mem _ List.mem_cons_self
        · exact List.mem_cons_self
      · exact List.mem_cons_of_mem _ (List.mem_cons_of_mem _ z)
    · rcases List.mem_cons.mp hc with rfl | hc
      · refine Bool.eq_false_iff.mpr fun z => ?_
        by_cases l : PySem.W.dataLt y c = true
        · rw [if_pos l] at h0 z
          rw [dataLt_trans l z] at h0
          cases h0
        · rw [if_neg l] at h0 z
          rw [z] at h0
          cases h0
      · rcases List.mem_cons.mp hc with rfl | hc
        · refine Bool.eq_false_iff.mpr fun z => ?_
          by_cases l : PySem.W.dataLt c x = true
          · rw [if_pos l] at h0 z
            rw [z] at h0
            cases h0
          · rw [if_neg l] at h0 z
            rcases dataLt_neg x z with q | q
            · exact l q
            · rw [q] at h0
              cases h0
        · exact h c (List.mem_cons_of_mem _ hc)
def rMinD (K : PySem.W.Frag) : List V → Hp → VK → Prop := fun vs H Q => ∃ (a : Addr) (bs : List (V × PyData)), vs = [.ref a] ∧ SqL K H a (bs.map (·.1)) ∧ bs ≠ [] ∧ (∀ b ∈ bs, Dr K H b.1 b.2 ∧ b.2.depth ≤ 40 ∧ b.2 ≠ .none) ∧ (∀ b ∈ bs, ∀ c ∈ bs, PySem.W.alike b.2 c.2 = true) ∧
  ∀ b ∈ bs, (∀ c ∈ bs, PySem.W.dataLt c.2 b.2 = false) → Q b.1 H
theorem dr_all {K : PySem.W.Frag} {H : Hp} : ∀ {bs : List (V × PyData)}, (∀ b ∈ bs, Dr K H b.1 b.2) → DrAll K H (bs.map (·.1)) (bs.map (·.2))
  | [], _ => .nil
  | b :: bs, h => .cons (h b List.mem_cons_self) (dr_all fun c hc => h c (List.mem_cons_of_mem _ hc))
theorem depth_all {k : Nat} : ∀ {ds : List PyData}, (∀ d ∈ ds, d.depth ≤ k) → PyData.depthAll ds ≤ k
  | [], _ => Nat.zero_le _
  | d :: ds, h => by
    show max d.depth (PyData.depthAll ds) ≤ k
    exact Nat.max_le.mpr ⟨h d List.mem_cons_self, depth_all fun e he => h e (List.mem_cons_of_mem _ he)⟩
theorem cr_minD {X : Cx} (hS : SysK X.K) (hu : X.A.units + 64 < cLine) (hc : X.calm = true := by rfl) : CallR X (.builtin "min") (rMinD X.K) := by
  intro pins s σ H xs us Q I r h
  obtain ⟨a, bs, rfl, hq, ne, hd, al, q⟩ := h
  obtain ⟨u, rfl, ru⟩ := vals1 r
  obtain rfl : u = Value.ref a := ru
  obtain ⟨its, rv, hl, z⟩ := I.list hq
  obtain ⟨as, hr, _⟩ := DrAll.reads hS I (bs.map (·.2)) _ its (dr_all fun b hb => (hd b hb).1) rv
  cases bs with
  | nil => exact absurd rfl ne
  | cons b0 br =>
    have mm : ∀ d ∈ (b0.2 :: br.map (·.2)), ∃ b ∈ b0 :: br, b.2 = d := fun d hdm => by
      have : d ∈ (b0 :: br).map (·.2) := hdm
      obtain ⟨b, hb, e⟩ := List.mem_map.mp this
      exact ⟨b, hb, e⟩
    have dp : PyData.depthAll (b0.2 :: br.map (·.2)) ≤ 40 := depth_all fun d hdm => by
      obtain ⟨b, hb, rfl⟩ := mm d hdm
      exact (hd b hb).2.1
    refine PySem.W.min_list_data (x := b0.2) (xs := br.map (·.2)) (vs := its.toArray) (I.ok.hd hc) hl.isList (by rw [List.toList_toArray]; exact hr) ⟨fun x hx y hy => ?_, fun x hx => ?_⟩ (by omega) fun i v h' tk bs' hv hrd hk => ?_
    · obtain ⟨b, hb, rfl⟩ := mm x hx
      obtain ⟨c, hc, rfl⟩ := mm y hy
      exact al b hb c hc
    · obtain ⟨b, hb, rfl⟩ := mm x hx
      exact (hd b hb).2.2
    · have I2 : Inv X pins σ H { s with heap := h', toks := tk } := I.kept (t' := tk) hk
      have hv' : its[i]? = some v := by simpa using hv
      obtain ⟨b, hb⟩ : ∃ b, (b0 :: br)[i]? = some b := by
        have l1 := rv.length
        rw [List.length_map] at l1
        have := (List.getElem?_eq_some_iff.mp hv').1
        exact ⟨_, List.getElem?_eq_getElem (by omega)⟩
      have bm := List.mem_of_getElem? hb
      have rel : RelV b.1 v := vals_at (i := i) rv (by rw [List.getElem?_map, hb]; rfl) hv'
      obtain ⟨as2, r2, _⟩ := Dr.reads hS I2 b.2 _ _ (hd b bm).1 rel
      obtain ⟨mi, ml⟩ := minD_le (br.map (·.2)) b0.2
      obtain ⟨c, hc2, ec⟩ := mm _ mi
      have e : b.2 = PySem.W.minD b0.2 (br.map (·.2)) := PySem.W.alike_unique _ _ v _ _ (by rw [← ec]; exact al b bm c hc2) r2 hrd
      exact ⟨b.1, H, I2, rel, q b bm fun d hdm => by rw [e]; exact ml d.2 (List.mem_map.mpr ⟨d, hdm, rfl⟩)⟩
end TP

namespace TP
open PySem PySem.Spec PyProof.Rows L2
/-! ### rows of roads that come to no house twice -/
inductive Smp (rs : List RD) (h : Str) : List Str → List Nat → Str → Prop
  | here : Smp rs h [h] [] h
  | step {met : List Str} {p : List Nat} {m : Str} {r : Nat} {q : RD} : Smp rs h met p m → rs[r]? = some q → q.b = m → q.g ∉ met → Smp rs h (met ++ [q.g]) (p ++ [r]) q.g
theorem Smp.leads {rs : List RD} {h : Str} {met : List Str} {p : List Nat} {m : Str} (s : Smp rs h met p m) : Leads rs h p m := by
  induction s with
  | here => rfl
  | step _ h1 h2 _ ih => exact leads_app ih ⟨_, h1, h2, rfl⟩
theorem Smp.last {rs : List RD} {h : Str} {met : List Str} {p : List Nat} {m : Str} (s : Smp rs h met p m) : met.getLast? = some m := by
  cases s with
  | here => rfl
  | step _ _ _ _ => simp
theorem Smp.len {rs : List RD} {h : Str} {met : List Str} {p : List Nat} {m : Str} (s : Smp rs h met p m) : met.length = p.length + 1 := by
  induction s with
  | here => rfl
  | step _ _ _ _ ih => rw [List.length_append, List.length_append, ih]; rfl
theorem Smp.nd {rs : List RD} {h : Str} {met : List Str} {p : List Nat} {m : Str} (s : Smp rs h met p m) : met.Nodup := by
  induction s with
  | here => simp
  | step _ _ _ hn ih =>
    rw [List.nodup_append]
    refine ⟨ih, by simp, fun a ha b hb e => ?_⟩
    obtain rfl : b = _ := by simpa using hb
    exact hn (e ▸ ha)
theorem Smp.zero {rs : List RD} {h : Str} {met : List Str} {p : List Nat} {m : Str} (s : Smp rs h met p m) : met[0]? = some h := by
  induction s with
  | here => rfl
  | step s _ _ _ ih =>
    rw [List.getElem?_append_left (by rw [s.len]; omega)]
    exact ih
theorem Smp.at {rs : List RD} {h : Str} {met : List Str} {p : List Nat} {m : Str} (s : Smp rs h met p m) : ∀ i r, p[i]? = some r → ∃ q, rs[r]? = some q ∧ met[i]? = some q.b ∧ met[i + 1]? = some q.g := by
  induction s with
  | here => intro i r e; cases e
  | step s h1 h2 hn ih =>
    rename_i met p m r q
    intro i r' e
    have ml := s.len
    rcases Nat.lt_or_ge i p.length with z | z
    · rw [List.getElem?_append_left z] at e
      obtain ⟨q', a, b, c⟩ := ih i r' e
      exact ⟨q', a, by rw [List.getElem?_append_left (by omega)]; exact b, by rw [List.getElem?_append_left (by omega)]; exact c⟩
    · have il := (List.getElem?_eq_some_iff.mp e).1
      rw [List.length_append] at il
      have il : i < p.length + 1 := il
      obtain rfl : i = p.length := by omega
      rw [List.getElem?_append_right (Nat.le_refl _), Nat.sub_self] at e
      obtain rfl : r = r' := Option.some.inj e
      refine ⟨q, h1, ?_, ?_⟩
      · rw [List.getElem?_append_left (by omega), h2]
        have := s.last
        rw [List.getLast?_eq_getElem?, ml] at this
        exact this
      · rw [List.getElem?_append_right (by omega), ml, Nat.sub_self]
        rfl
theorem Smp.in {rs : List RD} {h : Str} {met : List Str} {p : List Nat} {m : Str} (s : Smp rs h met p m) : ∀ x ∈ met, ∃ p', Leads rs h p' x ∧ p'.length ≤ p.length := by
  induction s with
  | here =>
    intro x hx
    obtain rfl : x = h := by simpa using hx
    exact ⟨[], rfl, Nat.le_refl _⟩
  | step s h1 h2 hn ih =>
    rename_i met p m r q
    intro x hx
    rcases List.mem_append.mp hx with z | z
    · obtain ⟨p', a, b⟩ := ih x z
      exact ⟨p', a, by rw [List.length_append]; omega⟩
    · obtain rfl : x = q.g := by simpa using z
      exact ⟨p ++ [r], leads_app s.leads ⟨q, h1, h2, rfl⟩, Nat.le_refl _⟩
theorem smp_of {rs : List RD} {h : Str} : ∀ (n : Nat) (p : List Nat) (g : Str), p.length = n → Leads rs h p g → (∀ p', Leads rs h p' g → p.length ≤ p'.length) → ∃ met, Smp rs h met p g
  | 0, p, g, e, l, _ => by
    have : p = [] := List.eq_nil_of_length_eq_zero e
    subst this
    have e2 : h = g := l
    exact ⟨[h], e2 ▸ .here⟩
  | n + 1, p, g, e, l, mn => by
    obtain ⟨p0, r, rfl, pl⟩ := snoc_of e
    obtain ⟨m, l0, q, h1, h2, h3⟩ := leads_cut l
    have h3 : q.g = g := h3
    obtain ⟨met, s⟩ := smp_of n p0 m pl l0 fun p' l' => by
      have := mn (p' ++ [r]) (leads_app l' ⟨q, h1, h2, h3⟩)
      rw [List.length_append, List.length_append] at this
      exact Nat.le_of_add_le_add_right this
    refine ⟨met ++ [q.g], ?_⟩
    rw [← h3]
    refine .step s h1 h2 fun hin => ?_
    obtain ⟨p', a, b⟩ := s.in _ hin
    have := mn p' (h3 ▸ a)
    rw [List.length_append] at this
    have : p0.length + 1 ≤ p'.length := this
    omega
/-- the roads of a row tell the row -/
theorem Smp.inj {rs : List RD} {h : Str} {met met' : List Str} {p p' : List Nat} {m m' : Str} (s : Smp rs h met p m) (s' : Smp rs h met' p' m') (hl : p.length = p'.length) (hm : ∀ r, r ∈ p' → r ∈ p) : p = p' := by
  have step : ∀ j : Nat, met[j]? = met'[j]? → p[j]? = p'[j]? := fun j ej => by
    cases e' : p'[j]? with
    | none =>
      rw [List.getElem?_eq_none_iff] at e' ⊢
      omega
    | some r' =>
      have jl := (List.getElem?_eq_some_iff.mp e').1
      obtain ⟨q', a', b', _⟩ := s'.at j r' e'
      obtain ⟨i, hi⟩ := List.mem_iff_getElem?.mp (hm r' (List.mem_of_getElem? e'))
      obtain ⟨q, a, b, _⟩ := s.at i r' hi
      rw [a'] at a
      obtain rfl := Option.some.inj a
      have bj : met[j]? = some q'.b := ej.trans b'
      have : i = j := by
        have nd := s.nd
        rcases Nat.lt_trichotomy i j with z | z | z
        · exact absurd rfl (nodup_at nd (i := i) (j := j) b bj (by omega))
        · exact z
        · exact absurd rfl (nodup_at nd (i := i) (j := j) b bj (by omega))
      subst this
      exact hi
  have all : ∀ j : Nat, met[j]? = met'[j]? ∧ p[j]? = p'[j]? := fun j => by
    induction j with
    | zero => exact ⟨by rw [s.zero, s'.zero], step 0 (by rw [s.zero, s'.zero])⟩
    | succ j ih =>
      have e : met[j + 1]? = met'[j + 1]? := by
        cases hp : p[j]? with
        | none =>
          rw [List.getElem?_eq_none_iff] at hp
          have a := s.len
          have b := s'.len
          rw [List.getElem?_eq_none (by omega), List.getElem?_eq_none (by omega)]
        | some r =>
          obtain ⟨q, a, _, c⟩ := s.at j r hp
          obtain ⟨q', a', _, c'⟩ := s'.at j r (by rw [← ih.2]; exact hp)
          rw [a] at a'
          obtain rfl := Option.some.inj a'
          rw [c, c']
      exact ⟨e, step _ e⟩
  exact List.ext_getElem? fun j => (all j).2
theorem Smp.met {rs : List RD} {h : Str} {met met' : List Str} {p : List Nat} {m m' : Str} (s : Smp rs h met p m) (s' : Smp rs h met' p m') : met = met' := by
  refine List.ext_getElem? fun j => ?_
  cases j with
  | zero => rw [s.zero, s'.zero]
  | succ j =>
    cases hp : p[j]? with
    | none =>
      rw [List.getElem?_eq_none_iff] at hp
      have a := s.len
      have b := s'.len
      rw [List.getElem?_eq_none (by omega), List.getElem?_eq_none (by omega)]
    | some r =>
      obtain ⟨q, a, _, c⟩ := s.at j r hp
      obtain ⟨q', a', _, c'⟩ := s'.at j r hp
      rw [a] at a'
      obtain rfl := Option.some.inj a'
      rw [c, c']
/-! ### all of them by length -/
def extR (rs : List RD) (e : List Str × List Nat) : List Nat := (List.range rs.length).filter fun r => match rs[r]? with
  | some q => decide (e.1.getLast? = some q.b) && !decide (q.g ∈ e.1)
  | none => false
def extE (rs : List RD) (e : List Str × List Nat) : List (List Str × List Nat) := (extR rs e).map fun r => (e.1 ++ [glO rs r], e.2 ++ [r])
def rowsK (rs : List RD) (h : Str) : Nat → List (List Str × List Nat)
  | 0 => [([h], [])]
  | k + 1 => (rowsK rs h k).flatMap (extE rs)
theorem extE_mem {rs : List RD} {h : Str} {e f : List Str × List Nat} {m : Str} (s : Smp rs h e.1 e.2 m) : f ∈ extE rs e ↔ ∃ r q, rs[r]? = some q ∧ q.b = m ∧ q.g ∉ e.1 ∧ f = (e.1 ++ [q.g], e.2 ++ [r]) := by
  unfold extE extR
  rw [List.mem_map]
  constructor
  · rintro ⟨r, hr, rfl⟩
    obtain ⟨h1, h2⟩ := List.mem_filter.mp hr
    have rl := List.mem_range.mp h1
    rw [List.getElem?_eq_getElem rl] at h2
    simp only [Bool.and_eq_true, decide_eq_true_eq, Bool.not_eq_true', decide_eq_false_iff_not] at h2
    rw [s.last] at h2
    refine ⟨r, rs[r], List.getElem?_eq_getElem rl, (Option.some.inj h2.1).symm, h2.2, ?_⟩
    unfold glO
    rw [List.getElem?_eq_getElem rl]
    rfl
  · rintro ⟨r, q, h1, h2, h3, rfl⟩
    refine ⟨r, List.mem_filter.mpr ⟨List.mem_range.mpr (List.getElem?_eq_some_iff.mp h1).1, ?_⟩, ?_⟩
    · rw [h1]
      simp only [Bool.and_eq_true, decide_eq_true_eq, Bool.not_eq_true', decide_eq_false_iff_not]
      exact ⟨by rw [s.last, h2], h3⟩
    · unfold glO
      rw [h1]
      rfl
theorem rowsK_mem {rs : List RD} {h : Str} : ∀ {k : Nat} {e : List Str × List Nat}, e ∈ rowsK rs h k ↔ e.2.length = k ∧ ∃ m, Smp rs h e.1 e.2 m
  | 0, e => by
    unfold rowsK
    constructor
    · intro he
      obtain rfl : e = ([h], []) := by simpa using he
      exact ⟨rfl, h, .here⟩
    · rintro ⟨h1, m, s⟩
      obtain ⟨a, b⟩ := e
      have : b = [] := List.eq_nil_of_length_eq_zero h1
      subst this
      have := s.met (met' := [h]) .here
      simp only at this
      rw [this]
      simp
  | k + 1, e => by
    unfold rowsK
    rw [List.mem_flatMap]
    constructor
    · rintro ⟨f, hf, he⟩
      obtain ⟨fl, m, s⟩ := rowsK_mem.mp hf
      obtain ⟨r, q, h1, h2, h3, rfl⟩ := (extE_mem s).mp he
      exact ⟨by rw [List.length_append, fl]; rfl, q.g, .step s h1 h2 h3⟩
    · rintro ⟨h1, m, s⟩
      obtain ⟨a, b⟩ := e
      cases s with
      | here => cases h1
      | step s0 g1 g2 g3 =>
        refine ⟨(_, _), rowsK_mem.mpr ⟨?_, _, s0⟩, (extE_mem s0).mpr ⟨_, _, g1, g2, g3, rfl⟩⟩
        have h2 : (_ ++ [_]).length = k + 1 := h1
        rw [List.length_append] at h2
        exact Nat.succ.inj h2
theorem rowsK_nd {rs : List RD} {h : Str} : ∀ k, (rowsK rs h k).Pairwise (fun a b => a.2 ≠ b.2)
  | 0 => by unfold rowsK; simp
  | k + 1 => by
    unfold rowsK
    rw [List.pairwise_flatMap]
    refine ⟨fun a _ => ?_, (rowsK_nd k).imp fun {a b} ne x hx y hy => ?_⟩
    · unfold extE
      rw [List.pairwise_map]
      refine List.Pairwise.imp ?_ (List.Nodup.sublist List.filter_sublist List.nodup_range : (extR rs a).Nodup)
      intro r r' ne e
      have e : a.2 ++ [r] = a.2 ++ [r'] := e
      have := List.append_cancel_left e
      exact ne (by simpa using this)
    · obtain ⟨r, _, rfl⟩ := List.mem_map.mp hx
      obtain ⟨r', _, rfl⟩ := List.mem_map.mp hy
      intro e
      have e : a.2 ++ [r] = b.2 ++ [r'] := e
      exact ne (List.append_inj' e rfl).1
/-! ### how many there are -/
def allV : Nat → List (List Bool)
  | 0 => [[]]
  | n + 1 => (allV n).flatMap fun v => [true :: v, false :: v]
theorem allV_len : ∀ n, (allV n).length = 2 ^ n
  | 0 => rfl
  | n + 1 => by
    have : ∀ l : List (List Bool), (l.flatMap fun v => [true :: v, false :: v]).length = 2 * l.length := fun l => by
      induction l with
      | nil => rfl
      | cons x l ih => rw [List.flatMap_cons, List.length_append, ih, List.length_cons]; show 2 + 2 * l.length = 2 * (l.length + 1); omega
    unfold allV
    rw [this, allV_len n, Nat.pow_succ]
    omega
theorem allV_mem : ∀ (v : List Bool), v ∈ allV v.length
  | [] => by simp [allV]
  | b :: v => by
    show b :: v ∈ (allV v.length).flatMap fun v => [true :: v, false :: v]
    rw [List.mem_flatMap]
    exact ⟨v, allV_mem v, by cases b <;> simp⟩
theorem nd_lenB : ∀ {l m : List (List Bool)}, l.Nodup → (∀ x ∈ l, x ∈ m) → l.length ≤ m.length
  | [], _, _, _ => Nat.zero_le _
  | x :: l, m, nd, h => by
    rw [List.nodup_cons] at nd
    have hx := h x List.mem_cons_self
    have := nd_lenB (m := m.erase x) nd.2 fun y hy => (List.mem_erase_of_ne (fun e : y = x => nd.1 (e ▸ hy))).mpr (h y (List.mem_cons_of_mem _ hy))
    rw [List.length_erase_of_mem hx] at this
    have := List.length_pos_of_mem hx
    rw [List.length_cons]
    omega
def vecR (p : List Nat) : List Bool := (List.range 16).map fun i => decide (i ∈ p)
theorem rowsK_len {rs : List RD} {h : Str} (k : Nat) (hr : rs.length ≤ 16) : (rowsK rs h k).length ≤ 65536 := by
  have nd : ((rowsK rs h k).map fun e => vecR e.2).Nodup := by
    rw [List.nodup_iff_pairwise_ne, List.pairwise_map]
    refine List.Pairwise.imp_of_mem ?_ (rowsK_nd k)
    intro a b ha hb ne e
    obtain ⟨al, m, s⟩ := rowsK_mem.mp ha
    obtain ⟨bl, m', s'⟩ := rowsK_mem.mp hb
    refine ne (s.inj s' (al.trans bl.symm) fun r hr' => ?_)
    have r16 : r < 16 := Nat.lt_of_lt_of_le (leads_ok s'.leads r hr') hr
    have := congrArg (fun v => v[r]?) e
    unfold vecR at this
    simp [r16] at this
    exact this.mpr hr'
  have := nd_lenB nd (m := allV 16) fun x hx => by
    obtain ⟨e, _, rfl⟩ := List.mem_map.mp hx
    have := allV_mem (vecR e.2)
    unfold vecR at this ⊢
    rwa [List.length_map, List.length_range] at this
  rw [List.length_map, allV_len] at this
  exact this
end TP
namespace TP
open PySem PySem.Spec PyProof.Rows L2
structure RE where
  t : Addr
  m : Addr
  r : Addr
  e : List Str × List Nat
def ReOk (K : PySem.W.Frag) (H : Hp) (x : RE) : Prop := SqT K H x.t [.ref x.m, .ref x.r] ∧ SqT K H x.m (x.e.1.map V.str) ∧ SqT K H x.r (natsV x.e.2)
theorem ReOk.ex {K : PySem.W.Frag} {H H' : Hp} {x : RE} (h : ReOk K H x) (e : Evl.Ex H H') : ReOk K H' x := ⟨sqt_ex h.1 e, sqt_ex h.2.1 e, sqt_ex h.2.2 e⟩
theorem at_last {met : List Str} {m : Str} (h : met.getLast? = some m) : atI (met.map V.str) (-1) = some (.str m) := by
  rw [List.getLast?_eq_getElem?] at h
  have l := (List.getElem?_eq_some_iff.mp h).1
  refine atI_neg (j := met.length - 1) (by decide) (by rw [List.length_map]; omega) ?_
  rw [List.getElem?_map, h]
  rfl
def spRows (K : PySem.W.Frag) : Sp := fun vs H Q _ => ∃ (pl : Addr) (rq : List (Addr × RD)) (h g : Str) (l : Lb), vs = [.ref pl, .str h, .str g] ∧ H pl = some (.lst (rqV rq)) ∧ (∀ q ∈ rq, H q.1 = some (.tup q.2.vs)) ∧ rq.length ≤ 16 ∧ Best (rq.map (·.2)) h g l ∧ l.p.length ≤ 7 ∧
  ∀ (D : Addr) (ps : List (Addr × List Nat)) (H' : Hp), Evl.Ex H H' → H' D = some (.lst (ps.map fun x => V.ref x.1)) → (∀ x ∈ ps, SqT K H' x.1 (natsV x.2) ∧ Leads (rq.map (·.2)) h x.2 g ∧ x.2.length = l.p.length) → (∃ x ∈ ps, x.2 = l.p) → ps.length ≤ 65536 → Q (.ref D) H'
def dRE : RE := ⟨(0 : Nat), (0 : Nat), (0 : Nat), ([], [])⟩
theorem getD_some {α : Type} {l : List α} {i : Nat} {x d : α} (h : l[i]? = some x) : l.getD i d = x := by
  rw [List.getD_eq_getElem?_getD, h]
  rfl
end TP

namespace TP
open PySem PySem.Spec PyProof.Rows L2
theorem least_nat {p : Nat → Prop} : ∀ n, p n → ∃ k, p k ∧ ∀ j, p j → k ≤ j := by
  intro n
  induction n using Nat.strongRecOn with
  | _ n ih =>
    intro hn
    by_cases h : ∃ j, j < n ∧ p j
    · obtain ⟨j, jl, hj⟩ := h
      exact ih j jl hj
    · refine ⟨n, hn, fun j hj => ?_⟩
      rcases Nat.lt_or_ge j n with z | z
      · exact absurd ⟨j, z, hj⟩ h
      · exact z
theorem least_lb : ∀ (L : List Lb), L ≠ [] → ∃ l ∈ L, ∀ m ∈ L, m.lt l = false
  | [], h => absurd rfl h
  | [a], _ => ⟨a, List.mem_cons_self, fun m hm => by
    obtain rfl : m = a := by simpa using hm
    exact Lb.irr _⟩
  | a :: b :: r, _ => by
    obtain ⟨l, hl, mn⟩ := least_lb (b :: r) (by simp)
    cases e : a.lt l with
    | true =>
      refine ⟨a, List.mem_cons_self, fun m hm => ?_⟩
      rcases List.mem_cons.mp hm with rfl | hm
      · exact Lb.irr _
      · refine Bool.eq_false_iff.mpr fun z => ?_
        have := Lb.trans z e
        rw [mn m hm] at this
        cases this
    | false =>
      refine ⟨l, List.mem_cons_of_mem _ hl, fun m hm => ?_⟩
      rcases List.mem_cons.mp hm with rfl | hm
      · exact e
      · exact mn m hm
theorem best_ex {rs : List RD} {h g : Str} (ex : ∃ p, Leads rs h p g) : ∃ l, Best rs h g l := by
  obtain ⟨p0, l0⟩ := ex
  obtain ⟨N, ⟨p, lp, pN⟩, mn⟩ := least_nat (p := fun n => ∃ p, Leads rs h p g ∧ p.length = n) p0.length ⟨p0, l0, rfl⟩
  have key : ∀ q, Leads rs h q g → q.length = N → ∃ e ∈ rowsK rs h N, e.2 = q := fun q lq qN => by
    obtain ⟨met, s⟩ := smp_of q.length q g rfl lq fun p' l' => by rw [qN]; exact mn _ ⟨p', l', rfl⟩
    exact ⟨(met, q), rowsK_mem.mpr ⟨qN, g, s⟩, rfl⟩
  classical
  obtain ⟨l, hl, ml⟩ := least_lb (((rowsK rs h N).filter fun e => decide (Leads rs h e.2 g)).map fun e => lab rs e.2) (by
    obtain ⟨e, he, ep⟩ := key p lp pN
    intro z
    have : lab rs e.2 ∈ (((rowsK rs h N).filter fun e => decide (Leads rs h e.2 g)).map fun e => lab rs e.2) := List.mem_map.mpr ⟨e, List.mem_filter.mpr ⟨he, decide_eq_true (by rw [ep]; exact lp)⟩, rfl⟩
    rw [z] at this
    cases this)
  obtain ⟨e, he, rfl⟩ := List.mem_map.mp hl
  obtain ⟨e1, e2⟩ := List.mem_filter.mp he
  have eN := (rowsK_mem.mp e1).1
  refine ⟨lab rs e.2, of_decide_eq_true e2, rfl, fun q lq => ?_, fun q lq ql => ?_⟩
  · show e.2.length ≤ q.length
    rw [eN]
    exact mn _ ⟨q, lq, rfl⟩
  · obtain ⟨f, hf, fq⟩ := key q lq (ql.trans eN)
    exact ml _ (List.mem_map.mpr ⟨f, List.mem_filter.mpr ⟨hf, decide_eq_true (by rw [fq]; exact lq)⟩, by rw [fq]⟩)
theorem smp_sub {rs : List RD} {h : Str} {hs : List Str} (hm : h ∈ hs) (hg : ∀ q ∈ rs, q.g ∈ hs) {met : List Str} {p : List Nat} {m : Str} (s : Smp rs h met p m) : ∀ x ∈ met, x ∈ hs := by
  induction s with
  | here =>
    intro x hx
    obtain rfl : x = h := by simpa using hx
    exact hm
  | step _ h1 _ _ ih =>
    intro x hx
    rcases List.mem_append.mp hx with z | z
    · exact ih x z
    · obtain rfl : x = _ := by simpa using z
      exact hg _ (List.mem_of_getElem? h1)
theorem best_7 {rs : List RD} {h g : Str} {hs : List Str} (hm : h ∈ hs) (hg : ∀ q ∈ rs, q.g ∈ hs) (h8 : hs.length ≤ 8) {l : Lb} (b : Best rs h g l) : l.p.length ≤ 7 := by
  obtain ⟨met, s⟩ := smp_of l.p.length l.p g rfl b.ld b.sh
  have := nd_len s.nd (smp_sub hm hg s)
  have := s.len
  omega
end TP

namespace TP
open PySem PySem.Spec PyProof.Rows L2
/-! ### the same within comprehensions, K told -/
theorem pi_tupL (K : PySem.W.Frag) {X : Cx} {tg l : Expr} {tl : TE} (hl : PE X l tl) (hK : X.K = K := by rfl) : PI X tg l (iTup K tl) := by
  subst hK
  exact pi_tup hl
theorem pi_listL (K : PySem.W.Frag) {X : Cx} {tg l : Expr} {tl : TE} (hl : PE X l tl) (hK : X.K = K := by rfl) : PI X tg l (iList K tl) := by
  subst hK
  exact pi_list hl
end TP

namespace TP
open PySem PySem.Spec PyProof.Rows L2
/-! ### l.count(text) -/
theorem dp_strs {K : PySem.W.Frag} {H : Hp} : ∀ zs : List Str, DpAll K H (zs.map V.str) (zs.map PyData.str)
  | [] => .nil
  | z :: zs => .cons (.str z) (dp_strs zs)
theorem plain_strs : ∀ zs : List Str, PyData.plainAll (zs.map PyData.str) = true
  | [] => rfl
  | z :: zs => by
    rw [List.map_cons]
    show (PyData.plain (.str z) && PyData.plainAll _) = true
    rw [plain_strs zs]
    rfl
theorem count_strs (g : Str) : ∀ zs : List Str, (zs.map PyData.str).countP (fun y => PyData.eqv y (.str g)) = zs.count g
  | [] => rfl
  | z :: zs => by
    rw [List.map_cons, List.countP_cons, List.count_cons, count_strs g zs]
    have : PyData.eqv (.str z) (.str g) = (z == g) := by simp [PyData.eqv]
    rw [this]
def rCntS (K : PySem.W.Frag) : V → List V → Hp → VK → Prop := fun x xs H Q => ∃ (a : Addr) (zs : List Str) (g : Str), x = .ref a ∧ xs = [.str g] ∧ SqL K H a (zs.map V.str) ∧ Q (.int (zs.count g : Nat)) H
theorem mt_countS {X : Cx} (hu : X.A.units + 64 < cLine) : MtR X "list.count" (rCntS X.K) := by
  intro pins s σ H x xs v us Q I rx rxs h
  obtain ⟨a, zs, g, rfl, rfl, hl, q⟩ := h
  cases rx
  cases rxs with
  | cons ry rt =>
    rename_i uy ut
    cases rt
    obtain ⟨bs, r1⟩ := Dp.reads I (.str g) (.str g) uy (.str g) ry
    obtain ⟨its, rv, hi, _⟩ := I.list hl
    obtain ⟨as, r2⟩ := Dp.readsAll I _ _ its (dp_strs zs) rv
    refine PySem.SeqAt.count_list_data hi.isList (by exact r2) r1 (plain_strs zs) rfl (by show X.A.units + 1 + min _ 0 < cLine; omega) ?_
    rw [count_strs]
    exact ⟨.int _, H, I.tok _, ⟨_, rfl⟩, q⟩
/-! ### a dict comprehension over any walk -/
theorem dc_it {J : It} {n : Nat} {G : Hp → Prop} {Y : Nat → Hp → V → Hp → Prop} (w : Walk J n G Y) {g : TG} {tt : TT} {tk tv : TE} {vs : List Nat} {σ : L2.St} {H1 : Hp} {D : Addr} {Qd : Hp → Prop} (Pv : Nat → Hp → Prop) (h0 : Pv 0 (upd H1 D (.dK []))) (hG : ∀ i H, i ≤ n → Pv i H → G H)
    (hs : ∀ i x H H', i < n → Pv i H → Y i H x H' → g x (wipe σ vs) H' fun σ2 H2 => wipe σ2 vs = wipe σ vs ∧ tt σ2 H2 fun b H3 =>
      if b = true then tk σ2 H3 fun y H4 => tv σ2 H4 fun z H5 => ∃ kvs k, y = kV k ∧ H5 D = some (.dK kvs) ∧ kvs.length < sizeLine ∧ Pv (i + 1) (upd H5 D (.dK (putK kvs k z))) else Pv (i + 1) H3) (hd : ∀ H, Pv n H → Qd H) :
    ∃ W : Nat → Nat → Hp → Prop, (∃ m, W 0 m (upd H1 D (.dK []))) ∧ ∀ i m H, W i m H →
      (J.stop i H ∧ Qd H) ∨ (J.go i H ∧ ∃ Nx : Hp → Prop, (∀ H', Nx H' → ∃ m', m' < m ∧ W (i + 1) m' H') ∧ ∀ x H', J.yld i H x H' → g x (wipe σ vs) H' fun σ2 H2 => wipe σ2 vs = wipe σ vs ∧ tt σ2 H2 fun b H3 =>
        if b = true then tk σ2 H3 fun y H4 => tv σ2 H4 fun z H5 => ∃ kvs k, y = kV k ∧ H5 D = some (.dK kvs) ∧ kvs.length < sizeLine ∧ Nx (upd H5 D (.dK (putK kvs k z))) else Nx H3) := by
  refine ⟨fun i m H => m = n - i ∧ i ≤ n ∧ Pv i H, ⟨n, by simp, Nat.zero_le _, h0⟩, ?_⟩
  rintro i m H ⟨rfl, hi, p⟩
  have q := hG i H hi p
  by_cases hlt : i < n
  · refine .inr ⟨w.goes i H hlt q, Pv (i + 1), fun H' p' => ⟨n - (i + 1), by omega, rfl, hlt, p'⟩, fun x H' y => hs i x H H' hlt p (w.yields i H x H' hlt q y)⟩
  · have e : i = n := by omega
    subst e
    exact .inl ⟨w.stops H q, hd H p⟩
/-! ### name = {k: v for ..} -/
theorem sw_trueD {kx vx : Expr} {gs : List Comprehension} {scope : Scope} {pos py : Pos} {y : Str} {l : Nat} {env : Env} (hk : env.scope.kind = .function) (hy : env.scope.names.lookup y = some .local) (hl : (py.line == pos.line) = true)
    (ha : (scope.names.any fun (n, k) => n == y && (k == .local || k == .cell)) = false) : swapsWith (.DictComp kx vx gs scope pos) (some (.Name y py)) l env = pure true := by
  have ky : env.kindOf y = some .local := hy
  have hb : env.blockKind = .function := by unfold Env.blockKind; rw [hk]; rfl
  unfold swapsWith
  simp only [hb, ky, ha, Expr.pos, hl]
  rfl
theorem ps_setDc {X : Cx} {i : Nat} {y : Str} {py : Pos} {kx vx tg iter : Expr} {ifs : List Expr} {scope : Scope} {own : List (Str × Nat)} {pos spos : Pos} {wi : TI} {g : TG} {tt : TT} {tk tv : TE} (hc : X.calm = true) (hN : X.N.Nodup) (hy : X.N[i]? = some y) (hyl : X.env.scope.names.lookup y = some .local)
    (hsw : swapsWith (.DictComp kx vx [⟨tg, iter, ifs, 0⟩] scope pos) (some (.Name y py)) spos.line X.env = pure true) (hi : PI X tg iter wi) (ok : BlkOk X.N X.env.scope scope own)
    (hg : ∀ (s : Shared) (H : Hp) (C : Addr) (cl : List (Str × Addr)) (fp : List Addr), PG (X.blk s H scope (compEnvC scope cl C X.env) fp) tg g) (ht : ∀ (s : Shared) (H : Hp) (C : Addr) (cl : List (Str × Addr)) (fp : List Addr), PTs (X.blk s H scope (compEnvC scope cl C X.env) fp) ifs tt)
    (hk : ∀ (s : Shared) (H : Hp) (C : Addr) (cl : List (Str × Addr)) (fp : List Addr), PE (X.blk s H scope (compEnvC scope cl C X.env) fp) kx tk)
    (he : ∀ (s : Shared) (H : Hp) (C : Addr) (cl : List (Str × Addr)) (fp : List Addr), PE (X.blk s H scope (compEnvC scope cl C X.env) fp) vx tv) (hs : ∀ x, foldedSetIterable iter X.env x = pure x := by intro _; rfl) :
    PS X (.Assign [.Name y py] (.DictComp kx vx [⟨tg, iter, ifs, 0⟩] scope pos) spos) (tAsg (tDc wi g tt tk tv (own.map (·.2))) (gName i)) := by
  refine ⟨fun pins s σ H D I h => ?_⟩
  rw [exec_Assign_Name_used _ _ _ _ hsw]
  refine wpAny_bind (wpAny_standAt (wpAny_bind ?_))
  show wpAny _ X.A (do let _ ← comprehension (.DictComp kx vx [⟨tg, iter, ifs, 0⟩] scope pos) scope X.env (firstIterPos [⟨tg, iter, ifs, 0⟩] pos) newDict false (eval iter X.env) (some (assign (.Name y py) X.env))) _ _ s
  have h : tDc wi g tt tk tv (own.map (·.2)) σ H (fun x H1 => gName i x σ H1 D.nx) := h
  refine wpAny_bind (thn (dc_core (Qf := fun _ s' => SP X pins D .next s') hc hN I hi ok hg ht hk he hs h fun L C s' m H' I' q hn f => ?_) fun _ s' hq => wpAny_pure (wpAny_pure hq))
  show wpAny _ _ (assign (.Name y py) X.env (.ref L)) _ _ _
  refine wpAny_assign_Name (store_ok2 (v := V.ref L) I' hN hy (.inl hyl) rfl (fun s2 I2 ⟨a, sb, ha⟩ => ?_) (.inr hyl))
  obtain ⟨f0, f1, f2, f3, f4, f5⟩ := f
  have haC : C ≠ a := by
    rcases ha with z | z
    · rw [z]; exact f1
    · exact fun e => f4 y a z e.symm
  refine ⟨m, hn.sameBut sb haC, fun h3 sb3 => ?_⟩
  exact ⟨_, H', I2.turned (t' := s2.toks) (fun b o hb e => (sb3.2 b hb).trans e) f0 f1 f3 f4 f5, q⟩
/-! ### dicts told by their keys -/
def kvF (ks : List Key) (F : Key → V) : List (Key × V) := ks.map fun k => (k, F k)
theorem kvF_val {F : Key → V} {k : Key} : ∀ {ks : List Key}, k ∈ ks → valV (kvF ks F) k = some (F k)
  | x :: ks, h => by
    by_cases e : x = k
    · subst e
      exact valV_pos rfl
    · have : k ∈ ks := by
        rcases List.mem_cons.mp h with z | z
        · exact absurd z.symm e
        · exact z
      exact (valV_neg (p := (x, F x)) e).trans (kvF_val this)
theorem kvF_put {F : Key → V} {k : Key} {v : V} {ks : List Key} (h : k ∈ ks) : putK (kvF ks F) k v = kvF ks fun x => if x = k then v else F x := by
  have e : ((kvF ks F).any fun kv => decide (kv.1 = k)) = true := by rw [valV_any, kvF_val h]; rfl
  unfold putK
  rw [if_pos e]
  unfold kvF
  rw [List.map_map]
  refine List.map_congr_left fun x _ => ?_
  show (if x = k then (x, v) else (x, F x)) = (x, if x = k then v else F x)
  by_cases z : x = k
  · rw [if_pos z, if_pos z]
  · rw [if_neg z, if_neg z]
theorem kvF_none {F : Key → V} {k : Key} {ks : List Key} (h : k ∉ ks) : valV (kvF ks F) k = none := by
  induction ks with
  | nil => rfl
  | cons x ks ih =>
    have e : x ≠ k := fun e => h (by rw [e]; exact List.mem_cons_self)
    exact (valV_neg (p := (x, F x)) e).trans (ih fun z => h (List.mem_cons_of_mem _ z))
theorem kvF_snoc {F : Key → V} {k : Key} {ks : List Key} (h : k ∉ ks) : putK (kvF ks F) k (F k) = kvF (ks ++ [k]) F := by
  rw [L2.putK_new _ (kvF_none h)]
  unfold kvF
  rw [List.map_append]
  rfl
theorem kvF_congr {F G : Key → V} {ks : List Key} (h : ∀ k ∈ ks, F k = G k) : kvF ks F = kvF ks G := List.map_congr_left fun k hk => by rw [h k hk]
theorem kvF_len {F : Key → V} {ks : List Key} : (kvF ks F).length = ks.length := List.length_map ..
/-! ### the leaves of a house -/
open Classical in
noncomputable def bestP (rs : List RD) (h g : Str) : List Nat := if hx : ∃ l, Best rs h g l then hx.choose.p else []
theorem bestP_of {rs : List RD} {h g : Str} {l : Lb} (b : Best rs h g l) : bestP rs h g = l.p := by
  have hx : ∃ l, Best rs h g l := ⟨l, b⟩
  unfold bestP
  rw [dif_pos hx, hx.choose_spec.uniq b]
noncomputable def leafK (rs : List RD) (h g : Str) : Key := if g = h then .inr "home" else .inl (((bestP rs h g).headD 0 : Nat) : Int)
def leaves (rs : List RD) (h : Str) : List Key := .inr "home" :: (rdFrom h 0 rs).map .inl
noncomputable def cntUp (rs : List RD) (vs : List Str) (h : Str) (gs : List Str) (k : Key) : Nat := ((gs.filter fun g => decide (leafK rs h g = k)).map fun g => vs.count g).sum
theorem cntUp_snoc (rs : List RD) (vs : List Str) (h : Str) (gs : List Str) (g : Str) (k : Key) : cntUp rs vs h (gs ++ [g]) k = cntUp rs vs h gs k + if leafK rs h g = k then vs.count g else 0 := by
  unfold cntUp
  rw [List.filter_append, List.map_append, List.sum_append]
  by_cases e : leafK rs h g = k
  · simp [e]
  · simp [e]
noncomputable def cntV (L : LandD) (h : Str) : List (Key × V) := kvF (leaves L.rs h) fun k => .int (cntUp L.rs (L.ss.map (·.2)) h L.hs k : Nat)
def AllW (L : LandD) : Prop := ∀ h ∈ L.hs, ∀ g ∈ L.hs, ∃ p, Leads L.rs h p g
theorem rdFrom_mem {z : Str} {x : Int} : ∀ {i : Nat} {rs : List RD}, x ∈ rdFrom z i rs ↔ ∃ j q, rs[j]? = some q ∧ q.b = z ∧ x = ((i + j : Nat) : Int)
  | i, [] => by simp [rdFrom]
  | i, r :: rs => by
    unfold rdFrom
    have ih := @rdFrom_mem z x (i + 1) rs
    have s : (∃ j q, rs[j]? = some q ∧ q.b = z ∧ x = ((i + 1 + j : Nat) : Int)) → ∃ j q, (r :: rs)[j]? = some q ∧ q.b = z ∧ x = ((i + j : Nat) : Int) := fun ⟨j, q, h1, h2, h3⟩ => ⟨j + 1, q, h1, h2, by rw [h3]; congr 1; omega⟩
    by_cases e : r.b = z
    · rw [if_pos e, List.mem_cons, ih]
      constructor
      · rintro (h | h)
        · exact ⟨0, r, rfl, e, h⟩
        · exact s h
      · rintro ⟨j, q, h1, h2, h3⟩
        cases j with
        | zero => exact .inl h3
        | succ j => exact .inr ⟨j, q, h1, h2, by rw [h3]; congr 1; omega⟩
    · rw [if_neg e, ih]
      constructor
      · exact s
      · rintro ⟨j, q, h1, h2, h3⟩
        cases j with
        | zero => cases h1; exact absurd h2 e
        | succ j => exact ⟨j, q, h1, h2, by rw [h3]; congr 1; omega⟩
theorem rdFrom_nd {z : Str} : ∀ {i : Nat} {rs : List RD}, (rdFrom z i rs).Nodup
  | i, [] => List.nodup_nil
  | i, r :: rs => by
    unfold rdFrom
    by_cases e : r.b = z
    · rw [if_pos e, List.nodup_cons]
      refine ⟨fun h => ?_, rdFrom_nd⟩
      obtain ⟨j, q, _, _, h3⟩ := rdFrom_mem.mp h
      omega
    · rw [if_neg e]
      exact rdFrom_nd
theorem leaves_nd (rs : List RD) (h : Str) : (leaves rs h).Nodup := by
  unfold leaves
  rw [List.nodup_cons]
  refine ⟨fun z => ?_, rdFrom_nd.map _ fun a b n k => n (Sum.inl.inj k)⟩
  obtain ⟨x, _, e⟩ := List.mem_map.mp z
  cases e
theorem leafK_mem {rs : List RD} {h g : Str} (ex : ∃ p, Leads rs h p g) : leafK rs h g ∈ leaves rs h := by
  unfold leafK leaves
  by_cases e : g = h
  · rw [if_pos e]
    exact List.mem_cons_self
  · rw [if_neg e]
    obtain ⟨l, b⟩ := best_ex ex
    obtain ⟨r, q, h1, h2, h3, _⟩ := best_next b (fun z => e z.symm)
    refine List.mem_cons_of_mem _ (List.mem_map.mpr ⟨_, ?_, rfl⟩)
    rw [bestP_of b, h1, List.headD_cons]
    exact rdFrom_mem.mpr ⟨r, q, h2, h3, by rw [Nat.zero_add]⟩
theorem leaves_len {rs : List RD} {h : Str} : (leaves rs h).length ≤ rs.length + 1 := by
  unfold leaves
  rw [List.length_cons, List.length_map]
  exact Nat.succ_le_succ (rdFrom_len _ _ _)
def spNextRoad (K : PySem.W.Frag) : Sp := fun vs H Q _ => ∃ (a : Addr) (L : LandD) (h g : Str), vs = [.ref a, .str h, .str g] ∧ LandAt K H a L ∧ LOk L ∧ h ∈ L.hs ∧ g ∈ L.hs ∧ h ≠ g ∧ (∃ p, Leads L.rs h p g) ∧ ∀ H', Evl.Ex H H' → Q (.int ((bestP L.rs h g).headD 0 : Nat)) H'
def spLeafC (K : PySem.W.Frag) : Sp := fun vs H Q _ => ∃ (a : Addr) (L : LandD) (h : Str), vs = [.ref a, .str h] ∧ LandAt K H a L ∧ LOk L ∧ AllW L ∧ h ∈ L.hs ∧ L.ss.length ≤ 1000 ∧ ∀ p H', Evl.Ex H H' → H p = none → H' p = some (.dK (cntV L h)) → Q (.ref p) H'
end TP

namespace TP
open PySem PySem.Spec PyProof.Rows L2
/-! ### xs[i] op= v -/
def rGetN (K : PySem.W.Frag) : V → V → Hp → VK → Prop := fun o i H Q => ∃ (p : Addr) (xs : List V) (j : Nat) (z : V), o = .ref p ∧ i = .int (j : Int) ∧ SqL K H p xs ∧ xs[j]? = some z ∧ Q z H
theorem get_list {X : Cx} : PGet X (rGetN X.K) := by
  intro pins s σ H o i ov iv Q I ro ri h
  obtain ⟨p, xs, j, z, rfl, rfl, hq, he, q⟩ := h
  cases ro
  obtain ⟨t, rfl⟩ := ri
  obtain ⟨its, r, pl, hz⟩ := I.list hq
  obtain ⟨w, ew, rw'⟩ := r.get he
  have hl := r.length
  have hj := (List.getElem?_eq_some_iff.mp he).1
  refine wpAny_getItem_list pl.isList (by omega) ?_ (x := w) ?_ ⟨z, H, I, rw', q⟩
  · have := line63
    omega
  · simpa using ew
/-! ### joinings -/
structure Nd where
  c : Nat
  f : Nat
  ls : List Nat
def ndD (x : Nd) : PyData := .tuple [.int x.c, .int x.f, .list (x.ls.map nD)]
def ndLe (a b : Nd) : Bool := PySem.W.dataLe false (fun x => ndD x) a b
def minN : List Nat → Nat
  | [] => 0
  | x :: xs => xs.foldl min x
def joined (xs : List Nd) : Nd := ⟨(xs.map (·.c)).sum, minN (xs.flatMap (·.ls)), xs.flatMap (·.ls)⟩
def bump (d : List Nat) (ps : List Nat) : List Nat := ps.foldl (fun d p => d.set p (d.getD p 0 + 1)) d
def hrun (b : Nat) : Nat → Nat → List Nd → List Nat → List Nat
  | 0, _, _, d => d
  | n + 1, m, xs, d => if xs.length ≤ 1 then d else hrun b n b ((xs.drop m ++ [joined (xs.take m)]).mergeSort ndLe) (bump d ((xs.take m).flatMap (·.ls)))
def nds0 (cs : List Nat) : List Nd := cs.mapIdx fun i c => ⟨c, i, [i]⟩
def depthsOf (cs : List Nat) (b : Nat) : List Nat := if cs.length = 1 then [1] else hrun b cs.length ((cs.length - 2) % (b - 1) + 2) ((nds0 cs).mergeSort ndLe) (List.replicate cs.length 0)
theorem bump_len : ∀ (ps d : List Nat), (bump d ps).length = d.length
  | [], _ => rfl
  | p :: ps, d => (bump_len ps _).trans (List.length_set ..)
theorem hrun_len (b : Nat) : ∀ (n m : Nat) (xs : List Nd) (d : List Nat), (hrun b n m xs d).length = d.length
  | 0, _, _, _ => rfl
  | n + 1, m, xs, d => by
    unfold hrun
    split
    · rfl
    · rw [hrun_len b n, bump_len]
theorem depthsOf_len (cs : List Nat) (b : Nat) : (depthsOf cs b).length = cs.length := by
  unfold depthsOf
  split
  · rename_i h
    rw [h]
    rfl
  · rw [hrun_len, List.length_replicate]
def spDepths (K : PySem.W.Frag) : Sp := fun vs H Q _ => ∃ (p : Addr) (cs : List Nat) (b : Nat), vs = [.ref p, .int (b : Int)] ∧ H p = some (.lst (natsV cs)) ∧ 2 ≤ b ∧ 1 ≤ cs.length ∧ cs.length ≤ 20 ∧ ∀ q H', Evl.Ex H H' → H q = none → H' q = some (.lst (natsV (depthsOf cs b))) → Q (.ref q) H'
end TP

namespace TP
open PySem PySem.Spec PyProof.Rows L2
/-- the turns of any comprehension over a walk -/
theorem walkW {J : It} {n : Nat} {G : Hp → Prop} {Y : Nat → Hp → V → Hp → Prop} (w : Walk J n G Y) {body : (Hp → Prop) → V → Hp → Prop} {H0 : Hp} {Qd : Hp → Prop} (Pv : Nat → Hp → Prop) (h0 : Pv 0 H0) (hG : ∀ i H, i ≤ n → Pv i H → G H)
    (hs : ∀ i x H H', i < n → Pv i H → Y i H x H' → body (Pv (i + 1)) x H') (hd : ∀ H, Pv n H → Qd H) :
    ∃ W : Nat → Nat → Hp → Prop, (∃ m, W 0 m H0) ∧ ∀ i m H, W i m H →
      (J.stop i H ∧ Qd H) ∨ (J.go i H ∧ ∃ Nx : Hp → Prop, (∀ H', Nx H' → ∃ m', m' < m ∧ W (i + 1) m' H') ∧ ∀ x H', J.yld i H x H' → body Nx x H') := by
  refine ⟨fun i m H => m = n - i ∧ i ≤ n ∧ Pv i H, ⟨n, by simp, Nat.zero_le _, h0⟩, ?_⟩
  rintro i m H ⟨rfl, hi, p⟩
  have q := hG i H hi p
  by_cases hlt : i < n
  · exact .inr ⟨w.goes i H hlt q, Pv (i + 1), fun H' p' => ⟨n - (i + 1), by omega, rfl, hlt, p'⟩, fun x H' y => hs i x H H' hlt p (w.yields i H x H' hlt q y)⟩
  · have e : i = n := by omega
    subst e
    exact .inl ⟨w.stops H q, hd H p⟩
theorem cutV_take (xs : List V) (k : Nat) : cutV xs none (some (k : Int)) = xs.take k := by
  unfold cutV
  rw [HT.sIx_none, HT.sIx_nat, List.drop_zero, Nat.sub_zero]
  rcases Nat.le_total k xs.length with h | h
  · rw [Nat.min_eq_left h]
  · rw [Nat.min_eq_right h, List.take_of_length_le (Nat.le_refl _), List.take_of_length_le h]
theorem cutV_drop (xs : List V) (k : Nat) : cutV xs (some (k : Int)) none = xs.drop k := by
  unfold cutV
  rw [HT.sIx_none, HT.sIx_nat]
  rcases Nat.le_total k xs.length with h | h
  · rw [Nat.min_eq_left h, List.take_of_length_le (by rw [List.length_drop]; omega)]
  · rw [Nat.min_eq_right h, List.drop_of_length_le (Nat.le_refl _), List.drop_of_length_le h, List.take_nil]
structure NdE where
  t : Addr
  la : Addr
  n : Nd
def NdOk (K : PySem.W.Frag) (H : Hp) (e : NdE) : Prop := SqT K H e.t [.int (e.n.c : Int), .int (e.n.f : Int), .ref e.la] ∧ SqL K H e.la (natsV e.n.ls)
theorem NdOk.ex {K : PySem.W.Frag} {H H' : Hp} {e : NdE} (h : NdOk K H e) (x : Evl.Ex H H') : NdOk K H' e := ⟨sqt_ex h.1 x, sql_ex h.2 x⟩
def ndV (E : List NdE) : List V := E.map fun e => V.ref e.t
def bsOf (E : List NdE) : List (V × PyData) := E.map fun e => (V.ref e.t, ndD e.n)
theorem bsOf_fst (E : List NdE) : (bsOf E).map (fun b => b.1) = ndV E := by
  unfold bsOf ndV
  rw [List.map_map]
  rfl
def srtE (E : List NdE) : List NdE := E.mergeSort fun a b => ndLe a.n b.n
theorem srt_bs (E : List NdE) : srt (bsOf E) = bsOf (srtE E) := by
  unfold srt bsOf srtE
  exact (List.map_mergeSort (r := fun a b => ndLe a.n b.n) (s := PySem.W.dataLe false fun b : V × PyData => b.2) (f := fun e : NdE => (V.ref e.t, ndD e.n)) fun a _ b _ => rfl).symm
theorem srtE_n (E : List NdE) : (srtE E).map (·.n) = (E.map (·.n)).mergeSort ndLe := by
  unfold srtE
  exact List.map_mergeSort fun a _ b _ => rfl
theorem srtE_perm (E : List NdE) : (srtE E).Perm E := List.mergeSort_perm _ _
theorem dr_nd {K : PySem.W.Frag} {H : Hp} {e : NdE} (h : NdOk K H e) : Dr K H (.ref e.t) (ndD e.n) := .tup h.1 (.cons (.int _) (.cons (.int _) (.cons (.lst h.2 (dr_nats _)) .nil)))
theorem alike_nd (a b : Nd) : PySem.W.alike (ndD a) (ndD b) = true := by
  unfold ndD
  simp [PySem.W.alike, PySem.W.alikeAll, alike_nats]
theorem depth_nd (a : Nd) : (ndD a).depth ≤ 40 := by
  unfold ndD
  simp only [PyData.depth, PyData.depthAll, depth_nats]
  decide
theorem srtOk_nd {K : PySem.W.Frag} {H : Hp} {E : List NdE} (h : ∀ e ∈ E, NdOk K H e) (hl : E.length ≤ 10000) : SrtOk K H (bsOf E) where
  dr := fun b hb => by
    obtain ⟨e, he, rfl⟩ := List.mem_map.mp hb
    exact ⟨dr_nd (h e he), depth_nd _⟩
  al := fun b hb c hc => by
    obtain ⟨e, he, rfl⟩ := List.mem_map.mp hb
    obtain ⟨e', he', rfl⟩ := List.mem_map.mp hc
    exact alike_nd _ _
  so := by
    refine .inl fun d hd => ?_
    obtain ⟨b, hb, rfl⟩ := List.mem_map.mp hd
    obtain ⟨e, he, rfl⟩ := List.mem_map.mp hb
    exact ⟨_, _, rfl⟩
  ln := by
    unfold bsOf
    rw [List.length_map]
    exact hl
theorem foldl_min : ∀ (xs : List Nat) (x : Nat), xs.foldl min x ∈ x :: xs ∧ ∀ y ∈ x :: xs, xs.foldl min x ≤ y
  | [], x => ⟨List.mem_cons_self, fun y hy => by
    obtain rfl : y = x := by simpa using hy
    exact Nat.le_refl _⟩
  | z :: xs, x => by
    obtain ⟨a, b⟩ := foldl_min xs (min x z)
    refine ⟨?_, fun y hy => ?_⟩
    · show xs.foldl min (min x z) ∈ _
      rcases List.mem_cons.mp a with q | q
      · rw [q]
        rcases Nat.le_total x z with l | l
        · rw [Nat.min_eq_left l]
          exact List.mem_cons_self
        · rw [Nat.min_eq_right l]
          exact List.mem_cons_of_mem _ List.mem_cons_self
      · exact List.mem_cons_of_mem _ (List.mem_cons_of_mem _ q)
    · show xs.foldl min (min x z) ≤ y
      have m := b _ List.mem_cons_self
      rcases List.mem_cons.mp hy with q | q
      · rw [q]
        exact Nat.le_trans m (Nat.min_le_left _ _)
      · rcases List.mem_cons.mp q with q | q
        · rw [q]
          exact Nat.le_trans m (Nat.min_le_right _ _)
        · exact b y (List.mem_cons_of_mem _ q)
theorem minN_mem {xs : List Nat} (h : xs ≠ []) : minN xs ∈ xs ∧ ∀ y ∈ xs, minN xs ≤ y := by
  cases xs with
  | nil => exact absurd rfl h
  | cons x xs => exact foldl_min xs x
/-- what holds of the nodes all along -/
structure NInv (n : Nat) (E : List Nd) : Prop where
  ne : ∀ e ∈ E, e.ls ≠ []
  lt : ∀ e ∈ E, ∀ p ∈ e.ls, p < n
  sm : (E.map fun e => e.ls.length).sum ≤ n
theorem NInv.perm {n : Nat} {E F : List Nd} (h : NInv n E) (p : F.Perm E) : NInv n F :=
  ⟨fun e he => h.ne e (p.mem_iff.mp he), fun e he => h.lt e (p.mem_iff.mp he), by rw [(p.map _).sum_nat]; exact h.sm⟩
theorem flat_len (E : List Nd) : (E.flatMap (·.ls)).length = (E.map fun e => e.ls.length).sum := by
  rw [List.length_flatMap]
theorem NInv.step {n m : Nat} {E : List Nd} (h : NInv n E) (h2 : 0 < (E.take m).length) : NInv n (E.drop m ++ [joined (E.take m)]) := by
  have e : E.take m ++ E.drop m = E := List.take_append_drop m E
  have sm := h.sm
  rw [← e, List.map_append, List.sum_append] at sm
  refine ⟨fun x hx => ?_, fun x hx => ?_, ?_⟩
  · rcases List.mem_append.mp hx with q | q
    · exact h.ne x (List.mem_of_mem_drop q)
    · obtain rfl : x = joined (E.take m) := by simpa using q
      intro z
      obtain ⟨y, hy⟩ := List.exists_mem_of_length_pos h2
      have := h.ne y (List.mem_of_mem_take hy)
      have z : (E.take m).flatMap (·.ls) = [] := z
      rw [List.flatMap_eq_nil_iff] at z
      exact this (z y hy)
  · rcases List.mem_append.mp hx with q | q
    · exact h.lt x (List.mem_of_mem_drop q)
    · obtain rfl : x = joined (E.take m) := by simpa using q
      intro p hp
      have hp : p ∈ (E.take m).flatMap (·.ls) := hp
      obtain ⟨y, hy, hp⟩ := List.mem_flatMap.mp hp
      exact h.lt y (List.mem_of_mem_take hy) p hp
  · rw [List.map_append, List.sum_append]
    have : ([joined (E.take m)].map fun e => e.ls.length).sum = ((E.take m).map fun e => e.ls.length).sum := by
      rw [← flat_len (E.take m)]
      show (joined (E.take m)).ls.length + 0 = _
      rfl
    rw [this]
    omega
theorem hrun_done (b : Nat) : ∀ (k m : Nat) (xs : List Nd) (d : List Nat), xs.length ≤ 1 → hrun b k m xs d = d
  | 0, _, _, _, _ => rfl
  | k + 1, m, xs, d, h => by
    unfold hrun
    rw [if_pos h]
theorem hrun_more (b k m : Nat) (xs : List Nd) (d : List Nat) (h : ¬ xs.length ≤ 1) : hrun b (k + 1) m xs d = hrun b k b ((xs.drop m ++ [joined (xs.take m)]).mergeSort ndLe) (bump d ((xs.take m).flatMap (·.ls))) := by
  rw [hrun, if_neg h]
theorem nds0_len (cs : List Nat) : (nds0 cs).length = cs.length := List.length_mapIdx
theorem nds0_at {cs : List Nat} {i : Nat} {e : Nd} (h : (nds0 cs)[i]? = some e) : ∃ c, cs[i]? = some c ∧ e = ⟨c, i, [i]⟩ := by
  unfold nds0 at h
  rw [List.getElem?_mapIdx] at h
  cases q : cs[i]? with
  | none => rw [q] at h; cases h
  | some c => rw [q] at h; exact ⟨c, rfl, (Option.some.inj h).symm⟩
theorem ninv0 (cs : List Nat) : NInv cs.length (nds0 cs) := by
  have at_ : ∀ e ∈ nds0 cs, ∃ i c, cs[i]? = some c ∧ e = ⟨c, i, [i]⟩ := fun e he => by
    obtain ⟨i, hi⟩ := List.mem_iff_getElem?.mp he
    obtain ⟨c, h1, h2⟩ := nds0_at hi
    exact ⟨i, c, h1, h2⟩
  refine ⟨fun e he => ?_, fun e he p hp => ?_, ?_⟩
  · obtain ⟨i, c, _, rfl⟩ := at_ e he
    exact List.cons_ne_nil _ _
  · obtain ⟨i, c, h1, rfl⟩ := at_ e he
    obtain rfl : p = i := by simpa using hp
    exact (List.getElem?_eq_some_iff.mp h1).1
  · have : ((nds0 cs).map fun e => e.ls.length) = (nds0 cs).map fun _ => 1 := List.map_congr_left fun e he => by
      obtain ⟨i, c, _, rfl⟩ := at_ e he
      rfl
    rw [this, List.map_const', List.sum_replicate_nat, nds0_len]
    omega
end TP

namespace TP
open PySem PySem.Spec PyProof.Rows L2
/-! ### scans: what a thing is, as data -/
mutual
def txt : PyData → Prop
  | .str z => z.length ≤ 1000000
  | .tuple ds => ds.length < 100000 ∧ txtAll ds
  | .list ds => ds.length < 100000 ∧ txtAll ds
  | _ => True
def txtAll : List PyData → Prop
  | [] => True
  | d :: ds => txt d ∧ txtAll ds
end
theorem txtAll_mem : ∀ {ds : List PyData}, txtAll ds → ∀ d ∈ ds, txt d
  | d :: ds, h, e, he => by
    obtain ⟨h1, h2⟩ := (by rw [txtAll] at h; exact h : txt d ∧ txtAll ds)
    rcases List.mem_cons.mp he with rfl | he
    · exact h1
    · exact txtAll_mem h2 e he
theorem txtAll_of : ∀ {ds : List PyData}, (∀ d ∈ ds, txt d) → txtAll ds
  | [], _ => by rw [txtAll]; trivial
  | d :: ds, h => by rw [txtAll]; exact ⟨h d List.mem_cons_self, txtAll_of fun e he => h e (List.mem_cons_of_mem _ he)⟩
theorem txt_tup {ds : List PyData} (h : txt (.tuple ds)) : ds.length < 100000 ∧ txtAll ds := by rwa [txt] at h
theorem txt_str {d : PyData} (h : txt d) : ∀ z, d = .str z → z.length ≤ 1000000 := fun z e => by
  rw [e, txt] at h
  exact h
def isBoolD : PyData → Bool
  | .bool _ => true
  | _ => false
def itemsD : PyData → List PyData
  | .tuple ds => ds
  | _ => []
def isMarkD : PyData → Bool
  | .tuple [a, b] => isNmD a && isFromD b 0
  | _ => false
def areMarksD : PyData → Bool
  | .tuple ds => decide (0 < ds.length) && ds.all isMarkD
  | _ => false
def risingD (ds : List PyData) : Bool := (ds.zip ds.tail).all fun p => PySem.W.dataLt p.1 p.2
def isLoadD : PyData → Bool
  | .tuple [r, l, b] => isFromD r 0 && (isFromD l 0 && (areMarksD b && risingD (itemsD b)))
  | _ => false
def front2 (d : PyData) : PyData := .tuple ((itemsD d).take 2)
def areLoadsD : PyData → Bool
  | .tuple ds => ds.all isLoadD && risingD (ds.map front2)
  | _ => false
def postedD : List PyData → Bool
  | [p, t, s, w, k, d] => isMarkD p && (isAdD t && (isAdD s && (isBetwD w 1 99 && (isBoolD k && isFromD d 0))))
  | _ => false
def baggedD : List PyData → Bool
  | [b, r, l, p] => isMarkD b && (isFromD r 0 && (isFromD l 0 && areMarksD p))
  | _ => false
def openedD : List PyData → Bool
  | [b] => isMarkD b
  | _ => false
def shutD : List PyData → Bool
  | [r, l] => isFromD r 0 && isFromD l 0
  | _ => false
def lateD : List PyData → Bool
  | [r, l, t] => isFromD r 0 && (isFromD l 0 && isFromD t 1)
  | _ => false
def isNoneD : PyData → Bool
  | .none => true
  | _ => false
def movedD : List PyData → Bool
  | [p, s, o, f, l] => isNmD p && (isNmD s && (isNmD o && (isFromD f 0 && (isNoneD l || isFromD l 0))))
  | _ => false
def handedD : List PyData → Bool
  | [p, d] => isMarkD p && isFromD d 0
  | _ => false
def forwardedD : List PyData → Bool
  | [p, s] => isMarkD p && isNmD s
  | _ => false
def isWhyD : PyData → Bool
  | .str z => decide (z = "ring") || decide (z = "due")
  | _ => false
def refusedD : List PyData → Bool
  | [p, w] => isMarkD p && isWhyD w
  | _ => false
def passedD : List PyData → Bool
  | [c, l] => areLoadsD c && (areLoadsD l && decide (0 < (itemsD c).length + (itemsD l).length))
  | _ => false
/-- the words of scans: how many things, which def looks at them, what it answers -/
structure Look where
  w : Str
  f : Str
  n : Nat
  P : List PyData → Bool
def LK : List Look := [⟨"posted", "are_posted", 6, postedD⟩, ⟨"bagged", "are_bagged", 4, baggedD⟩, ⟨"opened", "are_opened", 1, openedD⟩, ⟨"shut", "are_shut", 2, shutD⟩, ⟨"late", "are_late", 3, lateD⟩, ⟨"moved", "are_moved", 5, movedD⟩, ⟨"handed", "are_handed", 2, handedD⟩,
  ⟨"forwarded", "are_forwarded", 2, forwardedD⟩, ⟨"sentback", "are_refused", 2, refusedD⟩, ⟨"laid", "are_refused", 2, refusedD⟩, ⟨"passed", "are_passed", 2, passedD⟩]
def thingsD (q : Look) : PyData → Bool
  | .tuple ds => decide (ds.length = q.n) && q.P ds
  | _ => false
def causesD (w : Str) (t : PyData) : PyData → Bool
  | .tuple cs => cs.all isMarkD && decide (cs.length = if w = "passed" then (itemsD ((itemsD t).getD 0 .none)).length else 0)
  | _ => false
/-- the first part that is amiss -/
def amissD (u0 u1 u2 u3 u4 u5 : PyData) : Option Str :=
  if isNmD u0 = false then some "house" else if isFromD u1 0 = false then some "number" else if isFromD u2 0 = false then some "tick" else
  match u3 with
  | .str w => (match LK.find? fun q => decide (q.w = w) with
    | none => some "word"
    | some q => if thingsD q u4 = false then some "things" else if causesD w u4 u5 = false then some "causes" else none)
  | _ => some "word"
/-! ### the written tables -/
def tupB (K : PySem.W.Frag) (a : Addr) (vs : List V) : Bool := match K.lookup a with
  | some ⟨.type t, _, .seq its _, _⟩ => decide (t = "tuple") && (decide (its.size = vs.length) && (decide (its.size ≤ 1000) && (its.toList.zip vs).all fun p => He.relB p.2 p.1))
  | _ => false
theorem vals_zip {K : PySem.W.Frag} : ∀ {us : List Value} {vs : List V}, us.length = vs.length → ((us.zip vs).all fun p => He.relB p.2 p.1) = true → Vals vs us
  | [], [], _, _ => .nil
  | u :: us, v :: vs, hl, h => by
    rw [List.zip_cons_cons, List.all_cons, Bool.and_eq_true] at h
    exact .cons (He.relB_ok h.1) (vals_zip (K := K) (Nat.succ.inj hl) h.2)
theorem tupB_ok {K : PySem.W.Frag} {a : Addr} {vs : List V} (h : tupB K a vs = true) (H : Hp) : SqT K H a vs := by
  unfold tupB at h
  split at h
  · rename_i t dd its n sl ho
    obtain ⟨h1, h⟩ := Bool.and_eq_true_iff.mp h
    obtain ⟨h2, h⟩ := Bool.and_eq_true_iff.mp h
    obtain ⟨h3, h4⟩ := Bool.and_eq_true_iff.mp h
    obtain rfl : t = "tuple" := of_decide_eq_true h1
    have h2 := of_decide_eq_true h2
    have h3 := of_decide_eq_true h3
    exact .inr ⟨_, its, n, ho, rfl, rfl, by rw [sizeLine_eq]; omega, vals_zip (K := K) (by rw [Array.length_toList]; exact h2) h4⟩
  · cases h
def lookB (K : PySem.W.Frag) : Bool := LK.all fun q => match PySem.W.nsIn K (He.ga K "LOOKS") q.w with
  | some (some (.ref a)) => tupB K a [.int (q.n : Nat), .ref (He.ga K q.f)]
  | _ => false
theorem lookB_ok {K : PySem.W.Frag} (h : lookB K = true) {q : Look} (hq : q ∈ LK) : ∃ a, PySem.W.nsIn K (He.ga K "LOOKS") q.w = some (some (.ref a)) ∧ ∀ H : Hp, SqT K H a [.int (q.n : Nat), .ref (He.ga K q.f)] := by
  have h2 := List.all_eq_true.mp h q hq
  split at h2
  · rename_i a e
    exact ⟨a, e, tupB_ok h2⟩
  · cases h2
/-! ### a local name that holds one of several defs -/
def tCallR (i : Nat) (S : Addr → Sp → Prop) (t : TA) : TE := fun σ H Q => ∃ f sp, σ[i]? = some (some (.ref f)) ∧ S f sp ∧ t σ H fun vs H1 => sp vs H1 Q (fun _ _ _ => False)
theorem pe_callS {X : Cx} {k i : Nat} {S : Addr → Sp → Prop} {x : Str} {p pos : Pos} {e : Expr} {es : List Expr} {t : TA} (A : ∀ f sp, S f sp → Held X.prog X.w X.K X.mg X.base k f sp) (hr : Room k X.A) (hN : X.N[i]? = some x) (hv : Vis X.env.scope x) (ha : PA X (e :: es) t)
    (hdb : (x == ("__debug__" : Str)) = false := by decide) (hcd : (x == ("__classdict__" : Str)) = false := by decide)
    (he : starEach (e :: es) X.env = (false, eval e X.env) :: starEach es X.env := by rfl) (hpl : (backTo pos (starEach es X.env)).any (·.1) = false := by rfl) : PE X (.Call (.Name x p) (e :: es) [] pos) (tCallR i S t) := by
  constructor
  intro pins s σ H Q I h
  obtain ⟨f, sp, h1, h2, h3⟩ := h
  refine (pe_callA (i := i) (S := fun g => by classical exact if g = f then some sp else none) (fun g sp' e' => ?_) hr hN hv ha hdb hcd he hpl).run pins s σ H Q I ⟨f, sp, h1, ?_, h3⟩
  · by_cases c : g = f
    · rw [if_pos c] at e'
      rw [c, ← Option.some.inj e']
      exact A f sp h2
    · rw [if_neg c] at e'
      cases e'
  · exact if_pos rfl
/-! ### rows: slices, zip -/
def rSlRow (K : PySem.W.Frag) : V → Option Int → Option Int → Hp → VK → Prop := fun x lo hi H Q => rSlL K x lo hi H Q ∨ rSlA K x lo hi H Q
theorem sl_row {X : Cx} : SlR X (rSlRow X.K) := by
  intro pins s σ H x v vl vu lo hi sl Q I rx hs pl pu h
  rcases h with h | h
  · exact sl_list pins s σ H x v vl vu lo hi sl Q I rx hs pl pu h
  · exact sl_tupA pins s σ H x v vl vu lo hi sl Q I rx hs pl pu h
theorem walk_zipT {K : PySem.W.Frag} {a b : Addr} {xs ys : List V} {n : Nat} (hn : n = min xs.length ys.length) : Walk (RZ.ItzT K a b) n (fun H => SqT K H a xs ∧ SqT K H b ys) (YPair (fun i => xs[i]?) (fun i => ys[i]?)) := by
  subst hn
  refine ⟨fun i H hi q => ?_, fun H q => ⟨xs, ys, q.1, q.2, by omega⟩, fun i H v H' hi q y => ?_⟩
  · have h1 : i < xs.length := by omega
    have h2 : i < ys.length := by omega
    exact ⟨xs, ys, xs[i], ys[i], q.1, q.2, List.getElem?_eq_getElem h1, List.getElem?_eq_getElem h2⟩
  · obtain ⟨t, x, y, e1, e2, e3, e4, e5⟩ := y
    exact ⟨t, x, y, e1, e2, e3, e4 _ q.1, e5 _ q.2⟩
theorem rising_row (f : PyData → PyData → Bool) (ds : List PyData) : (List.range (min ds.length (ds.length - 1))).map (fun i => V.bl (f (ds.getD i .none) (ds.getD (i + 1) .none))) = ((ds.zip ds.tail).map fun p => f p.1 p.2).map V.bl := by
  refine List.ext_getElem (by simp) fun i h1 h2 => ?_
  simp at h1
  simp [show i < ds.length by omega, show i + 1 < ds.length by omega]
/-- data that may be held against one another -/
def Cmp (ds : List PyData) : Prop := ∀ (i : Nat) d e, ds[i]? = some d → ds[i + 1]? = some e → PySem.W.alike d e = true ∧ d ≠ .none ∧ d.depth ≤ 40
theorem isNmD_of {d : PyData} (h : isNmD d = true) : ∃ z, d = .str z ∧ NmP z := by
  cases d with
  | str z => exact ⟨z, rfl, isNm_iff.mp h⟩
  | _ => cases h
theorem isFromD_of {d : PyData} {l : Int} (h : isFromD d l = true) : ∃ i, d = .int i ∧ l ≤ i := by
  cases d with
  | int i => exact ⟨i, rfl, of_decide_eq_true h⟩
  | _ => cases h
theorem isMarkD_of {d : PyData} (h : isMarkD d = true) : ∃ z i, d = .tuple [.str z, .int i] ∧ NmP z ∧ 0 ≤ i := by
  unfold isMarkD at h
  split at h
  · rename_i a b
    rw [Bool.and_eq_true] at h
    obtain ⟨z, rfl, hz⟩ := isNmD_of h.1
    obtain ⟨i, rfl, hi⟩ := isFromD_of h.2
    exact ⟨z, i, rfl, hz, hi⟩
  · cases h
theorem areMarksD_of {d : PyData} (h : areMarksD d = true) : ∃ bs, d = .tuple bs ∧ 0 < bs.length ∧ ∀ b ∈ bs, isMarkD b = true := by
  cases d with
  | tuple bs =>
    have h : (decide (0 < bs.length) && bs.all isMarkD) = true := h
    rw [Bool.and_eq_true] at h
    exact ⟨bs, rfl, of_decide_eq_true h.1, List.all_eq_true.mp h.2⟩
  | _ => cases h
theorem marks_cmp {bs : List PyData} (h : ∀ b ∈ bs, isMarkD b = true) : Cmp bs := fun i d e hd he => by
  obtain ⟨z, j, rfl, _⟩ := isMarkD_of (h d (List.mem_of_getElem? hd))
  obtain ⟨z', j', rfl, _⟩ := isMarkD_of (h e (List.mem_of_getElem? he))
  exact ⟨rfl, (fun q => nomatch q), by show (1 : Nat) ≤ 40; decide⟩
theorem isLoadD_of {d : PyData} (h : isLoadD d = true) : ∃ r l bs, d = .tuple [.int r, .int l, .tuple bs] ∧ 0 ≤ r ∧ 0 ≤ l ∧ areMarksD (.tuple bs) = true ∧ risingD bs = true := by
  unfold isLoadD at h
  split at h
  · rename_i a b c
    simp only [Bool.and_eq_true] at h
    obtain ⟨h1, h2, h3, h4⟩ := h
    obtain ⟨r, rfl, hr⟩ := isFromD_of h1
    obtain ⟨l, rfl, hl⟩ := isFromD_of h2
    obtain ⟨bs, rfl, _⟩ := areMarksD_of h3
    exact ⟨r, l, bs, rfl, hr, hl, h3, h4⟩
  · cases h
theorem loads_cmp {ds : List PyData} (h : ∀ d ∈ ds, isLoadD d = true) : Cmp (ds.map front2) := fun i d e hd he => by
  rw [List.getElem?_map] at hd he
  cases q1 : ds[i]? with
  | none => rw [q1] at hd; cases hd
  | some a =>
    cases q2 : ds[i + 1]? with
    | none => rw [q2] at he; cases he
    | some b =>
      rw [q1] at hd
      rw [q2] at he
      obtain ⟨r, l, bs, rfl, _⟩ := isLoadD_of (h a (List.mem_of_getElem? q1))
      obtain ⟨r', l', bs', rfl, _⟩ := isLoadD_of (h b (List.mem_of_getElem? q2))
      obtain rfl := Option.some.inj hd
      obtain rfl := Option.some.inj he
      exact ⟨rfl, (fun q => nomatch q), by show (1 : Nat) ≤ 40; decide⟩
theorem drAll_of {K : PySem.W.Frag} {H : Hp} : ∀ {xs : List V} {ds : List PyData}, xs.length = ds.length → (∀ (i : Nat) v d, xs[i]? = some v → ds[i]? = some d → Dr K H v d) → DrAll K H xs ds
  | [], [], _, _ => .nil
  | x :: xs, d :: ds, hl, h => .cons (h 0 x d rfl rfl) (drAll_of (Nat.succ.inj hl) fun i v e h1 h2 => h (i + 1) v e h1 h2)
theorem passed_things {q : Look} (hq : q ∈ LK) (hw : q.w = "passed") {d : PyData} (h : thingsD q d = true) : ∃ c l, d = .tuple [.tuple c, .tuple l] ∧ areLoadsD (.tuple c) = true ∧ areLoadsD (.tuple l) = true ∧ 0 < c.length + l.length := by
  simp only [LK, List.mem_cons, List.not_mem_nil, or_false] at hq
  rcases hq with rfl | rfl | rfl | rfl | rfl | rfl | rfl | rfl | rfl | rfl | rfl
  all_goals first | exact absurd hw (by decide) | skip
  cases d with
  | tuple ds =>
    have h : (decide (ds.length = 2) && passedD ds) = true := h
    rw [Bool.and_eq_true] at h
    have it : ∀ {d : PyData}, areLoadsD d = true → ∃ ds, d = .tuple ds := fun {d} h => by
      cases d with
      | tuple ds => exact ⟨ds, rfl⟩
      | _ => cases h
    match ds, of_decide_eq_true h.1 with
    | [c, l], _ =>
      have h2 : (areLoadsD c && (areLoadsD l && decide (0 < (itemsD c).length + (itemsD l).length))) = true := h.2
      simp only [Bool.and_eq_true, decide_eq_true_eq] at h2
      obtain ⟨c', rfl⟩ := it h2.1
      obtain ⟨l', rfl⟩ := it h2.2.1
      exact ⟨c', l', rfl, h2.1, h2.2.1, h2.2.2⟩
  | _ => cases h
/-! ### promises -/
def spMark (K : PySem.W.Frag) (P : PyData → Bool) : Sp := fun vs H Q _ => ∃ (x : V) (d : PyData), vs = [x] ∧ Dr K H x d ∧ txt d ∧ ∀ H', Evl.Ex H H' → Q (.bl (P d)) H'
def spLook (K : PySem.W.Frag) (n : Nat) (P : List PyData → Bool) : Sp := fun vs H Q _ => ∃ (a : Addr) (xs : List V) (ds : List PyData), vs = [.ref a] ∧ SqT K H a xs ∧ DrAll K H xs ds ∧ ds.length = n ∧ txtAll ds ∧ ∀ H', Evl.Ex H H' → Q (.bl (P ds)) H'
def spRising (K : PySem.W.Frag) : Sp := fun vs H Q _ => ∃ (a : Addr) (xs : List V) (ds : List PyData), vs = [.ref a] ∧ Rw K H a xs ∧ DrAll K H xs ds ∧ ds.length < 1000000 ∧ Cmp ds ∧ ∀ H', Evl.Ex H H' → Q (.bl (risingD ds)) H'
def LookS (K : PySem.W.Frag) (f : Addr) (sp : Sp) : Prop := ∃ q ∈ LK, f = He.ga K q.f ∧ sp = spLook K q.n q.P
def spThings (K : PySem.W.Frag) : Sp := fun vs H Q _ => ∃ (x : V) (d : PyData) (q : Look), vs = [.str q.w, x] ∧ q ∈ LK ∧ Dr K H x d ∧ txt d ∧ ∀ H', Evl.Ex H H' → Q (.bl (thingsD q d)) H'
def spCauses (K : PySem.W.Frag) : Sp := fun vs H Q _ => ∃ (x y : V) (w : Str) (d e : PyData), vs = [.str w, x, y] ∧ Dr K H x d ∧ Dr K H y e ∧ txt e ∧ (w = "passed" → ∃ c l, d = .tuple [.tuple c, l]) ∧ ∀ H', Evl.Ex H H' → Q (.bl (causesD w d e)) H'
def sfs (u0 u1 u2 u3 u4 u5 : V) : List (Str × V) := [("house", u0), ("number", u1), ("tick", u2), ("word", u3), ("things", u4), ("causes", u5)]
def ScanAt (K : PySem.W.Frag) (H : Hp) (a : Addr) (u0 u1 u2 u3 u4 u5 : V) : Prop := ∃ dx, H a = some (.ins (He.ga K "Scan") dx (sfs u0 u1 u2 u3 u4 u5))
def spTold23 (K : PySem.W.Frag) : Sp := fun vs H Q _ => ∃ (a : Addr) (u0 u1 u2 u3 u4 u5 : V), vs = [.ref a] ∧ ScanAt K H a u0 u1 u2 u3 u4 u5 ∧ ∀ t H', Evl.Ex H H' → H t = none → H' t = some (.tup [u0, u1, u2, u3, u4, u5]) → Q (.ref t) H'
def spKey23 (K : PySem.W.Frag) : Sp := fun vs H Q _ => ∃ (a : Addr) (u0 u1 u2 : V) (w : Str) (u4 u5 : V), vs = [.ref a] ∧ ScanAt K H a u0 u1 u2 (.str w) u4 u5 ∧ ∀ t H', Evl.Ex H H' → H' t = some (.tup [u2, .int (if w = "passed" then 0 else 1)]) → Q (.ref t) H'
def spScanX (K : PySem.W.Frag) : Sp := fun vs H Q E => ∃ (x dx : Addr) (u0 u1 u2 u3 u4 u5 : V) (d0 d1 d2 d3 d4 d5 : PyData), vs = [.ref x, u0, u1, u2, u3, u4, u5] ∧ H x = some (.ins (He.ga K "Scan") dx []) ∧
  Dr K H u0 d0 ∧ Dr K H u1 d1 ∧ Dr K H u2 d2 ∧ Dr K H u3 d3 ∧ Dr K H u4 d4 ∧ Dr K H u5 d5 ∧ txt d0 ∧ txt d4 ∧ txt d5 ∧ (∀ w, d3 = .str w → w ∉ LK.map (·.w) → PySem.W.nsIn K (He.ga K "LOOKS") w = some none) ∧
  (amissD d0 d1 d2 d3 d4 d5 = none → ∀ H', Wk x H H' → H' x = some (.ins (He.ga K "Scan") dx (sfs u0 u1 u2 u3 u4 u5)) → Q .non H') ∧
  (∀ z, amissD d0 d1 d2 d3 d4 d5 = some z → ∀ d H', Evl.Ex H H' → H d = none → H' d = some (.xd [("why", .str z)]) → E (.ref (eC K "NoScan")) (some d) H')
end TP

namespace TP
open PySem PySem.Spec PyProof.Rows L2
/-! ### what draws lay anew -/
theorem nw_at {H H' : Hp} {b : Addr} {o : HO} (h : nw H H' b = some o) : H b = none ∧ H' b = some o := by
  unfold nw at h
  cases e : H b with
  | none => rw [e] at h; exact ⟨rfl, h⟩
  | some u => rw [e] at h; cases h
theorem nw_mono {H G H1 H2 : Hp} (hb : ∀ b o, G b = none → H1 b = some o → H b = none ∧ H2 b = some o) : Evl.Ex (nw G H1) (nw H H2) := fun b o h => by
  obtain ⟨h1, h2⟩ := nw_at h
  obtain ⟨q1, q2⟩ := hb b o h1 h2
  exact nw_of q1 q2
/-- drawn on -/
theorem nw_dn {w : Addr} {m n : Nat} {H H1 H2 : Hp} (wl : Wl H w n) (d : Dn w m H1 H2) : Evl.Ex (nw H H1) (nw H H2) := nw_mono fun b o h1 h2 => by
  refine ⟨h1, d.k b o (fun z => ?_) h2⟩
  obtain ⟨u, hu⟩ := wl.some
  rw [z, hu] at h1
  cases h1
theorem nw_ex2 {H H1 H2 : Hp} (e : Evl.Ex H1 H2) : Evl.Ex (nw H H1) (nw H H2) := nw_mono fun b o h1 h2 => ⟨h1, e b o h2⟩
/-- begun later -/
theorem nw_later {w : Addr} {m : Nat} {H H1 H2 : Hp} (d : Dn w m H H1) : Evl.Ex (nw H1 H2) (nw H H2) := nw_mono fun b o h1 h2 => ⟨d.free h1, h2⟩
theorem nw_lateE {H H1 H2 : Hp} (e : Evl.Ex H H1) : Evl.Ex (nw H1 H2) (nw H H2) := nw_mono fun b o h1 h2 => ⟨Ex.free e h1, h2⟩
theorem nw_put {H H1 : Hp} {p : Addr} {o : HO} (hp : H p = none) : nw H (upd H1 p o) p = some o := nw_of hp upd_same
/-- a comprehension that draws data -/
theorem lc_dr {K : PySem.W.Frag} {J : It} {n : Nat} {G : Hp → Prop} {Y : Nat → Hp → V → Hp → Prop} (w : Walk J n G Y) {g : TG} {tt : TT} {te : TE} {vs : List Nat} {σ : L2.St} {H1 : Hp} {a D : Addr} {Qd : Hp → Prop} (m0 k : Nat) (P : Nat → PyData → Prop)
    (hW : Wl H1 a m0) (hD : H1 D = none) (hn : n < 1000000) (hG : ∀ m H, Dn a m H1 H → G H)
    (hs : ∀ (i : Nat) (x : V) (H H' : Hp) (C : V → Hp → Prop) (N : Hp → Prop), i < n → Dn a (m0 + i * k) H1 H → Y i H x H' → (∀ v d H4, P i d → Dr K (nw H H4) v d → Dn a (m0 + (i + 1) * k) H H4 → C v H4) →
      g x (wipe σ vs) H' fun σ2 H2 => wipe σ2 vs = wipe σ vs ∧ tt σ2 H2 fun b H3 => if b = true then te σ2 H3 C else N H3)
    (hd : ∀ H' acc ds, Dn a (m0 + n * k) H1 H' → H' D = some (.lst acc) → DrAll K (nw H1 H') acc ds → ds.length = n → (∀ (i : Nat) d, ds[i]? = some d → P i d) → Qd H') :
    ∃ W : Nat → Nat → Hp → Prop, (∃ m, W 0 m (upd H1 D (.lst []))) ∧ ∀ i m H, W i m H →
      (J.stop i H ∧ Qd H) ∨ (J.go i H ∧ ∃ Nx : Hp → Prop, (∀ H', Nx H' → ∃ m', m' < m ∧ W (i + 1) m' H') ∧ ∀ x H', J.yld i H x H' → g x (wipe σ vs) H' fun σ2 H2 => wipe σ2 vs = wipe σ vs ∧ tt σ2 H2 fun b H3 =>
        if b = true then te σ2 H3 fun y H4 => ∃ acc, H4 D = some (.lst acc) ∧ acc.length < sizeLine ∧ Nx (upd H4 D (.lst (acc ++ [y]))) else Nx H3) := by
  have nD : D ≠ a := hW.nep hD
  obtain ⟨B, hB⟩ : ∃ B, B = upd H1 D (.lst []) := ⟨_, rfl⟩
  have BD : ∃ o, B D = some o := ⟨_, by rw [hB, upd_same]⟩
  have B1 : Evl.Ex H1 B := by rw [hB]; exact Evl.Ex.new hD
  refine lc_it w (fun i H => Dn a (m0 + i * k) H1 H ∧ (∀ b o, B b = some o → ∃ u, H b = some u) ∧ ∃ acc ds, H D = some (.lst acc) ∧ DrAll K (nw B H) acc ds ∧ ds.length = i ∧ ∀ (j : Nat) d, ds[j]? = some d → P j d) ⟨?_, ?_, [], [], upd_same, .nil, rfl, fun j d h => nil_at h⟩ (fun i H _ q => hG _ H q.1) (fun i x H H' hi q y => ?_) (fun H q => ?_)
  · exact Dn.put ⟨by simpa using hW, Wk.refl _ _⟩ hD nD
  · intro b o h
    rw [← hB]
    exact ⟨o, h⟩
  · obtain ⟨d, kb, acc, ds, ha, da, hl, hp⟩ := q
    refine hs i x H H' _ _ hi d y fun v e H4 pe dv d4 => ?_
    have ha4 := d4.k D _ nD ha
    have lacc : acc.length = i := da.len.trans hl
    have kb4 : ∀ b o, B b = some o → ∃ u, H4 b = some u := fun b o h => by
      obtain ⟨u, hu⟩ := kb b o h
      by_cases z : b = a
      · rw [z]
        exact d4.wl.some
      · exact ⟨u, d4.k b u z hu⟩
    have late : Evl.Ex (nw H H4) (nw B H4) := nw_mono fun b o h1 h2 => by
      refine ⟨?_, h2⟩
      cases q : B b with
      | none => rfl
      | some u =>
        obtain ⟨u', hu'⟩ := kb b u q
        rw [hu'] at h1
        cases h1
    have on : Evl.Ex (nw B H) (nw B H4) := nw_mono fun b o h1 h2 => ⟨h1, d4.k b o (fun z => by
      obtain ⟨u, hu⟩ := hW.some
      have := B1 _ _ hu
      rw [z, this] at h1
      cases h1) h2⟩
    have put : Evl.Ex (nw B H4) (nw B (upd H4 D (.lst (acc ++ [v])))) := nw_mono fun b o h1 h2 => ⟨h1, by
      rw [upd_ne (fun z => by
        obtain ⟨u, hu⟩ := BD
        rw [z, hu] at h1
        cases h1)]
      exact h2⟩
    refine ⟨acc, ha4, ?_, (d.trans d4).put hD nD, fun b o h => ?_, acc ++ [v], ds ++ [e], upd_same, ?_, by rw [List.length_append, hl]; rfl, fun j e' hj => ?_⟩
    · have : sizeLine = 16777216 := sizeLine_eq
      omega
    · by_cases z : b = D
      · rw [z, upd_same]
        exact ⟨_, rfl⟩
      · rw [upd_ne z]
        exact kb4 b o h
    · have snoc : ∀ {xs : List V} {es : List PyData}, DrAll K (nw B (upd H4 D (.lst (acc ++ [v])))) xs es → DrAll K (nw B (upd H4 D (.lst (acc ++ [v])))) (xs ++ [v]) (es ++ [e]) := fun {xs es} h => by
        induction xs generalizing es with
        | nil =>
          cases h
          exact .cons (Dr.ex (late.trans put) _ _ dv) .nil
        | cons x xs ih =>
          cases h with
          | cons h1 h2 => exact .cons h1 (ih h2)
      exact snoc (DrAll.ex (on.trans put) _ _ da)
    · rcases snoc_at hj with h | ⟨h, rfl⟩
      · exact hp j e' h
      · rw [h, hl]
        exact pe
  · obtain ⟨d, kb, acc, ds, ha, da, hl, hp⟩ := q
    exact hd H acc ds d ha (DrAll.ex (nw_lateE B1) _ _ da) hl hp
/-! ### things drawn -/
def GName (d : PyData) : Prop := ∃ z, d = .str z ∧ NmP z
def GNum (d : PyData) : Prop := ∃ i : Int, d = .int i ∧ 0 ≤ i ∧ i < 10 ^ 29
def GMark (d : PyData) : Prop := ∃ z i, d = .tuple [.str z, .int i] ∧ NmP z ∧ 0 ≤ i ∧ i < 10 ^ 29
def GAddr (d : PyData) : Prop := ∃ y z, d = .tuple [.str y, .str z] ∧ NmP y ∧ NmP z
def GBags (d : PyData) : Prop := ∃ bs, d = .tuple bs ∧ 1 ≤ bs.length ∧ bs.length ≤ 3 ∧ (∀ b ∈ bs, GMark b) ∧ risingD bs = true
def GLoad (d : PyData) : Prop := ∃ (r l : Int) (b : PyData), d = .tuple [.int r, .int l, b] ∧ 0 ≤ r ∧ r < 4 ∧ 0 ≤ l ∧ l ≤ 10 ∧ GBags b
def GLoads (m : Int) (d : PyData) : Prop := ∃ ls, d = .tuple ls ∧ ls.length ≤ 3 ∧ (m = 0 → ls = []) ∧ (0 < m → 0 < ls.length) ∧ (∀ l ∈ ls, GLoad l) ∧ risingD (ls.map front2) = true
inductive GT : Str → List PyData → Prop
  | posted {p t s d : PyData} {wt : Int} {k : Bool} : GMark p → GAddr t → GAddr s → 1 ≤ wt → wt ≤ 99 → GNum d → GT "posted" [p, t, s, .int wt, .bool k, d]
  | bagged {b l : PyData} {r : Int} {ps : List PyData} : GMark b → 0 ≤ r → r < 16 → GNum l → 1 ≤ ps.length → ps.length ≤ 9 → (∀ p ∈ ps, GMark p) → GT "bagged" [b, .int r, l, .tuple ps]
  | opened {b : PyData} : GMark b → GT "opened" [b]
  | shut {r : Int} {l : PyData} : 0 ≤ r → r < 16 → GNum l → GT "shut" [.int r, l]
  | late {r t : Int} {l : PyData} : 0 ≤ r → r < 16 → GNum l → 1 ≤ t → t < 10 ^ 30 → GT "late" [.int r, l, .int t]
  | moved {p s o f l : PyData} : GName p → GName s → GName o → GNum f → (l = .none ∨ GNum l) → GT "moved" [p, s, o, f, l]
  | handed {p d : PyData} : GMark p → GNum d → GT "handed" [p, d]
  | forwarded {p s : PyData} : GMark p → GName s → GT "forwarded" [p, s]
  | passed {m n : Int} {c l : PyData} : GLoads m c → GLoads n l → 0 ≤ m → 0 ≤ n → 0 < m + n → GT "passed" [c, l]
  | sentback {p : PyData} {y : Str} : GMark p → (y = "ring" ∨ y = "due") → GT "sentback" [p, .str y]
  | laid {p : PyData} {y : Str} : GMark p → (y = "ring" ∨ y = "due") → GT "laid" [p, .str y]
/-- a draw of data: at most c draws, all that is told is new -/
def spDr (K : PySem.W.Frag) (c lim : Nat) (P : PyData → Prop) : Sp := fun vs H Q _ => ∃ (w : Addr) (n : Nat), vs = [.ref w] ∧ Wl H w n ∧ n < lim ∧ ∀ v d H', P d → Dr K (nw H H') v d → Dn w (n + c) H H' → Q v H'
def spBags (K : PySem.W.Frag) : Sp := fun vs H Q _ => ∃ (w : Addr) (n : Nat) (m : Int), vs = [.ref w, .int m] ∧ Wl H w n ∧ n < 970000 ∧ 1 ≤ m ∧ m ≤ 3 ∧ ∀ v d H', GBags d → Dr K (nw H H') v d → Dn w (n + 50) H H' → Q v H'
def spLoads (K : PySem.W.Frag) : Sp := fun vs H Q _ => ∃ (w : Addr) (n : Nat) (m : Int), vs = [.ref w, .int m] ∧ Wl H w n ∧ n < 960000 ∧ 0 ≤ m ∧ m ≤ 3 ∧ ∀ v d H', GLoads m d → Dr K (nw H H') v d → Dn w (n + 200) H H' → Q v H'
def spThings23 (K : PySem.W.Frag) : Sp := fun vs H Q _ => ∃ (w : Addr) (n : Nat) (wd : Str), vs = [.ref w, .str wd] ∧ Wl H w n ∧ n < 950000 ∧ wd ∈ LK.map (·.w) ∧ ∀ v ds H', GT wd ds → Dr K (nw H H') v (.tuple ds) → Dn w (n + 500) H H' → Q v H'
/-- the parts of a scan as drawn: a list of six -/
structure Parts (d0 d1 d2 : PyData) (wd : Str) (ds cs : List PyData) : Prop where
  h : GName d0
  n : GNum d1
  t : GNum d2
  g : GT wd ds
  c : cs.length = if wd = "passed" then (itemsD (ds.getD 0 .none)).length else 0
  m : ∀ c ∈ cs, GMark c
def spDrawn (K : PySem.W.Frag) : Sp := fun vs H Q _ => ∃ (w : Addr) (n : Nat), vs = [.ref w] ∧ Wl H w n ∧ n < 900000 ∧ ∀ (p : Addr) (v0 v1 v2 v4 v5 : V) (wd : Str) (d0 d1 d2 : PyData) (ds cs : List PyData) (H' : Hp), Parts d0 d1 d2 wd ds cs → H p = none → H' p = some (.lst [v0, v1, v2, .str wd, v4, v5]) →
  Dr K (nw H H') v0 d0 → Dr K (nw H H') v1 d1 → Dr K (nw H H') v2 d2 → Dr K (nw H H') v4 (.tuple ds) → Dr K (nw H H') v5 (.tuple cs) → Dn w (n + 700) H H' → Q (.ref p) H'
end TP

namespace TP
open PySem PySem.Spec PyProof.Rows L2
/-! ### the plan of a house -/
noncomputable def cnts (L : LandD) (h : Str) : List Nat := (leaves L.rs h).map fun k => cntUp L.rs (L.ss.map (·.2)) h L.hs k
noncomputable def deps (L : LandD) (h : Str) : List Nat := depthsOf (cnts L h) L.bn.toNat
theorem cnts_len (L : LandD) (h : Str) : (cnts L h).length = (leaves L.rs h).length := List.length_map ..
theorem deps_len (L : LandD) (h : Str) : (deps L h).length = (leaves L.rs h).length := (depthsOf_len _ _).trans (cnts_len L h)
theorem cntV_vals (L : LandD) (h : Str) : (cntV L h).map (·.2) = natsV (cnts L h) := by
  unfold cntV kvF cnts natsV
  rw [List.map_map, List.map_map]
  rfl
structure SrE where
  t : Addr
  k : Key
  c : Nat
  d : Nat
def SrOk (K : PySem.W.Frag) (H : Hp) (e : SrE) : Prop := SqT K H e.t [kV e.k, .int (e.c : Int), .int (e.d : Int)]
theorem SrOk.ex {K : PySem.W.Frag} {H H' : Hp} {e : SrE} (h : SrOk K H e) (x : Evl.Ex H H') : SrOk K H' e := sqt_ex h x
/-- the rows of a house's plan -/
structure PlanR (L : LandD) (h : Str) (E : List SrE) : Prop where
  k : E.map (·.k) = leaves L.rs h
  c : E.map (·.c) = cnts L h
  d : E.map (·.d) = deps L h
/-- what the plan's reckoning needs -/
structure POk (L : LandD) : Prop where
  ok : LOk L
  al : AllW L
  b2 : 2 ≤ L.bn
  sl : L.ss.length ≤ 1000
def spSorting (K : PySem.W.Frag) : Sp := fun vs H Q X => ∃ (a : Addr) (L : LandD) (v : V) (D : PyData), vs = [.ref a, v] ∧ LandAt K H a L ∧ POk L ∧ Dr K H v D ∧ (∀ z, D = .str z → z.length ≤ 1000000) ∧
  (∀ h, v = .str h → h ∈ L.hs → ∀ q E H', Evl.Ex H H' → H q = none → H' q = some (.lst (E.map fun e => V.ref e.t)) → (∀ e ∈ E, SrOk K H' e) → PlanR L h E → Q (.ref q) H') ∧
  (hasD L.hs D = false → ∀ d H', Evl.Ex H H' → H' d = some (.xd [("house", v)]) → X (.ref (eC K "NoHouse")) (some d) H')
/-! ### the depth of a leaf -/
def pickD (k : Key) : List Key → List Nat → Nat
  | x :: xs, d :: ds => if x = k then d else pickD k xs ds
  | _, _ => 0
theorem pickD_at {k : Key} {d : Nat} : ∀ {ks : List Key} {ds : List Nat} {i : Nat}, ks.Nodup → ks[i]? = some k → ds[i]? = some d → pickD k ks ds = d
  | [], _, _, _, h, _ => by cases h
  | _ :: _, [], _, _, _, h => by cases h
  | x :: xs, e :: ds, 0, _, h1, h2 => by
    cases h1
    cases h2
    exact if_pos rfl
  | x :: xs, e :: ds, i + 1, nd, h1, h2 => by
    have nd := List.nodup_cons.mp nd
    have h1 : xs[i]? = some k := h1
    unfold pickD
    rw [if_neg (fun z => nd.1 (by rw [z]; exact List.mem_of_getElem? h1))]
    exact pickD_at nd.2 h1 h2
noncomputable def depAt (L : LandD) (h : Str) (k : Key) : Nat := pickD k (leaves L.rs h) (deps L h)
theorem PlanR.at {L : LandD} {h : Str} {E : List SrE} (p : PlanR L h E) {i : Nat} {e : SrE} (he : E[i]? = some e) : (leaves L.rs h)[i]? = some e.k ∧ depAt L h e.k = e.d := by
  have a1 : (leaves L.rs h)[i]? = some e.k := by rw [← p.k, List.getElem?_map, he]; rfl
  have a2 : (deps L h)[i]? = some e.d := by rw [← p.d, List.getElem?_map, he]; rfl
  exact ⟨a1, pickD_at (leaves_nd _ _) a1 a2⟩
def spDepthF (K : PySem.W.Frag) : Sp := fun vs H Q X => ∃ (a : Addr) (L : LandD) (v y : V) (D : PyData), vs = [.ref a, v, y] ∧ LandAt K H a L ∧ POk L ∧ Dr K H v D ∧ (∀ z, D = .str z → z.length ≤ 1000000) ∧
  (∀ h, v = .str h → h ∈ L.hs → ∃ k, y = kV k ∧ k ∈ leaves L.rs h ∧ ∀ H', Evl.Ex H H' → Q (.int (depAt L h k : Nat)) H') ∧
  (hasD L.hs D = false → ∀ d H', Evl.Ex H H' → H' d = some (.xd [("house", v)]) → X (.ref (eC K "NoHouse")) (some d) H')
end TP

namespace TP
open PySem PySem.Spec PyProof.Rows L2
/-! ### what is expected -/
structure Hop where
  h : Str
  r : Nat
  l : Int
  g : Int
  c : Int
structure ExS where
  h : Str
  s : Int
  hops : List Hop
def rd0 : RD := ⟨"", "", 0, 0, 0⟩
def rdO (L : LandD) (r : Nat) : RD := (L.rs[r]?).getD rd0
noncomputable def exStep (L : LandD) (x : ExS) (r : Nat) : ExS :=
  ⟨(rdO L r).g, (rdO L r).comes ((rdO L r).behind (x.s + (depAt L x.h (.inl (r : Int)) : Nat))), x.hops ++ [⟨x.h, r, (rdO L r).behind (x.s + (depAt L x.h (.inl (r : Int)) : Nat)), (rdO L r).goes ((rdO L r).behind (x.s + (depAt L x.h (.inl (r : Int)) : Nat))), (rdO L r).comes ((rdO L r).behind (x.s + (depAt L x.h (.inl (r : Int)) : Nat)))⟩]⟩
noncomputable def exRun (L : LandD) (h : Str) (s : Int) (p : List Nat) : ExS := p.foldl (exStep L) ⟨h, s, []⟩
theorem exRun_snoc (L : LandD) (h : Str) (s : Int) (p : List Nat) (r : Nat) : exRun L h s (p ++ [r]) = exStep L (exRun L h s p) r := by
  unfold exRun
  rw [List.foldl_append]
  rfl
theorem exHops_grow (L : LandD) : ∀ (p : List Nat) (x : ExS), ∃ t, (p.foldl (exStep L) x).hops = x.hops ++ t
  | [], x => ⟨[], by simp⟩
  | r :: p, x => by
    obtain ⟨t, ht⟩ := exHops_grow L p (exStep L x r)
    exact ⟨_, by rw [List.foldl_cons, ht]; exact List.append_assoc ..⟩
theorem exRun_sub (L : LandD) (h : Str) (s : Int) (p : List Nat) (i : Nat) {x : Hop} (hx : x ∈ (exRun L h s (p.take i)).hops) : x ∈ (exRun L h s p).hops := by
  have e : exRun L h s p = exRun L h s (p.take i ++ p.drop i) := by rw [List.take_append_drop]
  rw [e]
  unfold exRun at hx ⊢
  rw [List.foldl_append]
  obtain ⟨t, ht⟩ := exHops_grow L (p.drop i) ((p.take i).foldl (exStep L) ⟨h, s, []⟩)
  rw [ht]
  exact List.mem_append_left _ hx
theorem exRun_house (L : LandD) {h g : Str} (s : Int) {p : List Nat} (hl : Leads L.rs h p g) : (exRun L h s p).h = g := by
  have gen : ∀ (p : List Nat) (x : ExS), Leads L.rs x.h p g → (p.foldl (exStep L) x).h = g := by
    intro p
    induction p with
    | nil => intro x h; exact h
    | cons r p ih =>
      intro x h
      obtain ⟨q, h1, h2, h3⟩ := h
      rw [List.foldl_cons]
      refine ih _ ?_
      show Leads L.rs (rdO L r).g p g
      unfold rdO
      rw [h1]
      exact h3
  exact gen p ⟨h, s, []⟩ hl
theorem exHops_len (L : LandD) : ∀ (p : List Nat) (x : ExS), (p.foldl (exStep L) x).hops.length = x.hops.length + p.length
  | [], x => rfl
  | r :: p, x => by
    rw [List.foldl_cons, exHops_len L p]
    show (x.hops ++ [_]).length + p.length = _
    rw [List.length_append, List.length_cons, List.length_cons, List.length_nil]
    omega
theorem exRun_len (L : LandD) (h : Str) (s : Int) (p : List Nat) : (exRun L h s p).hops.length = p.length := by
  unfold exRun
  rw [exHops_len]
  exact Nat.zero_add _
theorem ssGet_in {z g : Str} : ∀ {ss : List (Str × Str)}, ssGet ss z = some g → (z, g) ∈ ss
  | [], h => by cases h
  | q :: r, h => by
    unfold ssGet at h
    by_cases e : q.1 = z
    · rw [if_pos e] at h
      have := Option.some.inj h
      rw [← e, ← this]
      exact List.mem_cons_self
    · rw [if_neg e] at h
      exact List.mem_cons_of_mem _ (ssGet_in h)
/-- the i-th road of a way: where one is then -/
theorem leads_at {rs : List RD} {h g : Str} {p : List Nat} {i r : Nat} (hl : Leads rs h p g) (hr : p[i]? = some r) : ∃ q, rs[r]? = some q ∧ Leads rs h (p.take i) q.b := by
  have hi := (List.getElem?_eq_some_iff.mp hr).1
  have e : p = p.take i ++ r :: p.drop (i + 1) := by
    rw [(List.getElem?_eq_some_iff.mp hr).2.symm, List.getElem_cons_drop, List.take_append_drop]
  rw [e] at hl
  obtain ⟨m, h1, q, h2, h3, h4⟩ := leads_cut hl
  exact ⟨q, h2, by rw [h3]; exact h1⟩
structure HpE where
  t : Addr
  x : Hop
def HpOk (K : PySem.W.Frag) (H : Hp) (e : HpE) : Prop := SqT K H e.t [.str e.x.h, .int (e.x.r : Int), .int e.x.l, .int e.x.g, .int e.x.c]
theorem HpOk.ex {K : PySem.W.Frag} {H H' : Hp} {e : HpE} (h : HpOk K H e) (x : Evl.Ex H H') : HpOk K H' e := sqt_ex h x
def spExp (K : PySem.W.Frag) : Sp := fun vs H Q X => ∃ (a : Addr) (L : LandD) (v y : V) (D G : PyData) (s : Int), vs = [.ref a, v, .int s, y] ∧ LandAt K H a L ∧ POk L ∧ Dr K H v D ∧ Dr K H y G ∧ (∀ z, D = .str z → z.length ≤ 1000000) ∧ (∀ z, G = .str z → z.length ≤ 1000000) ∧
  (∀ h z g, v = .str h → y = .str z → h ∈ L.hs → ssGet L.ss z = some g → (∀ q ∈ L.rs, q.e < 2 ^ 600) ∧ (∀ x ∈ (exRun L h s (bestP L.rs h g)).hops, Bd x.l) ∧
    ∀ (t hp : Addr) (E : List HpE) (H' : Hp), Evl.Ex H H' → SqT K H' t [.int ((exRun L h s (bestP L.rs h g)).s + (depAt L g (.inr "home") : Nat)), .ref hp] → SqT K H' hp (E.map fun e => V.ref e.t) → (∀ e ∈ E, HpOk K H' e) → E.map (·.x) = (exRun L h s (bestP L.rs h g)).hops → Q (.ref t) H') ∧
  (hasD L.hs D = false → ∀ d H', Evl.Ex H H' → H' d = some (.xd [("house", v)]) → X (.ref (eC K "NoHouse")) (some d) H') ∧
  (hasD L.hs D = true → hasD (L.ss.map (·.1)) G = false → ∀ d H', Evl.Ex H H' → H' d = some (.xd [("street", y)]) → X (.ref (eC K "NoStreet")) (some d) H')
end TP

namespace TP
open PySem PySem.Spec PyProof.Rows L2
/-! ### laws of what is expected -/
theorem exRun_pre (L : LandD) : ∀ (p : List Nat) (h : Str) (s : Int) (xs : List Hop), p.foldl (exStep L) ⟨h, s, xs⟩ = ⟨(exRun L h s p).h, (exRun L h s p).s, xs ++ (exRun L h s p).hops⟩
  | [], h, s, xs => by
    show (⟨h, s, xs⟩ : ExS) = ⟨h, s, xs ++ []⟩
    rw [List.append_nil]
  | r :: p, h, s, xs => by
    obtain ⟨y, hy⟩ : ∃ y, y = exStep L ⟨h, s, []⟩ r := ⟨_, rfl⟩
    have e1 : exStep L ⟨h, s, xs⟩ r = ⟨y.h, y.s, xs ++ y.hops⟩ := by rw [hy]; rfl
    have e2 : exRun L h s (r :: p) = ⟨(exRun L y.h y.s p).h, (exRun L y.h y.s p).s, y.hops ++ (exRun L y.h y.s p).hops⟩ := by
      show p.foldl (exStep L) (exStep L ⟨h, s, []⟩ r) = _
      rw [← hy]
      exact exRun_pre L p y.h y.s y.hops
    rw [List.foldl_cons, e1, exRun_pre L p, e2, List.append_assoc]
theorem exRun_cons (L : LandD) (h : Str) (s : Int) (r : Nat) (p : List Nat) :
    exRun L h s (r :: p) = ⟨(exRun L (exStep L ⟨h, s, []⟩ r).h (exStep L ⟨h, s, []⟩ r).s p).h, (exRun L (exStep L ⟨h, s, []⟩ r).h (exStep L ⟨h, s, []⟩ r).s p).s, (exStep L ⟨h, s, []⟩ r).hops ++ (exRun L (exStep L ⟨h, s, []⟩ r).h (exStep L ⟨h, s, []⟩ r).s p).hops⟩ := by
  exact exRun_pre L p (exStep L ⟨h, s, []⟩ r).h (exStep L ⟨h, s, []⟩ r).s (exStep L ⟨h, s, []⟩ r).hops
theorem xbehind_mono {q : RD} (he : 1 ≤ q.e) {t u : Int} (h : t ≤ u) : q.behind t ≤ q.behind u := by
  have := Int.ediv_le_ediv (show (0 : Int) < q.e by omega) (show t - q.f ≤ u - q.f by omega)
  unfold RD.behind
  split <;> split <;> omega
theorem xbehind_next {q : RD} (he : 1 ≤ q.e) (t : Int) : q.behind (t + 1) ≤ q.behind t + 1 := by
  have h1 : (t + 1 - q.f) / q.e ≤ (t - q.f) / q.e + 1 := by
    have : (t - q.f + q.e) / q.e = (t - q.f) / q.e + 1 := Int.add_ediv_of_dvd_right (Int.dvd_refl _) |>.trans (by rw [Int.ediv_self (by omega)])
    rw [← this]
    exact Int.ediv_le_ediv (by omega) (by omega)
  unfold RD.behind
  split <;> split <;> omega
theorem xbehind_nn (q : RD) (t : Int) : 0 ≤ q.behind t := by
  unfold RD.behind
  split <;> omega
/-- it goes behind the tick, the one ahead of it doesn't -/
theorem xbehind_goes {q : RD} (he : 1 ≤ q.e) (t : Int) : t < q.goes (q.behind t) := by
  have hd := Int.emod_add_mul_ediv (t - q.f) q.e
  have hm := Int.emod_lt_of_pos (t - q.f) (show (0 : Int) < q.e by omega)
  unfold RD.goes RD.behind
  split
  · rw [Int.add_mul, Int.one_mul, Int.mul_comm]
    omega
  · rename_i hh
    have h2 : (t - q.f) / q.e ≤ -1 := by omega
    have : q.e * ((t - q.f) / q.e) ≤ q.e * (-1) := Int.mul_le_mul_of_nonneg_left h2 (by omega)
    omega
theorem xbehind_last {q : RD} (he : 1 ≤ q.e) {t : Int} (h : 0 < q.behind t) : q.goes (q.behind t - 1) ≤ t := by
  have hd := Int.emod_add_mul_ediv (t - q.f) q.e
  have hm := Int.emod_nonneg (t - q.f) (show q.e ≠ 0 by omega)
  unfold RD.goes
  unfold RD.behind at h ⊢
  split at h
  · rename_i hh
    rw [if_pos hh, Int.add_sub_cancel, Int.mul_comm]
    omega
  · omega
theorem xgoes_mono {q : RD} (he : 1 ≤ q.e) {k j : Int} (h : k ≤ j) : q.goes k ≤ q.goes j := by
  unfold RD.goes
  have := Int.mul_le_mul_of_nonneg_right h (show 0 ≤ q.e by omega)
  omega
theorem xcomes_eq (q : RD) (k : Int) : q.comes k = q.goes k + q.t := rfl
/-- no later than some bound -/
theorem xcomes_le {q : RD} (he : 1 ≤ q.e) (f0 : 0 ≤ q.f) {t : Int} (ht : 0 ≤ t) : q.goes (q.behind t) ≤ t + q.f + q.e := by
  by_cases h : 0 < q.behind t
  · have := xbehind_last he h
    have e : q.goes (q.behind t) = q.goes (q.behind t - 1) + q.e := by
      unfold RD.goes
      rw [Int.sub_mul, Int.one_mul]
      omega
    omega
  · have e : q.behind t = 0 := by have := xbehind_nn q t; omega
    rw [e]
    unfold RD.goes
    omega
theorem exRun_mono (L : LandD) (ok : ∀ r, 1 ≤ (rdO L r).e ∨ L.rs[r]? = none) : ∀ (p : List Nat) (h : Str) (s u : Int), (∀ r ∈ p, (L.rs[r]?).isSome = true) → s ≤ u →
    (exRun L h s p).h = (exRun L h u p).h ∧ (exRun L h s p).s ≤ (exRun L h u p).s ∧ ∀ (i : Nat) (x y : Hop), (exRun L h s p).hops[i]? = some x → (exRun L h u p).hops[i]? = some y → x.h = y.h ∧ x.r = y.r ∧ x.l ≤ y.l ∧ x.c ≤ y.c
  | [], h, s, u, _, le => ⟨rfl, le, fun i x y hx _ => by cases hx⟩
  | r :: p, h, s, u, hp, le => by
    have e1 : 1 ≤ (rdO L r).e := by
      rcases ok r with z | z
      · exact z
      · have := hp r List.mem_cons_self
        rw [z] at this
        cases this
    have bm := xbehind_mono e1 (show s + (depAt L h (.inl (r : Int)) : Nat) ≤ u + (depAt L h (.inl (r : Int)) : Nat) by omega)
    have gm := xgoes_mono e1 bm
    have cm : (rdO L r).comes ((rdO L r).behind (s + (depAt L h (.inl (r : Int)) : Nat))) ≤ (rdO L r).comes ((rdO L r).behind (u + (depAt L h (.inl (r : Int)) : Nat))) := by
      rw [xcomes_eq, xcomes_eq]
      omega
    obtain ⟨a1, a2, a3⟩ := exRun_mono L ok p (rdO L r).g _ _ (fun x hx => hp x (List.mem_cons_of_mem _ hx)) cm
    rw [exRun_cons, exRun_cons]
    refine ⟨a1, a2, fun i x y hx hy => ?_⟩
    cases i with
    | zero =>
      cases hx
      cases hy
      exact ⟨rfl, rfl, bm, cm⟩
    | succ i => exact a3 i x y hx hy
end TP

namespace TP
open PySem PySem.Spec PyProof.Rows L2
/-! ### bounds -/
theorem bump_le : ∀ (ps d : List Nat) (M : Nat), (∀ x ∈ d, x ≤ M) → ∀ x ∈ TP.bump d ps, x ≤ M + ps.length
  | [], d, M, h, x, hx => h x hx
  | p :: ps, d, M, h, x, hx => by
    have hx : x ∈ TP.bump (d.set p (d.getD p 0 + 1)) ps := hx
    have := bump_le ps _ (M + 1) (fun y hy => ?_) x hx
    · rw [List.length_cons]
      omega
    · rcases List.mem_or_eq_of_mem_set hy with z | z
      · have := h y z
        omega
      · rw [z]
        have : d.getD p 0 ≤ M := by
          rw [List.getD_eq_getElem?_getD]
          cases q : d[p]? with
          | none => exact Nat.zero_le _
          | some v => exact h v (List.mem_of_getElem? q)
        omega
theorem hrun_le (b n : Nat) (hb : 1 ≤ b) : ∀ (k m : Nat) (xs : List Nd) (d : List Nat) (M : Nat), 1 ≤ m → NInv n xs → (∀ x ∈ d, x ≤ M) → ∀ x ∈ hrun b k m xs d, x ≤ M + k * n
  | 0, m, xs, d, M, _, _, h, x, hx => by
    have := h x hx
    omega
  | k + 1, m, xs, d, M, hm, ni, h, x, hx => by
    by_cases e : xs.length ≤ 1
    · rw [hrun_done _ _ _ _ _ e] at hx
      have := h x hx
      omega
    · rw [hrun_more _ _ _ _ _ e] at hx
      have fl : ((xs.take m).flatMap (·.ls)).length ≤ n := by
        rw [flat_len]
        refine Nat.le_trans ?_ ni.sm
        conv => rhs; rw [← List.take_append_drop m xs, List.map_append, List.sum_append]
        exact Nat.le_add_right _ _
      have := hrun_le b n hb k b _ _ (M + n) hb ((ni.step (m := m) (by rw [List.length_take]; omega)).perm (List.mergeSort_perm _ _)) (fun y hy => by
        have := bump_le _ d M h y hy
        omega) x hx
      rw [Nat.succ_mul]
      omega
theorem depthsOf_le {cs : List Nat} {b : Nat} (hb : 2 ≤ b) (hn : cs.length ≤ 20) : ∀ x ∈ depthsOf cs b, x ≤ 400 := by
  intro x hx
  unfold depthsOf at hx
  split at hx
  · obtain rfl : x = 1 := by simpa using hx
    omega
  · have := hrun_le b cs.length (by omega) cs.length _ _ _ 0 (by omega) ((ninv0 cs).perm (List.mergeSort_perm _ _)) (fun y hy => by rw [List.eq_of_mem_replicate hy]; exact Nat.le_refl _) x hx
    have : cs.length * cs.length ≤ 20 * 20 := Nat.mul_le_mul hn hn
    omega
theorem pickD_le {M : Nat} (k : Key) : ∀ (ks : List Key) (ds : List Nat), (∀ x ∈ ds, x ≤ M) → pickD k ks ds ≤ M
  | [], _, _ => Nat.zero_le _
  | _ :: _, [], _ => Nat.zero_le _
  | x :: ks, d :: ds, h => by
    unfold pickD
    split
    · exact h d List.mem_cons_self
    · exact pickD_le k ks ds fun y hy => h y (List.mem_cons_of_mem _ hy)
theorem depAt_le {L : LandD} (po : POk L) (h : Str) (k : Key) : depAt L h k ≤ 400 := by
  unfold depAt
  refine pickD_le k _ _ (depthsOf_le (by have := po.b2; omega) ?_)
  rw [cnts_len]
  have := leaves_len (rs := L.rs) (h := h)
  have : L.rs.length ≤ 16 := by rw [List.length_map]; exact po.ok.rl
  omega
theorem exRun_bd {L : LandD} (po : POk L) {M : Int} (hM : ∀ q ∈ L.rs, q.f ≤ M ∧ q.e ≤ M ∧ q.t ≤ M) : ∀ (p : List Nat) (h : Str) (s : Int), (∀ r ∈ p, (L.rs[r]?).isSome = true) → 0 ≤ s →
    0 ≤ (exRun L h s p).s ∧ (exRun L h s p).s ≤ s + p.length * (3 * M + 400) ∧ ∀ x ∈ (exRun L h s p).hops, 0 ≤ x.l ∧ x.l ≤ s + p.length * (3 * M + 400) + 401
  | [], h, s, _, s0 => ⟨s0, by show s ≤ s + 0 * _; omega, fun x hx => by cases hx⟩
  | r :: p, h, s, hp, s0 => by
    obtain ⟨q, hq⟩ := Option.isSome_iff_exists.mp (hp r List.mem_cons_self)
    have ro : rdO L r = q := by unfold rdO; rw [hq]; rfl
    obtain ⟨qa, hqa, rfl⟩ := map_at hq
    have qok := po.ok.r qa (List.mem_of_getElem? hqa)
    obtain ⟨m1, m2, m3⟩ := hM qa.2 (List.mem_of_getElem? hq)
    have dl := depAt_le po h (.inl (r : Int))
    have f0 := qok.f0
    have e1 := qok.e1
    have t1 := qok.t1
    have cl := xcomes_le e1 f0 (show 0 ≤ s + (depAt L h (.inl (r : Int)) : Nat) by omega)
    have ll := behind_le e1 f0 (show 0 ≤ s + (depAt L h (.inl (r : Int)) : Nat) by omega)
    have cg := xbehind_goes e1 (s + (depAt L h (.inl (r : Int)) : Nat))
    have ce := xcomes_eq qa.2 (qa.2.behind (s + (depAt L h (.inl (r : Int)) : Nat)))
    rw [exRun_cons]
    unfold exStep
    rw [ro]
    obtain ⟨a1, a2, a3⟩ := exRun_bd po hM p qa.2.g (qa.2.comes (qa.2.behind (s + (depAt L h (.inl (r : Int)) : Nat)))) (fun x hx => hp x (List.mem_cons_of_mem _ hx)) (by omega)
    have pc : ((r :: p).length : Int) * (3 * M + 400) = p.length * (3 * M + 400) + (3 * M + 400) := by
      rw [List.length_cons, Int.natCast_succ, Int.add_mul, Int.one_mul]
    have pp : 0 ≤ (p.length : Int) * (3 * M + 400) := Int.mul_nonneg (Int.natCast_nonneg _) (by omega)
    rw [pc]
    refine ⟨a1, Int.le_trans a2 (by omega), fun x hx => ?_⟩
    rcases List.mem_append.mp hx with z | z
    · obtain rfl := List.mem_singleton.mp z
      refine ⟨behind_nn, ?_⟩
      show qa.2.behind (s + (depAt L h (.inl (r : Int)) : Nat)) ≤ _
      omega
    · obtain ⟨b1, b2⟩ := a3 x z
      exact ⟨b1, by omega⟩
end TP

namespace TP
open PySem PySem.Spec PyProof.Rows L2
/-! ### wide lands, asked -/
theorem wlok {hs : List Str} {ss : List (Str × Str)} {rq : List (Addr × RD)} {bn : Int} {uq : List (Addr × RN)} (ok : WOk hs ss rq bn) : LOk ⟨hs, ss, rq, bn, uq⟩ := ⟨ok.h, ok.s, fun q hq => (ok.r q hq).1, ok.rl⟩
theorem wpok {hs : List Str} {ss : List (Str × Str)} {rq : List (Addr × RD)} {bn : Int} {uq : List (Addr × RN)} (ok : WOk hs ss rq bn) : POk ⟨hs, ss, rq, bn, uq⟩ :=
  ⟨wlok ok, fun h hh g gg => tied_leads ok.h ok.ti hh gg, ok.b2, by have := ok.s.hi; show ss.length ≤ 1000; omega⟩
theorem wbest {hs : List Str} {ss : List (Str × Str)} {rq : List (Addr × RD)} {bn : Int} (ok : WOk hs ss rq bn) {h g : Str} (hm : h ∈ hs) (gm : g ∈ hs) :
    ∃ l, Best (rq.map (·.2)) h g l ∧ bestP (rq.map (·.2)) h g = l.p ∧ l.p.length ≤ 7 ∧ ∀ r ∈ l.p, ((rq.map (·.2))[r]?).isSome = true := by
  obtain ⟨l, b⟩ := best_ex (tied_leads ok.h ok.ti hm gm)
  refine ⟨l, b, bestP_of b, best_7 hm (fun q hq => ?_) ok.h.hi b, fun r hr => ?_⟩
  · obtain ⟨x, hx, rfl⟩ := List.mem_map.mp hq
    exact (ok.r x hx).1.hg
  · rw [List.getElem?_eq_getElem (leads_ok b.ld r hr)]
    rfl
theorem wexp_e {hs : List Str} {ss : List (Str × Str)} {rq : List (Addr × RD)} {bn : Int} (ok : WOk hs ss rq bn) : ∀ q ∈ rq.map (·.2), q.e < 2 ^ 600 := fun q hq => by
  obtain ⟨x, hx, rfl⟩ := List.mem_map.mp hq
  have := (ok.r x hx).2.e
  have p : (10 : Int) ^ 62 < 2 ^ 600 := by decide +kernel
  omega
theorem wexp_bd {hs : List Str} {ss : List (Str × Str)} {rq : List (Addr × RD)} {bn : Int} {uq : List (Addr × RN)} (ok : WOk hs ss rq bn) {h : Str} {p : List Nat} {s : Int} (s0 : 0 ≤ s) (s1 : s < 10 ^ 70) (p7 : p.length ≤ 7) (pr : ∀ r ∈ p, ((rq.map (·.2))[r]?).isSome = true) :
    0 ≤ (exRun ⟨hs, ss, rq, bn, uq⟩ h s p).s ∧ (exRun ⟨hs, ss, rq, bn, uq⟩ h s p).s < s + 10 ^ 65 ∧ ∀ x ∈ (exRun ⟨hs, ss, rq, bn, uq⟩ h s p).hops, Bd x.l := by
  obtain ⟨a1, a2, a3⟩ := exRun_bd (L := ⟨hs, ss, rq, bn, uq⟩) (wpok ok) (M := 10 ^ 62) (fun q hq => by
    obtain ⟨x, hx, rfl⟩ := List.mem_map.mp hq
    obtain ⟨b1, b2, b3⟩ := (ok.r x hx).2
    exact ⟨Int.le_of_lt b1, Int.le_of_lt b2, Int.le_of_lt b3⟩) p h s pr s0
  have m : (p.length : Int) * (3 * 10 ^ 62 + 400) ≤ 7 * (3 * 10 ^ 62 + 400) := Int.mul_le_mul_of_nonneg_right (by omega) (by decide +kernel)
  have c1 : (7 : Int) * (3 * 10 ^ 62 + 400) < 10 ^ 65 - 401 := by decide +kernel
  have c2 : (10 : Int) ^ 70 + 10 ^ 65 < 2 ^ 600 := by decide +kernel
  generalize (p.length : Int) * (3 * 10 ^ 62 + 400) = A at *
  generalize (7 : Int) * (3 * 10 ^ 62 + 400) = B at *
  generalize (10 : Int) ^ 70 = C at *
  generalize (10 : Int) ^ 65 = F at *
  refine ⟨a1, by omega, fun x hx => ?_⟩
  obtain ⟨b1, b2⟩ := a3 x hx
  refine ⟨b1, ?_⟩
  generalize (2 : Int) ^ 600 = G at *
  omega
theorem wssget {hs : List Str} {ss : List (Str × Str)} {rq : List (Addr × RD)} {bn : Int} (ok : WOk hs ss rq bn) {z g : Str} (h : ssGet ss z = some g) : NmP z ∧ NmP g ∧ g ∈ hs ∧ z ∈ ss.map (·.1) := by
  obtain ⟨a, b, c⟩ := ok.s.nm _ (ssGet_in h)
  exact ⟨a, b, c, List.mem_map.mpr ⟨_, ssGet_in h, rfl⟩⟩
theorem nmp_len {z : Str} (h : NmP z) : z.length ≤ 1000000 := by have := h.hi; omega
theorem exp_by {K : PySem.W.Frag} {H : Hp} {a : Addr} {hs : List Str} {ss : List (Str × Str)} {rq : List (Addr × RD)} {bn : Int} {uq : List (Addr × RN)} {h z g : Str} {s : Int} {Q : VK} {X : XK}
    (LA : LandAt K H a ⟨hs, ss, rq, bn, uq⟩) (ok : WOk hs ss rq bn) (hm : h ∈ hs) (hz : ssGet ss z = some g) (s0 : 0 ≤ s) (s1 : s < 10 ^ 70)
    (k : ∀ (t hp : Addr) (E : List HpE) (H' : Hp), Evl.Ex H H' → SqT K H' t [.int ((exRun ⟨hs, ss, rq, bn, uq⟩ h s (bestP (rq.map (·.2)) h g)).s + (depAt ⟨hs, ss, rq, bn, uq⟩ g (.inr "home") : Nat)), .ref hp] → SqT K H' hp (E.map fun e => V.ref e.t) → (∀ e ∈ E, HpOk K H' e) → E.map (·.x) = (exRun ⟨hs, ss, rq, bn, uq⟩ h s (bestP (rq.map (·.2)) h g)).hops → Q (.ref t) H') :
    spExp K [.ref a, .str h, .int s, .str z] H Q X := by
  obtain ⟨z1, z2, z3, z4⟩ := wssget ok hz
  refine ⟨a, _, _, _, .str h, .str z, s, rfl, LA, wpok ok, .str _, .str _, (fun y q => by cases q; exact nmp_len (ok.h.nm h hm)), (fun y q => by cases q; exact nmp_len z1), ?_, ?_, ?_⟩
  · intro h' z' g' q1 q2 _ q3
    obtain rfl := V.str.inj q1
    obtain rfl := V.str.inj q2
    obtain rfl : g = g' := Option.some.inj (hz.symm.trans q3)
    obtain ⟨l, b, e, b7, br⟩ := wbest ok hm z3
    refine ⟨wexp_e ok, ?_, k⟩
    show ∀ x ∈ (exRun _ h s (bestP (rq.map (·.2)) h g)).hops, Bd x.l
    rw [e]
    exact (wexp_bd ok s0 s1 b7 br).2.2
  · intro b
    rw [hasD_yes (ok.h.nm h hm), decide_eq_true hm] at b
    cases b
  · intro _ b
    rw [hasD_yes z1, decide_eq_true z4] at b
    cases b
theorem way_by {K : PySem.W.Frag} {H : Hp} {a : Addr} {hs : List Str} {ss : List (Str × Str)} {rq : List (Addr × RD)} {bn : Int} {uq : List (Addr × RN)} {h g : Str} {Q : VK} {X : XK}
    (LA : LandAt K H a ⟨hs, ss, rq, bn, uq⟩) (ok : WOk hs ss rq bn) (hm : h ∈ hs) (gm : g ∈ hs)
    (k : ∀ (p : Addr) (l : Lb) (H' : Hp), Evl.Ex H H' → SqT K H' p (natsV l.p) → Best (rq.map (·.2)) h g l → l.p.length ≤ 7 → Q (.ref p) H') :
    spWay K [.ref a, .str h, .str g] H Q X := by
  refine ⟨a, _, _, _, .str h, .str g, rfl, LA, wlok ok, .str _, .str _, (fun y q => by cases q; exact nmp_len (ok.h.nm h hm)), (fun y q => by cases q; exact nmp_len (ok.h.nm g gm)), ?_, ?_, ?_⟩
  · intro h' g' q1 q2 _ _
    obtain rfl := V.str.inj q1
    obtain rfl := V.str.inj q2
    exact ⟨tied_leads ok.h ok.ti hm gm, k⟩
  · intro b
    rw [hasD_yes (ok.h.nm h hm), decide_eq_true hm] at b
    cases b
  · intro _ b
    rw [hasD_yes (ok.h.nm g gm), decide_eq_true gm] at b
    cases b
theorem dep_by {K : PySem.W.Frag} {H : Hp} {a : Addr} {hs : List Str} {ss : List (Str × Str)} {rq : List (Addr × RD)} {bn : Int} {uq : List (Addr × RN)} {h : Str} {v : V} {kk : Key} {Q : VK} {X : XK}
    (LA : LandAt K H a ⟨hs, ss, rq, bn, uq⟩) (ok : WOk hs ss rq bn) (hm : h ∈ hs) (e : v = kV kk) (mk : kk ∈ leaves (rq.map (·.2)) h)
    (k : ∀ H', Evl.Ex H H' → Q (.int (depAt ⟨hs, ss, rq, bn, uq⟩ h kk : Nat)) H') :
    spDepthF K [.ref a, .str h, v] H Q X := by
  refine ⟨a, _, _, _, .str h, rfl, LA, wpok ok, .str _, (fun y q => by cases q; exact nmp_len (ok.h.nm h hm)), ?_, ?_⟩
  · intro h' q1 _
    obtain rfl := V.str.inj q1
    exact ⟨kk, e, mk, k⟩
  · intro b
    rw [hasD_yes (ok.h.nm h hm), decide_eq_true hm] at b
    cases b
/-! ### hops as data -/
def hopD (x : Hop) : PyData := .tuple [.str x.h, .int (x.r : Int), .int x.l, .int x.g, .int x.c]
def hopsD (xs : List Hop) : PyData := .tuple (xs.map hopD)
theorem dr_hop {K : PySem.W.Frag} {H : Hp} {e : HpE} (h : HpOk K H e) : Dr K H (.ref e.t) (hopD e.x) := .tup h (.cons (.str _) (.cons (.int _) (.cons (.int _) (.cons (.int _) (.cons (.int _) .nil)))))
theorem dr_hopsA {K : PySem.W.Frag} {H : Hp} : ∀ {E : List HpE}, (∀ e ∈ E, HpOk K H e) → DrAll K H (E.map fun e => V.ref e.t) ((E.map (·.x)).map hopD)
  | [], _ => .nil
  | e :: E, h => .cons (dr_hop (h e List.mem_cons_self)) (dr_hopsA fun y hy => h y (List.mem_cons_of_mem _ hy))
theorem dr_hops {K : PySem.W.Frag} {H : Hp} {a : Addr} {E : List HpE} (h : SqT K H a (E.map fun e => V.ref e.t)) (ok : ∀ e ∈ E, HpOk K H e) : Dr K H (.ref a) (hopsD (E.map (·.x))) := .tup h (dr_hopsA ok)
theorem lay_hopsA : ∀ xs : List Hop, (∀ x ∈ xs, NmP x.h) → PyData.canLayAll0 (xs.map hopD) = true
  | [], _ => rfl
  | x :: xs, h => by
    have := (h x List.mem_cons_self).ok
    rw [List.map_cons, PyData.canLayAll0, lay_hopsA xs fun y hy => h y (List.mem_cons_of_mem _ hy)]
    unfold hopD
    simp [PyData.canLay0, PyData.canLayAll0, this]
theorem lay_hops (xs : List Hop) (h : ∀ x ∈ xs, NmP x.h) : (hopsD xs).canLay0 = true := lay_hopsA xs h
theorem exRun_hs {hs : List Str} {ss : List (Str × Str)} {rq : List (Addr × RD)} {bn : Int} {uq : List (Addr × RN)} (ok : WOk hs ss rq bn) : ∀ (p : List Nat) (h : Str) (s : Int), h ∈ hs → (∀ r ∈ p, ((rq.map (·.2))[r]?).isSome = true) → ∀ x ∈ (exRun ⟨hs, ss, rq, bn, uq⟩ h s p).hops, x.h ∈ hs
  | [], h, s, hm, _, x, hx => by cases hx
  | r :: p, h, s, hm, hp, x, hx => by
    rw [exRun_cons] at hx
    rcases List.mem_append.mp hx with z | z
    · obtain rfl := List.mem_singleton.mp z
      exact hm
    · refine exRun_hs ok p _ _ ?_ (fun y hy => hp y (List.mem_cons_of_mem _ hy)) x z
      obtain ⟨q, hq⟩ := Option.isSome_iff_exists.mp (hp r List.mem_cons_self)
      show (rdO ⟨hs, ss, rq, bn, uq⟩ r).g ∈ hs
      unfold rdO
      rw [show (LandD.rs ⟨hs, ss, rq, bn, uq⟩)[r]? = some q from hq]
      obtain ⟨qa, hqa, rfl⟩ := map_at hq
      exact (ok.r qa (List.mem_of_getElem? hqa)).1.hg
theorem depth_hopsA : ∀ xs : List Hop, PyData.depthAll (xs.map hopD) ≤ 5
  | [] => by simp [PyData.depthAll]
  | x :: xs => by
    have := depth_hopsA xs
    rw [List.map_cons, PyData.depthAll]
    have : (hopD x).depth ≤ 5 := by
      unfold hopD
      simp only [PyData.depth, PyData.depthAll]
      decide
    omega
theorem depth_hops (xs : List Hop) : (hopsD xs).depth ≤ 10 := by
  have := depth_hopsA xs
  unfold hopsD
  rw [PyData.depth]
  omega
theorem eqv_hops_nil (xs : List Hop) : PyData.eqv (hopsD xs) (.tuple []) = xs.isEmpty := by
  cases xs with
  | nil => rfl
  | cons x xs => rfl
theorem exRun_rs (L : LandD) : ∀ (p : List Nat) (h : Str) (s : Int), (exRun L h s p).hops.map (·.r) = p
  | [], h, s => rfl
  | r :: p, h, s => by
    rw [exRun_cons]
    show ((exStep L ⟨h, s, []⟩ r).hops ++ _).map (·.r) = _
    rw [List.map_append, exRun_rs L p]
    rfl
def expD (t : Int) (xs : List Hop) : PyData := .tuple [.int t, hopsD xs]
theorem lay_exp (t : Int) (xs : List Hop) (h : ∀ x ∈ xs, NmP x.h) : (expD t xs).canLay0 = true := by
  have := lay_hops xs h
  unfold expD
  simp only [PyData.canLay0, PyData.canLayAll0, this, Bool.and_true]
theorem depth_exp (t : Int) (xs : List Hop) : (expD t xs).depth ≤ 40 := by
  have := depth_hops xs
  unfold expD
  simp only [PyData.depth, PyData.depthAll]
  omega
theorem eqv_exp (t : Int) (xs : List Hop) (h : ∀ x ∈ xs, NmP x.h) : PyData.eqv (expD t xs) (expD t xs) = true := SeqAt.eqv_refl _ (lay_exp t xs h)
/-! ### the things of a wide land, kept through draws -/
structure WSet (K : PySem.W.Frag) (H : Hp) (w t ld ha sa pa ea u : Addr) (hs : List Str) (ss : List (Str × Str)) (rq : List (Addr × RD)) (bn : Int) (n : Nat) : Prop where
  wl : Wl H w n
  gt : H t = some (.tup [.ref ha, .ref sa, .ref pa, .int bn, .ref ea])
  W : Wide H ha sa pa ea hs ss rq
  LA : LandAt K H ld ⟨hs, ss, rq, bn, [(u, r0)]⟩
  n1 : ha ≠ w
  n2 : pa ≠ w
  n3 : ea ≠ w
theorem WSet.ex {K : PySem.W.Frag} {H H' : Hp} {w t ld ha sa pa ea u : Addr} {hs : List Str} {ss : List (Str × Str)} {rq : List (Addr × RD)} {bn : Int} {n : Nat} (h : WSet K H w t ld ha sa pa ea u hs ss rq bn n) (e : Evl.Ex H H') : WSet K H' w t ld ha sa pa ea u hs ss rq bn n :=
  ⟨h.wl.ex e, e _ _ h.gt, h.W.ex e, h.LA.ex e, h.n1, h.n2, h.n3⟩
theorem WSet.dn {K : PySem.W.Frag} {H H' : Hp} {w t ld ha sa pa ea u : Addr} {hs : List Str} {ss : List (Str × Str)} {rq : List (Addr × RD)} {bn : Int} {n m : Nat} (h : WSet K H w t ld ha sa pa ea u hs ss rq bn n) (d : Dn w m H H') : WSet K H' w t ld ha sa pa ea u hs ss rq bn m := by
  refine ⟨d.wl, d.k _ _ (wl_tup h.wl h.gt) h.gt, h.W.dn h.wl d h.n1 h.n2 h.n3, ?_, h.n1, h.n2, h.n3⟩
  obtain ⟨x0, y0, c0, hw, _⟩ := h.wl
  exact ((h.LA.hid hw).ex d.hx).ex hid_ex
end TP

namespace TP
open PySem PySem.Spec PyProof.Rows L2
theorem un65 {k : Nat} {A : Around} (r : Room k A) : A.units + 65 < cLine := by have := r.un; omega
/-! ### ways found from the goal on -/
def lt3 (a b : Lb) : Bool := decide ((a.p.length : Int) < (b.p.length : Int)) || (decide ((a.p.length : Int) = (b.p.length : Int)) && a.lt b)
theorem best_lt3 {rs : List RD} {h g : Str} {l m : Lb} (b : Best rs h g l) (ld : Leads rs h m.p g) (mt : m.t = tks rs m.p) : lt3 m l = false := by
  unfold lt3
  have s := b.sh _ ld
  rw [decide_eq_false (by omega), Bool.false_or]
  by_cases e : m.p.length = l.p.length
  · have := b.mn _ ld e
    unfold lab at this
    rw [← mt] at this
    rw [this, Bool.and_false]
  · rw [decide_eq_false (by omega), Bool.false_and]
theorem best_eq3 {rs : List RD} {h g : Str} {l m : Lb} (b : Best rs h g l) (ld : Leads rs h m.p g) (mt : m.t = tks rs m.p) (n : lt3 l m = false) : m = l := by
  have n2 := best_lt3 b ld mt
  unfold lt3 at n n2
  simp only [Bool.or_eq_false_iff, Bool.and_eq_false_iff, decide_eq_false_iff_not] at n n2
  have e : m.p.length = l.p.length := by omega
  rcases n.2 with z | z
  · omega
  · rcases n2.2 with y | y
    · omega
    · exact Lb.tot y z
theorem best_len {rs : List RD} {h g : Str} {hs : List Str} (hm : h ∈ hs) (hg : ∀ q ∈ rs, q.g ∈ hs) {l : Lb} (b : Best rs h g l) : l.p.length < hs.length := by
  obtain ⟨met, s⟩ := smp_of l.p.length l.p g rfl b.ld b.sh
  have := nd_len s.nd (smp_sub hm hg s)
  have := s.len
  omega
structure Bf (rs : List RD) (g : Str) (t j : Nat) (F : List (Str × Lb)) : Prop where
  nd : (F.map (·.1)).Nodup
  ld : ∀ e ∈ F, Leads rs e.1 e.2.p g ∧ e.2.t = tks rs e.2.p ∧ e.2.p.length ≤ t * rs.length + j
  b1 : ∀ h l, Best rs h g l → l.p.length ≤ t → (h, l) ∈ F
  b2 : ∀ h l, Best rs h g l → l.p.length = t + 1 → l.p.headD 0 < j → (h, l) ∈ F
theorem bf_zero (rs : List RD) (g : Str) : Bf rs g 0 0 [(g, ⟨0, []⟩)] where
  nd := by simp
  ld := fun e he => by
    obtain rfl : e = (g, ⟨0, []⟩) := by simpa using he
    exact ⟨rfl, rfl, Nat.zero_le _⟩
  b1 := fun h l b hl => by
    have p0 : l.p = [] := List.eq_nil_of_length_eq_zero (Nat.le_zero.mp hl)
    have ld := b.ld
    have t0 := b.t
    rw [p0] at ld t0
    have e : h = g := ld
    have e2 : l = ⟨0, []⟩ := by
      cases l
      simp only at p0 t0
      rw [p0, t0]
      rfl
    rw [e, e2]
    exact List.mem_cons_self
  b2 := fun h l _ _ hj => absurd hj (Nat.not_lt_zero _)
theorem bf_turn {rs : List RD} {g : Str} {t : Nat} {F : List (Str × Lb)} (f : Bf rs g t rs.length F) : Bf rs g (t + 1) 0 F where
  nd := f.nd
  ld := fun e he => by
    obtain ⟨a, b, c⟩ := f.ld e he
    exact ⟨a, b, by rw [Nat.succ_mul]; omega⟩
  b1 := fun h l b hl => by
    by_cases e : l.p.length ≤ t
    · exact f.b1 h l b e
    · refine f.b2 h l b (by omega) ?_
      have lo := leads_ok b.ld
      cases q : l.p with
      | nil => rw [q] at e; simp at e
      | cons r p =>
        refine lo r ?_
        rw [q]
        exact List.mem_cons_self
  b2 := fun h l _ _ hj => absurd hj (Nat.not_lt_zero _)
/-- the best way that begins with the road at hand -/
theorem bf_head {rs : List RD} {g h : Str} {t j : Nat} {q : RD} {F : List (Str × Lb)} {l : Lb} (f : Bf rs g t j F) (hq : rs[j]? = some q) (b : Best rs h g l) (hl : l.p.length = t + 1) (hj : l.p.headD 0 = j) :
    q.b = h ∧ ∃ m, (q.g, m) ∈ F ∧ l = ⟨m.t + q.t, j :: m.p⟩ := by
  have ne : h ≠ g := fun e => by
    subst e
    have := best_self b
    rw [this] at hl
    simp at hl
  obtain ⟨r, q', pe, h1, h2, h3⟩ := best_next b ne
  have rj : r = j := by rw [pe] at hj; exact hj
  subst rj
  obtain rfl : q' = q := Option.some.inj (h1.symm.trans hq)
  refine ⟨h2, lab rs l.p.tail, f.b1 _ _ h3 ?_, ?_⟩
  · show l.p.tail.length ≤ t
    rw [List.length_tail]
    omega
  · have bt := b.t
    rw [pe, show r :: l.p.tail = [r] ++ l.p.tail from rfl, tks_app, tks_one h1] at bt
    cases l
    unfold lab
    simp only at pe bt ⊢
    rw [← pe, bt, Int.add_comm]
theorem bf_skip {rs : List RD} {g : Str} {t j : Nat} {q : RD} {F : List (Str × Lb)} (f : Bf rs g t j F) (hq : rs[j]? = some q)
    (no : ∀ m, (q.g, m) ∈ F → ∃ x, (q.b, x) ∈ F ∧ lt3 ⟨m.t + q.t, j :: m.p⟩ x = false) : Bf rs g t (j + 1) F where
  nd := f.nd
  ld := fun e he => by
    obtain ⟨a, b, c⟩ := f.ld e he
    exact ⟨a, b, by omega⟩
  b1 := f.b1
  b2 := fun h l b hl hj => by
    by_cases e : l.p.headD 0 < j
    · exact f.b2 h l b hl e
    · obtain ⟨e1, m, mf, e2⟩ := bf_head f hq b hl (by omega)
      obtain ⟨x, xf, n⟩ := no m mf
      rw [← e2] at n
      rw [e1] at xf
      obtain ⟨a1, a2, _⟩ := f.ld _ xf
      have := best_eq3 b a1 a2 n
      rw [← this]
      exact xf
theorem bf_put {rs : List RD} {g : Str} {t j : Nat} {q : RD} {F G : List (Str × Lb)} {m : Lb} (f : Bf rs g t j F) (hq : rs[j]? = some q) (mf : (q.g, m) ∈ F)
    (lt : ∀ x, (q.b, x) ∈ F → lt3 ⟨m.t + q.t, j :: m.p⟩ x = true) (nd : (G.map (·.1)).Nodup) (hG : ∀ y, y ∈ G ↔ (y = (q.b, ⟨m.t + q.t, j :: m.p⟩) ∨ (y ∈ F ∧ y.1 ≠ q.b))) : Bf rs g t (j + 1) G := by
  obtain ⟨m1, m2, m3⟩ := f.ld _ mf
  have nl : Leads rs q.b (j :: m.p) g := ⟨q, hq, rfl, m1⟩
  have nt : m.t + q.t = tks rs (j :: m.p) := by
    rw [show j :: m.p = [j] ++ m.p from rfl, tks_app, tks_one hq, ← m2, Int.add_comm]
  have keep : ∀ h l, Best rs h g l → (h, l) ∈ F → (h, l) ∈ G := fun h l b hl => by
    refine (hG _).mpr ?_
    by_cases e : h = q.b
    · subst e
      have h1 := lt l hl
      rw [best_lt3 b (m := ⟨m.t + q.t, j :: m.p⟩) nl nt] at h1
      cases h1
    · exact .inr ⟨hl, e⟩
  refine ⟨nd, fun e he => ?_, fun h l b hl => keep h l b (f.b1 h l b hl), fun h l b hl hj => ?_⟩
  · rcases (hG e).mp he with rfl | ⟨z, _⟩
    · refine ⟨nl, nt, ?_⟩
      show m.p.length + 1 ≤ _
      have : m.p.length ≤ t * rs.length + j := m3
      omega
    · obtain ⟨a, b, c⟩ := f.ld e z
      exact ⟨a, b, by omega⟩
  · by_cases e : l.p.headD 0 < j
    · exact keep h l b (f.b2 h l b hl e)
    · obtain ⟨e1, m', mf', e2⟩ := bf_head f hq b hl (by omega)
      have same : m' = m := by
        have := key_one f.nd mf' mf rfl
        exact (Prod.mk.inj this).2
      refine (hG _).mpr (.inl ?_)
      rw [e2, ← e1, same]
theorem putE_iff (F : List Ent) (e : Ent) (y : Str × Lb) : y ∈ enL (putE F e) ↔ (y = (e.h, e.l) ∨ (y ∈ enL F ∧ y.1 ≠ e.h)) := by
  unfold enL putE
  by_cases k : e.h ∈ F.map (·.h)
  · rw [if_pos k, List.map_map]
    constructor
    · intro h
      obtain ⟨x, hx, rfl⟩ := List.mem_map.mp h
      show ((if x.h = e.h then e else x).h, (if x.h = e.h then e else x).l) = _ ∨ _
      by_cases z : x.h = e.h
      · rw [if_pos z]
        exact .inl rfl
      · simp only [Function.comp, if_neg z]
        exact .inr ⟨List.mem_map.mpr ⟨x, hx, rfl⟩, z⟩
    · rintro (rfl | ⟨h, n⟩)
      · obtain ⟨x, hx, hk⟩ := List.mem_map.mp k
        exact List.mem_map.mpr ⟨x, hx, by show ((if x.h = e.h then e else x).h, (if x.h = e.h then e else x).l) = _; rw [if_pos hk]⟩
      · obtain ⟨x, hx, rfl⟩ := List.mem_map.mp h
        exact List.mem_map.mpr ⟨x, hx, by show ((if x.h = e.h then e else x).h, (if x.h = e.h then e else x).l) = _; rw [if_neg n]⟩
  · rw [if_neg k, List.map_append, List.mem_append]
    constructor
    · rintro (h | h)
      · refine .inr ⟨h, fun z => k ?_⟩
        obtain ⟨x, hx, rfl⟩ := List.mem_map.mp h
        exact List.mem_map.mpr ⟨x, hx, z⟩
      · exact .inl (by simpa using h)
    · rintro (h | ⟨h, _⟩)
      · exact .inr (by simpa using h)
      · exact .inl h
theorem putE_nd {F : List Ent} {e : Ent} (nd : (F.map (·.h)).Nodup) : ((putE F e).map (·.h)).Nodup := by
  rw [putE_keys]
  by_cases k : e.h ∈ F.map (·.h)
  · rw [if_pos k]
    exact nd
  · rw [if_neg k, List.nodup_append]
    refine ⟨nd, by simp, fun a ha b hb z => k ?_⟩
    obtain rfl : b = e.h := by simpa using hb
    rw [← z]
    exact ha
def En3 (K : PySem.W.Frag) (H : Hp) (e : Ent) : Prop := SqT K H e.a [.int (e.l.p.length : Nat), .int e.l.t, .ref e.b] ∧ SqT K H e.b (natsV e.l.p)
theorem En3.ex {K : PySem.W.Frag} {H H' : Hp} {e : Ent} (h : En3 K H e) (x : Evl.Ex H H') : En3 K H' e := ⟨sqt_ex h.1 x, sqt_ex h.2 x⟩
theorem En3.put {K : PySem.W.Frag} {H : Hp} {b : Addr} {kvs : List (Key × V)} {u : HO} {e : Ent} (h : En3 K H e) (hb : H b = some (.dK kvs)) : En3 K (upd H b u) e := ⟨sqt_put h.1 hb (.dK _), sqt_put h.2 hb (.dK _)⟩
theorem En3.dr {K : PySem.W.Frag} {H : Hp} {e : Ent} (h : En3 K H e) : Dr K H (.ref e.a) (lb3D (e.l.p.length : Nat) e.l) := .tup h.1 (.cons (.int _) (.cons (.int _) (.cons (dr_row h.2) .nil)))
theorem lt3_data (a b : Lb) : PySem.W.dataLt (lb3D (a.p.length : Nat) a) (lb3D (b.p.length : Nat) b) = lt3 a b := dataLt_lb3 _ _ _ _
def spWays (K : PySem.W.Frag) : Sp := fun vs H Q _ => ∃ (pl : Addr) (rq : List (Addr × RD)) (hs : List Str) (g : Str), vs = [.ref pl, .int (hs.length : Nat), .str g] ∧ H pl = some (.lst (rqV rq)) ∧ (∀ q ∈ rq, H q.1 = some (.tup q.2.vs)) ∧ rq.length ≤ 16 ∧ HsOk hs ∧ (∀ q ∈ rq, q.2.ok hs) ∧ g ∈ hs ∧
  ∀ (d : Addr) (kvs : List (Key × V)) (H' : Hp), Evl.Ex H H' → H d = none → H' d = some (.dK kvs) → (∀ h ∈ hs, ∀ l, Best (rq.map (·.2)) h g l → ∃ b, valV kvs (.inr h) = some (.ref b) ∧ SqT K H' b (natsV l.p)) → Q (.ref d) H'
end TP

namespace TP
open PySem PySem.Spec PyProof.Rows L2
/-! ### the leaves' counts, found by the law -/
def spCounts (K : PySem.W.Frag) : Sp := fun vs H Q _ => ∃ (t ha sa pa ea : Addr) (hs : List Str) (ss : List (Str × Str)) (rq : List (Addr × RD)) (bn : Int) (h : Str), vs = [.ref t, .str h] ∧ SqT K H t [.ref ha, .ref sa, .ref pa, .int bn, .ref ea] ∧ Wide H ha sa pa ea hs ss rq ∧ WOk hs ss rq bn ∧ h ∈ hs ∧
  ∀ (r la ca : Addr) (H' : Hp), Evl.Ex H H' → H' r = some (.tup [.ref la, .ref ca]) → H' la = some (.lst ((leaves (rq.map (·.2)) h).map kV)) → H' ca = some (.lst (natsV (cnts ⟨hs, ss, rq, bn, []⟩ h))) → H la = none → H ca = none → la ≠ ca → Q (.ref r) H'
theorem own_len (ss : List (Str × Str)) (g : Str) : (((List.range ss.length).filter fun i => decide ((ss[i]?).map (·.2) = some g)).length) = (ss.map (·.2)).count g := by
  suffices ∀ i, i ≤ ss.length → (((List.range i).filter fun i => decide ((ss[i]?).map (·.2) = some g)).length) = ((ss.take i).map (·.2)).count g by
    have := this ss.length (Nat.le_refl _)
    rwa [List.take_length] at this
  intro i
  induction i with
  | zero => intro _; rfl
  | succ i ih =>
    intro hi
    have hq : ss[i]? = some ss[i] := List.getElem?_eq_getElem (by omega)
    rw [range_filter_succ, List.length_append, ih (by omega), List.take_succ, hq, List.map_append, List.count_append]
    congr 1
    show List.length (if decide (some ss[i].2 = some g) = true then [i] else []) = List.count g [ss[i].2]
    by_cases e : ss[i].2 = g
    · rw [if_pos (decide_eq_true (by rw [e])), e]
      simp
    · rw [if_neg (by simpa using e), List.count_eq_zero_of_not_mem (by simpa using fun z => e z.symm)]
      rfl
theorem eqV_kV : ∀ a b : Key, eqV (kV a) (kV b) = decide (a = b)
  | .inl x, .inl y => by
    show (x == y) = _
    by_cases e : x = y
    · simp [e]
    · simp [e]
  | .inr x, .inr y => by
    show (x == y) = _
    by_cases e : x = y
    · simp [e]
    · simp [e]
  | .inl x, .inr y => by simp [kV, eqV]
  | .inr x, .inl y => by simp [kV, eqV]
theorem flat_kV (a : Key) : flatV (kV a) = true := by cases a <;> rfl
theorem at_nd {α : Type} {ks : List α} {k : α} (nd : ks.Nodup) (h : k ∈ ks) : ∃ j, ks[j]? = some k ∧ ∀ (m : Nat) (x : α), m < j → ks[m]? = some x → x ≠ k := by
  obtain ⟨j, hj, e⟩ := List.mem_iff_getElem.mp h
  refine ⟨j, by rw [List.getElem?_eq_getElem hj, e], fun m x hm hx z => ?_⟩
  obtain ⟨hm2, e2⟩ := List.getElem?_eq_some_iff.mp hx
  have := (List.getElem_inj nd).mp ((e2.trans z).trans e.symm)
  omega
theorem set_map {α β : Type} [DecidableEq α] {f g : α → β} {k : α} : ∀ {ks : List α} {j : Nat}, ks.Nodup → ks[j]? = some k → (∀ x ∈ ks, x ≠ k → g x = f x) → (ks.map f).set j (g k) = ks.map g
  | [], _, _, h, _ => by cases h
  | x :: ks, 0, nd, h, e => by
    have hx : x = k := Option.some.inj h
    subst hx
    have nd := (List.nodup_cons.mp nd).1
    show g x :: ks.map f = g x :: ks.map g
    rw [List.map_congr_left fun y hy => (e y (List.mem_cons_of_mem _ hy) fun z => nd (z ▸ hy)).symm]
  | x :: ks, j + 1, nd, h, e => by
    have n2 := List.nodup_cons.mp nd
    have h : ks[j]? = some k := h
    show f x :: (ks.map f).set j (g k) = g x :: ks.map g
    rw [set_map n2.2 h fun y hy => e y (List.mem_cons_of_mem _ hy), e x List.mem_cons_self fun z => n2.1 (z ▸ List.mem_of_getElem? h)]
def spJoined (K : PySem.W.Frag) : Sp := fun vs H Q _ => ∃ (p : Addr) (cs : List Nat) (b : Nat), vs = [.ref p, .int (b : Int)] ∧ H p = some (.lst (natsV cs)) ∧ 2 ≤ b ∧ 1 ≤ cs.length ∧ cs.length ≤ 20 ∧ ∀ q H', Evl.Ex H H' → H q = none → H' q = some (.lst (natsV (depthsOf cs b))) → Q (.ref q) H'
end TP

namespace TP
open PySem PySem.Spec PyProof.Rows L2
/-! ### joinings, one node at a time -/
def nd2 (a : Nd) : PyData := .tuple [.int (a.c : Int), .int (a.f : Int)]
theorem nd2_lt (a b : Nd) : PySem.W.dataLt (nd2 a) (nd2 b) = decide ((a.c : Int) < (b.c : Int) ∨ ((a.c : Int) = b.c ∧ (a.f : Int) < b.f)) := PySem.W.dataLt_ii _ _ _ _
theorem ndLe_two {a b : Nd} (h : ndLe a b = true) : PySem.W.dataLt (nd2 b) (nd2 a) = false := by
  rw [nd2_lt]
  refine decide_eq_false fun z => ?_
  have h : (!PySem.W.dataLt (ndD b) (ndD a)) = true := h
  rw [Bool.not_eq_true'] at h
  unfold ndD at h
  rw [PySem.W.dataLt_tuple, PySem.W.dataLt_cons (by rfl)] at h
  rcases z with z | ⟨z1, z2⟩
  · rw [if_neg (by simp [PyData.eqv]; omega), PySem.W.dataLt_int] at h
    exact absurd z (of_decide_eq_false h)
  · rw [if_pos (by simp [PyData.eqv]; omega), PySem.W.dataLt_cons (by rfl), if_neg (by simp [PyData.eqv]; omega), PySem.W.dataLt_int] at h
    exact absurd z2 (of_decide_eq_false h)
theorem ndLe_trans (a b c : Nd) : ndLe a b = true → ndLe b c = true → ndLe a c = true := (PySem.W.sortLe_total (listOrd itemOrd) false fun x => PySem.W.keyToks (ndD x)).trans a b c
theorem ndLe_total (a b : Nd) : (ndLe a b || ndLe b a) = true := Bool.or_eq_true_iff.mpr ((PySem.W.sortLe_total (listOrd itemOrd) false fun x => PySem.W.keyToks (ndD x)).total a b)
theorem nd_sorted (E : List Nd) : (E.mergeSort ndLe).Pairwise fun a b => ndLe a b = true := List.pairwise_mergeSort ndLe_trans ndLe_total E
theorem nd2_eqv (a b : Nd) : PyData.eqv (nd2 a) (nd2 b) = (decide (a.c = b.c) && decide (a.f = b.f)) := by
  unfold nd2
  have e : ∀ m n : Nat, ((m : Int) == (n : Int)) = decide (m = n) := fun m n => by
    by_cases h : m = n
    · simp [h]
    · rw [decide_eq_false h]
      exact beq_false_of_ne fun z => h (by omega)
  simp only [PyData.eqv, PyData.eqvAll, Bool.and_true]
  rw [e, e]
theorem nd_of_map {α β : Type} (f : α → β) : ∀ {l : List α}, (l.map f).Nodup → l.Nodup
  | [], _ => List.nodup_nil
  | x :: l, h => by
    rw [List.map_cons, List.nodup_cons] at h
    exact List.nodup_cons.mpr ⟨fun z => h.1 (List.mem_map.mpr ⟨x, z, rfl⟩), nd_of_map f h.2⟩
theorem key_f {E : List Nd} (nd : (E.map (·.f)).Nodup) : ∀ {a b : Nd}, a ∈ E → b ∈ E → a.f = b.f → a = b := by
  intro a b ha hb e
  obtain ⟨i, hi, rfl⟩ := List.mem_iff_getElem.mp ha
  obtain ⟨j, hj, rfl⟩ := List.mem_iff_getElem.mp hb
  have : i = j := (List.getElem_inj (h₀ := by rw [List.length_map]; exact hi) (h₁ := by rw [List.length_map]; exact hj) nd).mp (by rw [List.getElem_map, List.getElem_map]; exact e)
  subst this
  rfl
theorem sort_uniq {E F : List Nd} (nd : (E.map (·.f)).Nodup) (p : E.Perm F) : E.mergeSort ndLe = F.mergeSort ndLe := by
  refine List.Perm.eq_of_pairwise (le := fun a b => ndLe a b = true) (fun a b ha hb h1 h2 => ?_) (nd_sorted E) (nd_sorted F) ?_
  · have ha := (List.mergeSort_perm E ndLe).mem_iff.mp ha
    have hb := p.mem_iff.mpr ((List.mergeSort_perm F ndLe).mem_iff.mp hb)
    have a1 := ndLe_two h1
    have a2 := ndLe_two h2
    rw [nd2_lt] at a1 a2
    have a1 := of_decide_eq_false a1
    have a2 := of_decide_eq_false a2
    exact key_f nd ha hb (by omega)
  · exact (List.mergeSort_perm E ndLe).trans (p.trans (List.mergeSort_perm F ndLe).symm)
theorem erase_perm {α : Type} : ∀ {l : List α} {i : Nat} {x : α}, l[i]? = some x → l.Perm (x :: l.eraseIdx i)
  | [], _, _, h => by cases h
  | y :: l, 0, x, h => by
    obtain rfl : y = x := Option.some.inj h
    exact List.Perm.refl _
  | y :: l, i + 1, x, h => ((erase_perm (l := l) (i := i) h).cons y).trans (List.Perm.swap x y _)
/-- one node is picked -/
theorem pick_at {S X : List NdE} {k : Nat} {e : NdE} (hs : S.Pairwise fun a b => ndLe a.n b.n = true) (nd : (S.map (·.n.f)).Nodup) (p : X.Perm (S.drop k)) (he : S[k]? = some e) :
    ∃ j, X[j]? = some e ∧ (∀ c ∈ X, PySem.W.dataLt (nd2 c.n) (nd2 e.n) = false) ∧ (∀ (m : Nat) (x : NdE), m < j → X[m]? = some x → PyData.eqv (nd2 x.n) (nd2 e.n) = false) ∧ (∀ x ∈ X, PyData.eqv (nd2 x.n) (nd2 e.n) = true → x = e) ∧ (X.eraseIdx j).Perm (S.drop (k + 1)) := by
  obtain ⟨hk, ek⟩ := List.getElem?_eq_some_iff.mp he
  have dk : S.drop k = e :: S.drop (k + 1) := by rw [List.drop_eq_getElem_cons hk, ek]
  have pd : (S.drop k).Pairwise fun a b => ndLe a.n b.n = true := List.Pairwise.sublist (List.drop_sublist k S) hs
  have nk : ((S.drop k).map (·.n.f)).Nodup := List.Nodup.sublist ((List.drop_sublist k S).map _) nd
  have nx : (X.map (·.n.f)).Nodup := (p.map (·.n.f)).nodup_iff.mpr nk
  rw [dk] at pd p
  have em : e ∈ X := p.mem_iff.mpr List.mem_cons_self
  have xnd : X.Nodup := nd_of_map _ nx
  obtain ⟨j, hj, hjn⟩ := at_nd xnd em
  have one : ∀ x ∈ X, PyData.eqv (nd2 x.n) (nd2 e.n) = true → x = e := fun x hx h => by
    rw [nd2_eqv, Bool.and_eq_true] at h
    obtain ⟨i, hi, rfl⟩ := List.mem_iff_getElem.mp hx
    obtain ⟨i', hi', e'⟩ := List.mem_iff_getElem.mp em
    have : i = i' := (List.getElem_inj (h₀ := by rw [List.length_map]; exact hi) (h₁ := by rw [List.length_map]; exact hi') nx).mp (by rw [List.getElem_map, List.getElem_map, e']; exact of_decide_eq_true h.2)
    subst this
    exact e'
  refine ⟨j, hj, fun c hc => ?_, fun m x hm hx => ?_, one, ?_⟩
  · rcases List.mem_cons.mp (p.mem_iff.mp hc) with rfl | hc
    · exact lex_irrefl _
    · exact ndLe_two ((List.pairwise_cons.mp pd).1 c hc)
  · cases q : PyData.eqv (nd2 x.n) (nd2 e.n) with
    | false => rfl
    | true => exact absurd (one x (List.mem_of_getElem? hx) q) (hjn m x hm hx)
  · exact ((erase_perm hj).symm.trans p).cons_inv
structure FInv (E : List Nd) : Prop where
  m : ∀ e ∈ E, e.f ∈ e.ls
  n : (E.flatMap (·.ls)).Nodup
theorem FInv.perm {E F : List Nd} (h : FInv E) (p : F.Perm E) : FInv F := ⟨fun e he => h.m e (p.mem_iff.mp he), (p.flatMap_right _).nodup_iff.mpr h.n⟩
theorem FInv.nd : ∀ {E : List Nd}, FInv E → (E.map (·.f)).Nodup
  | [], _ => List.nodup_nil
  | e :: E, h => by
    have hn := h.n
    rw [List.flatMap_cons, List.nodup_append] at hn
    rw [List.map_cons, List.nodup_cons]
    refine ⟨fun z => ?_, FInv.nd ⟨fun x hx => h.m x (List.mem_cons_of_mem _ hx), hn.2.1⟩⟩
    obtain ⟨x, hx, ex⟩ := List.mem_map.mp z
    refine hn.2.2 e.f (h.m e List.mem_cons_self) x.f (List.mem_flatMap.mpr ⟨x, hx, h.m x (List.mem_cons_of_mem _ hx)⟩) ex.symm
theorem FInv.step {E : List Nd} {m : Nat} (h : FInv E) (ne : (E.take m).flatMap (·.ls) ≠ []) : FInv (E.drop m ++ [joined (E.take m)]) := by
  refine ⟨fun e he => ?_, ?_⟩
  · rcases List.mem_append.mp he with z | z
    · exact h.m e (List.mem_of_mem_drop z)
    · obtain rfl : e = joined (E.take m) := by simpa using z
      exact (minN_mem ne).1
  · have p : (E.drop m ++ [joined (E.take m)]).flatMap (·.ls) = (E.drop m).flatMap (·.ls) ++ (E.take m).flatMap (·.ls) := by
      rw [List.flatMap_append]
      congr 1
      simp [joined]
    rw [p]
    have q : ((E.drop m).flatMap (·.ls) ++ (E.take m).flatMap (·.ls)).Perm ((E.take m).flatMap (·.ls) ++ (E.drop m).flatMap (·.ls)) := List.perm_append_comm
    have q2 : (E.take m).flatMap (·.ls) ++ (E.drop m).flatMap (·.ls) = E.flatMap (·.ls) := by rw [← List.flatMap_append, List.take_append_drop]
    rw [q2] at q
    exact q.nodup_iff.mpr h.n
theorem finv0 (cs : List Nat) : FInv (nds0 cs) := by
  refine ⟨fun e he => ?_, ?_⟩
  · obtain ⟨i, hi⟩ := List.mem_iff_getElem?.mp he
    obtain ⟨c, h1, rfl⟩ := nds0_at hi
    exact List.mem_cons_self
  · have : (nds0 cs).flatMap (·.ls) = List.range cs.length := by
      rw [List.flatMap_def]
      have : (nds0 cs).map (·.ls) = (List.range cs.length).map fun i => [i] := by
        refine List.ext_getElem? fun i => ?_
        unfold nds0
        rw [List.getElem?_map, List.getElem?_mapIdx, List.getElem?_map]
        by_cases h : i < cs.length
        · rw [List.getElem?_eq_getElem h, List.getElem?_range h]
          rfl
        · rw [List.getElem?_eq_none (by omega), List.getElem?_eq_none (by rw [List.length_range]; omega)]
          rfl
      rw [this]
      generalize cs.length = n
      rw [← List.flatMap_def]
      simp
    rw [this]
    exact List.nodup_range
/-- how many are joined, and that there are so many -/
def Mny (b r m : Nat) : Prop := r ≤ 1 ∨ (2 ≤ m ∧ m ≤ r ∧ (r - m) % (b - 1) = 0)
theorem mny0 {b n : Nat} (h : 2 ≤ n) (hb : 2 ≤ b) : Mny b n ((n - 2) % (b - 1) + 2) := by
  refine .inr ⟨by omega, ?_, ?_⟩
  · have := Nat.mod_le (n - 2) (b - 1)
    omega
  · have h1 := Nat.div_add_mod (n - 2) (b - 1)
    have : n - ((n - 2) % (b - 1) + 2) = (b - 1) * ((n - 2) / (b - 1)) := by omega
    rw [this, Nat.mul_mod_right]
theorem Mny.step {b r m : Nat} (hb : 2 ≤ b) (h : Mny b r m) (h1 : ¬ r ≤ 1) : Mny b (r - m + 1) b := by
  rcases h with h | ⟨h2, h3, h4⟩
  · exact absurd h h1
  · rcases Nat.eq_zero_or_pos (r - m) with z | z
    · exact .inl (by omega)
    · obtain ⟨q, hq⟩ := Nat.dvd_of_mod_eq_zero h4
      cases q with
      | zero => rw [Nat.mul_zero] at hq; omega
      | succ q =>
        rw [Nat.mul_succ] at hq
        refine .inr ⟨hb, by omega, ?_⟩
        have : r - m + 1 - b = (b - 1) * q := by omega
        rw [this, Nat.mul_mod_right]
end TP

namespace TP
open PySem PySem.Spec PyProof.Rows L2
/-! ### the pairs of count and first place, and the least one -/
structure Tw (K : PySem.W.Frag) (H : Hp) (as : List Addr) (X : List NdE) : Prop where
  l : as.length = X.length
  at_ : ∀ (j : Nat) (a : Addr) (e : NdE), as[j]? = some a → X[j]? = some e → SqT K H a [.int (e.n.c : Int), .int (e.n.f : Int)]
theorem Tw.ex {K : PySem.W.Frag} {H H' : Hp} {as : List Addr} {X : List NdE} (h : Tw K H as X) (x : Evl.Ex H H') : Tw K H' as X := ⟨h.l, fun j a e h1 h2 => sqt_ex (h.at_ j a e h1 h2) x⟩
theorem Tw.nil {K : PySem.W.Frag} {H : Hp} : Tw K H [] [] := ⟨rfl, fun j a e h _ => by cases h⟩
theorem Tw.snoc {K : PySem.W.Frag} {H : Hp} {as : List Addr} {X : List NdE} {i : Nat} {a : Addr} {e : NdE} (h : Tw K H as (X.take i)) (he : X[i]? = some e) (ha : SqT K H a [.int (e.n.c : Int), .int (e.n.f : Int)]) : Tw K H (as ++ [a]) (X.take (i + 1)) := by
  have tk : X.take (i + 1) = X.take i ++ [e] := by rw [List.take_succ, he]; rfl
  rw [tk]
  refine ⟨by rw [List.length_append, List.length_append, h.l]; rfl, fun j b c h1 h2 => ?_⟩
  rcases snoc_at h1 with z | ⟨z1, z2⟩
  · have jl := (List.getElem?_eq_some_iff.mp z).1
    rw [List.getElem?_append_left (by rw [← h.l]; exact jl)] at h2
    exact h.at_ j b c z h2
  · rw [z1, h.l, List.getElem?_append_right (Nat.le_refl _), Nat.sub_self] at h2
    obtain rfl : e = c := Option.some.inj h2
    rw [z2]
    exact ha
theorem dr_nd2 {K : PySem.W.Frag} {H : Hp} {a : Addr} {n : Nd} (h : SqT K H a [.int (n.c : Int), .int (n.f : Int)]) : Dr K H (.ref a) (nd2 n) := .tup h (.cons (.int _) (.cons (.int _) .nil))
theorem dp_nd2 {K : PySem.W.Frag} {H : Hp} {a : Addr} {n : Nd} (h : SqT K H a [.int (n.c : Int), .int (n.f : Int)]) : Dp K H (.ref a) (nd2 n) := .tup h (.cons (.int _) (.cons (.int _) .nil))
theorem min_by {K : PySem.W.Frag} {H : Hp} {D : Addr} {as : List Addr} {X : List NdE} {e : NdE} {Q : VK} (hD : H D = some (.lst (as.map V.ref))) (tw : Tw K H as X) (em : e ∈ X) (le : ∀ c ∈ X, PySem.W.dataLt (nd2 c.n) (nd2 e.n) = false)
    (k : ∀ a, SqT K H a [.int (e.n.c : Int), .int (e.n.f : Int)] → Q (.ref a) H) : rMinD K [.ref D] H Q := by
  have at_ : ∀ b ∈ (as.zip X).map (fun q => (V.ref q.1, nd2 q.2.n)), ∃ a x, b = (V.ref a, nd2 x.n) ∧ x ∈ X ∧ SqT K H a [.int (x.n.c : Int), .int (x.n.f : Int)] := fun b hb => by
    obtain ⟨q, hq, rfl⟩ := List.mem_map.mp hb
    obtain ⟨j, hj⟩ := List.mem_iff_getElem?.mp hq
    rw [List.getElem?_zip_eq_some] at hj
    exact ⟨q.1, q.2, rfl, List.mem_of_getElem? hj.2, tw.at_ j _ _ hj.1 hj.2⟩
  refine ⟨D, (as.zip X).map (fun q => (V.ref q.1, nd2 q.2.n)), rfl, ?_, ?_, fun b hb => ?_, fun b hb c hc => ?_, fun b hb mn => ?_⟩
  · have : ((as.zip X).map (fun q => (V.ref q.1, nd2 q.2.n))).map (·.1) = as.map V.ref := by
      rw [List.map_map]
      have : (Prod.fst ∘ fun q : Addr × NdE => (V.ref q.1, nd2 q.2.n)) = V.ref ∘ Prod.fst := rfl
      rw [this, ← List.map_map, List.map_fst_zip (by rw [tw.l]; exact Nat.le_refl _)]
    rw [this]
    exact SqL.of hD
  · have := List.length_pos_of_mem em
    have tl := tw.l
    intro z
    have z := congrArg List.length z
    rw [List.length_map, List.length_zip, List.length_nil] at z
    omega
  · obtain ⟨a, x, rfl, _, h⟩ := at_ b hb
    refine ⟨dr_nd2 h, ?_, fun z => nomatch z⟩
    unfold nd2
    simp only [PyData.depth, PyData.depthAll]
    decide
  · obtain ⟨a, x, rfl, _, _⟩ := at_ b hb
    obtain ⟨a', x', rfl, _, _⟩ := at_ c hc
    unfold nd2
    simp [PySem.W.alike, PySem.W.alikeAll]
  · obtain ⟨a, x, rfl, hx, h⟩ := at_ b hb
    obtain ⟨j, hj⟩ := List.mem_iff_getElem?.mp em
    obtain ⟨a', ha'⟩ : ∃ a', as[j]? = some a' := ⟨_, List.getElem?_eq_getElem (by rw [tw.l]; exact (List.getElem?_eq_some_iff.mp hj).1)⟩
    have m1 := mn (V.ref a', nd2 e.n) (List.mem_map.mpr ⟨(a', e), List.mem_iff_getElem?.mpr ⟨j, by rw [List.getElem?_zip_eq_some]; exact ⟨ha', hj⟩⟩, rfl⟩)
    have m2 := le x hx
    rw [nd2_lt] at m1 m2
    have m1 := of_decide_eq_false m1
    have m2 := of_decide_eq_false m2
    have e1 : (x.n.c : Int) = e.n.c := by omega
    have e2 : (x.n.f : Int) = e.n.f := by omega
    rw [e1, e2] at h
    exact k a h
theorem lay_nd2 : ∀ X : List NdE, PyData.canLayAll0 (X.map fun e => nd2 e.n) = true
  | [] => rfl
  | x :: X => by
    rw [List.map_cons]
    show (PyData.canLay0 (nd2 x.n) && PyData.canLayAll0 _) = true
    rw [lay_nd2 X]
    rfl
theorem deep_nd2 : ∀ X : List NdE, PyData.depthAll (X.map fun e => nd2 e.n) ≤ 5
  | [] => by simp [PyData.depthAll]
  | x :: X => by
    rw [List.map_cons]
    have ih := deep_nd2 X
    simp only [PyData.depthAll, nd2, PyData.depth]
    have : (fun e : NdE => nd2 e.n) = fun e : NdE => PyData.tuple [.int (e.n.c : Int), .int (e.n.f : Int)] := rfl
    rw [this] at ih
    omega
theorem dpall_nd2 {K : PySem.W.Frag} {H : Hp} : ∀ {as : List Addr} {X : List NdE}, Tw K H as X → DpAll K H (as.map V.ref) (X.map fun e => nd2 e.n)
  | [], [], _ => .nil
  | a :: as, x :: X, h => .cons (dp_nd2 (h.at_ 0 a x rfl rfl)) (dpall_nd2 ⟨Nat.succ.inj h.l, fun j b c h1 h2 => h.at_ (j + 1) b c h1 h2⟩)
  | [], x :: X, h => nomatch h.l
  | a :: as, [], h => nomatch h.l
theorem index_by {K : PySem.W.Frag} {H : Hp} {D a : Addr} {as : List Addr} {X : List NdE} {e : NdE} {j : Nat} {Q : VK} (hD : H D = some (.lst (as.map V.ref))) (tw : Tw K H as X) (ha : SqT K H a [.int (e.n.c : Int), .int (e.n.f : Int)]) (hj : X[j]? = some e)
    (hjn : ∀ (m : Nat) (x : NdE), m < j → X[m]? = some x → PyData.eqv (nd2 x.n) (nd2 e.n) = false) (k : Q (.int (j : Nat)) H) : rIndexD K (.ref D) [.ref a] H Q := by
  refine ⟨D, .ref a, nd2 e.n, X.map fun e => nd2 e.n, j, nd2 e.n, rfl, rfl, .lst (SqL.of hD) (dpall_nd2 tw), dp_nd2 ha, ?_, ?_, by rw [List.getElem?_map, hj]; rfl, ?_, fun m z hm hz => ?_, k⟩
  · unfold SeqAt.shaped
    have := deep_nd2 X
    rw [show PyData.canLay0 (.list (X.map fun e => nd2 e.n)) = PyData.canLayAll0 (X.map fun e => nd2 e.n) from rfl, lay_nd2, Bool.true_and]
    refine decide_eq_true ?_
    simp only [PyData.depth]
    omega
  · unfold SeqAt.shaped nd2
    simp only [PyData.depth, PyData.depthAll]
    rfl
  · rw [nd2_eqv, decide_eq_true rfl, decide_eq_true rfl]
    rfl
  · obtain ⟨x, hx, rfl⟩ := map_at hz
    exact hjn m x hm hx
def hh (a b : Addr) (H : Hp) : Hp := hid a (hid b H)
theorem hh_ex {a b : Addr} {H : Hp} : Evl.Ex (hh a b H) H := hid_ex.trans hid_ex
theorem Ex.hh {a b : Addr} {H H' : Hp} (e : Evl.Ex H H') : Evl.Ex (hh a b H) (hh a b H') := Ex.hid (Ex.hid e)
theorem hh_of {a b c : Addr} {H : Hp} {o : HO} (h : H c = some o) (n1 : c ≠ a) (n2 : c ≠ b) : hh a b H c = some o := hid_of (hid_of h n2) n1
theorem hh_updB {a b : Addr} {H : Hp} {o : HO} : hh a b (upd H b o) = hh a b H := by
  unfold hh
  rw [hid_upd]
theorem hh_updA {a b : Addr} {H : Hp} {o : HO} : hh a b (upd H a o) = hh a b H := by
  funext c
  unfold hh hid
  by_cases h1 : c = a
  · rw [if_pos h1, if_pos h1]
  · rw [if_neg h1, if_neg h1, upd_ne h1]
theorem erase_map {α β : Type} (f : α → β) : ∀ (l : List α) (i : Nat), (l.map f).eraseIdx i = (l.eraseIdx i).map f
  | [], _ => rfl
  | x :: l, 0 => rfl
  | x :: l, i + 1 => congrArg (f x :: ·) (erase_map f l i)
def NdL (K : PySem.W.Frag) (H : Hp) (e : NdE) : Prop := SqT K H e.t [.int (e.n.c : Int), .int (e.n.f : Int), .ref e.la] ∧ H e.la = some (.lst (natsV e.n.ls))
theorem NdL.ex {K : PySem.W.Frag} {H H' : Hp} {e : NdE} (h : NdL K H e) (x : Evl.Ex H H') : NdL K H' e := ⟨sqt_ex h.1 x, x _ _ h.2⟩
end TP
namespace TP
open PySem PySem.Spec PyProof.Rows L2
theorem fm_all (xs : List V) : ((List.range xs.length).filter fun _ => true).map (fun i => (xs[i]?).getD .non) = xs := by
  rw [List.filter_eq_self.mpr fun _ _ => rfl]
  refine List.ext_getElem (by simp) fun i h1 h2 => ?_
  simp at h1
  simp [h1]
def natD (xs : List Nat) : PyData := .list (xs.map nD)
theorem dr_natD {K : PySem.W.Frag} {H : Hp} {a : Addr} {xs : List Nat} (h : SqL K H a (natsV xs)) : Dr K H (.ref a) (natD xs) := .lst h (dr_nats xs)
theorem lay_natD (xs : List Nat) : (natD xs).canLay0 = true := lay_nats xs
theorem depth_natD (xs : List Nat) : (natD xs).depth ≤ 40 := by
  unfold natD
  simp only [PyData.depth, depth_nats]
  decide
theorem eqL_nat {K : PySem.W.Frag} {H : Hp} {a b : Addr} {xs : List Nat} {neg : Bool} {Q : VK} (ha : SqL K H a (natsV xs)) (hb : SqL K H b (natsV xs)) (k : Q (.bl (if neg = true then false else true)) H) : rEqR K neg (.ref a) (.ref b) H Q := by
  refine ⟨natD xs, natD xs, dr_natD ha, dr_natD hb, lay_natD _, lay_natD _, depth_natD _, ?_⟩
  rw [SeqAt.eqv_refl _ (lay_natD xs)]
  exact k
theorem deps_at (L : LandD) (h : Str) {i : Nat} {k : Key} (hk : (leaves L.rs h)[i]? = some k) : (natsV (deps L h))[i]? = some (.int (depAt L h k : Nat)) := by
  have il := (List.getElem?_eq_some_iff.mp hk).1
  obtain ⟨d, hd⟩ : ∃ d, (deps L h)[i]? = some d := ⟨_, List.getElem?_eq_getElem (by rw [deps_len]; exact il)⟩
  unfold natsV
  rw [List.getElem?_map, hd]
  show some (V.int (d : Int)) = _
  rw [show depAt L h k = d from pickD_at (leaves_nd _ _) hk hd]
end TP

namespace TP
open PySem PySem.Spec PyProof.Rows L2
/-! ### the parts of a wide land and the well, without the land -/
structure WPt (H : Hp) (w t ha sa pa ea : Addr) (hs : List Str) (ss : List (Str × Str)) (rq : List (Addr × RD)) (bn : Int) (n : Nat) : Prop where
  wl : Wl H w n
  gt : H t = some (.tup [.ref ha, .ref sa, .ref pa, .int bn, .ref ea])
  W : Wide H ha sa pa ea hs ss rq
  n1 : ha ≠ w
  n2 : pa ≠ w
  n3 : ea ≠ w
theorem WPt.ex {H H' : Hp} {w t ha sa pa ea : Addr} {hs : List Str} {ss : List (Str × Str)} {rq : List (Addr × RD)} {bn : Int} {n : Nat} (h : WPt H w t ha sa pa ea hs ss rq bn n) (e : Evl.Ex H H') : WPt H' w t ha sa pa ea hs ss rq bn n :=
  ⟨h.wl.ex e, e _ _ h.gt, h.W.ex e, h.n1, h.n2, h.n3⟩
theorem WPt.dn {H H' : Hp} {w t ha sa pa ea : Addr} {hs : List Str} {ss : List (Str × Str)} {rq : List (Addr × RD)} {bn : Int} {n m : Nat} (h : WPt H w t ha sa pa ea hs ss rq bn n) (d : Dn w m H H') : WPt H' w t ha sa pa ea hs ss rq bn m :=
  ⟨d.wl, d.k _ _ (wl_tup h.wl h.gt) h.gt, h.W.dn h.wl d h.n1 h.n2 h.n3, h.n1, h.n2, h.n3⟩
theorem WSet.pt {K : PySem.W.Frag} {H : Hp} {w t ld ha sa pa ea u : Addr} {hs : List Str} {ss : List (Str × Str)} {rq : List (Addr × RD)} {bn : Int} {n : Nat} (h : WSet K H w t ld ha sa pa ea u hs ss rq bn n) : WPt H w t ha sa pa ea hs ss rq bn n := ⟨h.wl, h.gt, h.W, h.n1, h.n2, h.n3⟩
theorem Dn.exr {a : Addr} {m : Nat} {H H1 H2 : Hp} (x : Dn a m H H1) (e : Evl.Ex H1 H2) : Dn a m H H2 := ⟨x.wl.ex e, fun b o n h => e _ _ (x.k b o n h)⟩
theorem Dn.of {a : Addr} {m : Nat} {H H1 : Hp} (w : Wl H a m) (e : Evl.Ex H H1) : Dn a m H H1 := ⟨w.ex e, fun b o _ h => e _ _ h⟩
theorem Dn.sq {K : PySem.W.Frag} {a b : Addr} {n m : Nat} {H H' : Hp} {xs : List V} (d : Dn a m H H') (w : Wl H a n) (h : SqT K H b xs) : SqT K H' b xs := by
  obtain ⟨x0, y0, c0, hw, _⟩ := w
  exact sqt_ex (sqt_ex (sqt_hid hw (fun _ z => nomatch z) (fun _ _ z => nomatch z) h) d.hx) hid_ex
theorem eqv_row_nil (p : List Nat) : PyData.eqv (rowD p) (.tuple []) = p.isEmpty := by
  cases p with
  | nil => rfl
  | cons x xs => rfl
end TP

namespace TP
open PySem PySem.Spec PyProof.Rows L2
theorem kd_vals {K : PySem.W.Frag} {H : Hp} : ∀ {xs : List V} {ks : List Key}, DrAll K H xs (ks.map kD) → xs = ks.map kV
  | [], [], _ => rfl
  | [], _ :: _, h => by cases h
  | _ :: _, [], h => by cases h
  | x :: xs, k :: ks, h => by
    cases h with
    | cons h1 h2 =>
      rw [List.map_cons, ← kd_vals h2]
      cases k with
      | inl i => cases h1; rfl
      | inr z => cases h1; rfl
theorem keys_of {K : PySem.W.Frag} {H : Hp} : ∀ {acc : List V} {ds : List PyData}, DrAll K H acc ds → (∀ d ∈ ds, ∃ ks, d = encK ks) → ∃ bs : List (Addr × List Key), acc = bs.map (fun p => V.ref p.1) ∧ (∀ p ∈ bs, SqT K H p.1 (p.2.map kV)) ∧ ds = bs.map fun p => encK p.2
  | [], [], _, _ => ⟨[], rfl, (fun _ z => nomatch z), rfl⟩
  | [], _ :: _, h, _ => by cases h
  | _ :: _, [], h, _ => by cases h
  | x :: xs, d :: ds, h, hk => by
    cases h with
    | cons h1 h2 =>
      obtain ⟨bs, e1, e2, e3⟩ := keys_of h2 fun e he => hk e (List.mem_cons_of_mem _ he)
      obtain ⟨ks, rfl⟩ := hk d List.mem_cons_self
      cases h1 with
      | tup s a =>
        rw [kd_vals a] at s
        refine ⟨(_, ks) :: bs, by rw [List.map_cons, e1], fun p hp => ?_, by rw [List.map_cons, e3]⟩
        rcases List.mem_cons.mp hp with rfl | hp
        · exact s
        · exact e2 p hp
theorem key_dr {K : PySem.W.Frag} {H : Hp} : ∀ ks : List Key, DrAll K H (ks.map kV) (ks.map kD)
  | [] => .nil
  | .inl i :: ks => .cons (.int i) (key_dr ks)
  | .inr z :: ks => .cons (.str z) (key_dr ks)
theorem keys_dr {K : PySem.W.Frag} {H : Hp} : ∀ {bs : List (Addr × List Key)}, (∀ p ∈ bs, SqT K H p.1 (p.2.map kV)) → DrAll K H (bs.map fun p => V.ref p.1) (bs.map fun p => encK p.2)
  | [], _ => .nil
  | p :: bs, h => .cons (.tup (h p List.mem_cons_self) (key_dr p.2)) (keys_dr fun q hq => h q (List.mem_cons_of_mem _ hq))
theorem mark_key {d : PyData} (h : GMark d) : ∃ z i, d = encK [.inr z, .inl i] ∧ NmP z ∧ 0 ≤ i ∧ i < 10 ^ 29 := by
  obtain ⟨z, i, rfl, r⟩ := h
  exact ⟨z, i, rfl, r⟩
theorem encK_inj {a b : List Key} (h : encK a = encK b) : a = b := by
  unfold encK at h
  have h : a.map kD = b.map kD := by injection h
  have inj : ∀ {x y : Key}, kD x = kD y → x = y := fun {x y} e => by
    cases x <;> cases y <;> simp [kD] at e <;> rw [e]
  have key : ∀ {a b : List Key}, a.map kD = b.map kD → a = b := by
    intro a
    induction a with
    | nil =>
      intro b h
      cases b with
      | nil => rfl
      | cons _ _ => cases h
    | cons x a ih =>
      intro b h
      cases b with
      | nil => cases h
      | cons y b =>
        rw [List.map_cons, List.map_cons] at h
        injection h with h1 h2
        rw [inj h1, ih h2]
  exact key h
def Tot (a b : List Key) : Prop := ltK a b = false → ltK b a = false → a = b
theorem tot_mark (x y : Str) (i j : Int) : Tot [.inr x, .inl i] [.inr y, .inl j] := by
  intro h1 h2
  have e1 : ltK [.inr x, .inl i] [.inr y, .inl j] = if PyData.eqv (.str x) (.str y) = true then (if PyData.eqv (.int i) (.int j) = true then false else PySem.W.dataLt (.int i) (.int j)) else PySem.W.dataLt (.str x) (.str y) := PySem.W.dataLt_pair rfl rfl
  have e2 : ltK [.inr y, .inl j] [.inr x, .inl i] = if PyData.eqv (.str y) (.str x) = true then (if PyData.eqv (.int j) (.int i) = true then false else PySem.W.dataLt (.int j) (.int i)) else PySem.W.dataLt (.str y) (.str x) := PySem.W.dataLt_pair rfl rfl
  have qs : ∀ x y : Str, PyData.eqv (.str x) (.str y) = decide (x = y) := fun x y => by
    show (x == y) = _
    by_cases h : x = y
    · subst h; simp
    · rw [decide_eq_false h]; simpa using h
  have qi : ∀ i j : Int, PyData.eqv (.int i) (.int j) = decide (i = j) := fun i j => by
    show (i == j) = _
    by_cases h : i = j
    · subst h; simp
    · rw [decide_eq_false h]; simpa using h
  rw [e1] at h1
  rw [e2] at h2
  rw [qs, qi, PySem.W.dataLt_int, PySem.W.dataLt_str] at h1 h2
  by_cases c : x = y
  · subst c
    rw [if_pos (decide_eq_true rfl)] at h1 h2
    by_cases d : i = j
    · rw [d]
    · rw [if_neg (fun q => d (of_decide_eq_true q))] at h1
      rw [if_neg (fun q => d (of_decide_eq_true q).symm)] at h2
      have := of_decide_eq_false h1
      have := of_decide_eq_false h2
      omega
  · rw [if_neg (fun q => c (of_decide_eq_true q))] at h1
    rw [if_neg (fun q => c (of_decide_eq_true q).symm)] at h2
    have a := of_decide_eq_false h1
    have b := of_decide_eq_false h2
    exact absurd (str_ext (List.le_antisymm (List.not_lt.mp b) (List.not_lt.mp a))) c
theorem tot_pair (x y i j : Int) : Tot [.inl x, .inl i] [.inl y, .inl j] := by
  intro h1 h2
  have e1 : ltK [.inl x, .inl i] [.inl y, .inl j] = decide (x < y ∨ (x = y ∧ i < j)) := PySem.W.dataLt_ii x i y j
  have e2 : ltK [.inl y, .inl j] [.inl x, .inl i] = decide (y < x ∨ (y = x ∧ j < i)) := PySem.W.dataLt_ii y j x i
  rw [e1] at h1
  rw [e2] at h2
  have a := of_decide_eq_false h1
  have b := of_decide_eq_false h2
  have : x = y ∧ i = j := by omega
  rw [this.1, this.2]
theorem rising_of : ∀ {ds : List PyData}, ds.Pairwise (fun a b => PySem.W.dataLt a b = true) → risingD ds = true
  | [], _ => rfl
  | [_], _ => rfl
  | x :: y :: r, h => by
    obtain ⟨h1, h2⟩ := List.pairwise_cons.mp h
    show (PySem.W.dataLt x y && risingD (y :: r)) = true
    rw [h1 y List.mem_cons_self, rising_of h2]
    rfl
theorem sorted_rising {L : List (Addr × List Key)} (tot : ∀ p ∈ L, ∀ q ∈ L, Tot p.2 q.2) (pw : L.Pairwise fun q r => ltK r.2 q.2 = false) (nd : (L.map (·.2)).Nodup) : risingD (L.map fun p => encK p.2) = true := by
  refine rising_of (List.pairwise_map.mpr ?_)
  have nd2 := List.pairwise_map.mp nd
  refine List.Pairwise.imp_of_mem (fun {p q} hp hq h => ?_) (pw.and nd2)
  cases e : ltK p.2 q.2
  · exact absurd (tot p hp q hq e h.1) h.2
  · exact e
end TP

namespace TP
open PySem PySem.Spec PyProof.Rows L2
/-! ### drawn scans are right -/
structure Ok (B k : Nat) (d : PyData) : Prop where
  z : Sz B k d
  l : d.canLay0 = true
  t : txt d
theorem Ok.mono {B C k j : Nat} {d : PyData} (h : Ok B k d) (l : B ≤ C := by decide) (m : k ≤ j := by decide) : Ok C j d := ⟨h.z.mono l m, h.l, h.t⟩
theorem canAll : ∀ {ds : List PyData}, (∀ d ∈ ds, d.canLay0 = true) → PyData.canLayAll0 ds = true
  | [], _ => rfl
  | d :: ds, h => by rw [PyData.canLayAll0, h d List.mem_cons_self, canAll fun x hx => h x (List.mem_cons_of_mem _ hx)]; rfl
theorem okTup {B k n : Nat} {l : List PyData} (h : ∀ d ∈ l, Ok B k d) (hn : l.length ≤ n) (h1 : n < 100000 := by decide) : Ok (n * (B + 2) + 3) (k + 1) (.tuple l) :=
  ⟨Sz.tup (fun d hd => (h d hd).z) hn, canAll fun d hd => (h d hd).l, by rw [txt]; exact ⟨by omega, txtAll_of fun d hd => (h d hd).t⟩⟩
theorem okLst {B k n : Nat} {l : List PyData} (h : ∀ d ∈ l, Ok B k d) (hn : l.length ≤ n) (h1 : n < 100000 := by decide) : Ok (n * (B + 2) + 3) (k + 1) (.list l) :=
  ⟨Sz.lst (fun d hd => (h d hd).z) hn, canAll fun d hd => (h d hd).l, by rw [txt]; exact ⟨by omega, txtAll_of fun d hd => (h d hd).t⟩⟩
theorem okStr {z : Str} (h : NmP z) : Ok 100 0 (.str z) := ⟨(Sz.str h.as).mono (by decide) (by decide), h.ok, by rw [txt]; have := h.hi; omega⟩
theorem okInt {i : Int} (h0 : 0 ≤ i) (h : i < 10 ^ 100) : Ok 100 0 (.int i) := ⟨Sz.nat h0 h, rfl, by rw [txt] <;> first | trivial | (intro _ h; cases h)⟩
theorem GName.ok {d : PyData} (h : GName d) : Ok 100 0 d := by
  obtain ⟨z, rfl, hz⟩ := h
  exact okStr hz
theorem p29 : (10 : Int) ^ 29 ≤ 10 ^ 100 := by decide +kernel
theorem GNum.ok {d : PyData} (h : GNum d) : Ok 100 0 d := by
  obtain ⟨i, rfl, h0, h1⟩ := h
  exact okInt h0 (Int.lt_of_lt_of_le h1 p29)
theorem GMark.ok {d : PyData} (h : GMark d) : Ok 207 1 d := by
  obtain ⟨z, i, rfl, hz, h0, h1⟩ := h
  refine okTup (B := 100) (k := 0) (n := 2) (fun d hd => ?_) (Nat.le_refl _)
  simp only [List.mem_cons, List.not_mem_nil, or_false] at hd
  rcases hd with rfl | rfl
  · exact okStr hz
  · exact okInt h0 (Int.lt_of_lt_of_le h1 p29)
theorem GAddr.ok {d : PyData} (h : GAddr d) : Ok 207 1 d := by
  obtain ⟨y, z, rfl, hy, hz⟩ := h
  refine okTup (B := 100) (k := 0) (n := 2) (fun d hd => ?_) (Nat.le_refl _)
  simp only [List.mem_cons, List.not_mem_nil, or_false] at hd
  rcases hd with rfl | rfl
  · exact okStr hy
  · exact okStr hz
theorem GBags.ok {d : PyData} (h : GBags d) : Ok 630 2 d := by
  obtain ⟨bs, rfl, h1, h3, hb, _⟩ := h
  exact okTup (fun d hd => (hb d hd).ok) h3
theorem GLoad.ok {d : PyData} (h : GLoad d) : Ok 1899 3 d := by
  obtain ⟨r, l, b, rfl, r0, r1, l0, l1, hb⟩ := h
  have p : (100 : Int) ≤ 10 ^ 100 := by decide +kernel
  refine okTup (B := 630) (k := 2) (n := 3) (fun d hd => ?_) (Nat.le_refl _)
  simp only [List.mem_cons, List.not_mem_nil, or_false] at hd
  rcases hd with rfl | rfl | rfl
  · exact (okInt r0 (by omega)).mono
  · exact (okInt l0 (by omega)).mono
  · exact hb.ok
theorem GLoads.ok {m : Int} {d : PyData} (h : GLoads m d) : Ok 5706 4 d := by
  obtain ⟨ls, rfl, h3, _, _, hl, _⟩ := h
  exact okTup (fun d hd => (hl d hd).ok) h3
theorem GT.ok {wd : Str} {ds : List PyData} (h : GT wd ds) : (∀ d ∈ ds, Ok 5706 4 d) ∧ ds.length ≤ 6 := by
  have p : (1000 : Int) ≤ 10 ^ 100 := by decide +kernel
  have p2 : (10 : Int) ^ 30 ≤ 10 ^ 100 := by decide +kernel
  have tw : ∀ y : Str, (y = "ring" ∨ y = "due") → Ok 100 0 (.str y) := fun y hy => by
    rcases hy with rfl | rfl
    · exact okStr (isNm_iff.mp (by decide +kernel))
    · exact okStr (isNm_iff.mp (by decide +kernel))
  cases h with
  | posted a b c d e f =>
    refine ⟨fun x hx => ?_, Nat.le_refl _⟩
    simp only [List.mem_cons, List.not_mem_nil, or_false] at hx
    rcases hx with rfl | rfl | rfl | rfl | rfl | rfl
    · exact a.ok.mono
    · exact b.ok.mono
    · exact c.ok.mono
    · exact (okInt (by omega) (by omega)).mono
    · exact ⟨(Sz.bl _).mono (by decide) (by decide), rfl, by rw [txt] <;> first | trivial | (intro _ h; cases h)⟩
    · exact f.ok.mono
  | bagged a b c d e f g =>
    refine ⟨fun x hx => ?_, by simp⟩
    simp only [List.mem_cons, List.not_mem_nil, or_false] at hx
    rcases hx with rfl | rfl | rfl | rfl
    · exact a.ok.mono
    · exact (okInt (by omega) (by omega)).mono
    · exact d.ok.mono
    · exact (okTup (n := 9) (fun d hd => (g d hd).ok) f).mono
  | opened a =>
    refine ⟨fun x hx => ?_, by simp⟩
    simp only [List.mem_cons, List.not_mem_nil, or_false] at hx
    rcases hx with rfl
    exact a.ok.mono
  | shut a b c =>
    refine ⟨fun x hx => ?_, by simp⟩
    simp only [List.mem_cons, List.not_mem_nil, or_false] at hx
    rcases hx with rfl | rfl
    · exact (okInt (by omega) (by omega)).mono
    · exact c.ok.mono
  | late a b c d e =>
    refine ⟨fun x hx => ?_, by simp⟩
    simp only [List.mem_cons, List.not_mem_nil, or_false] at hx
    rcases hx with rfl | rfl | rfl
    · exact (okInt (by omega) (by omega)).mono
    · exact c.ok.mono
    · exact (okInt (by omega) (by omega)).mono
  | moved a b c d e =>
    refine ⟨fun x hx => ?_, by simp⟩
    simp only [List.mem_cons, List.not_mem_nil, or_false] at hx
    rcases hx with rfl | rfl | rfl | rfl | rfl
    · exact a.ok.mono
    · exact b.ok.mono
    · exact c.ok.mono
    · exact d.ok.mono
    · rcases e with rfl | e
      · exact ⟨Sz.non.mono (by decide) (by decide), rfl, by rw [txt] <;> first | trivial | (intro _ h; cases h)⟩
      · exact e.ok.mono
  | handed a b =>
    refine ⟨fun x hx => ?_, by simp⟩
    simp only [List.mem_cons, List.not_mem_nil, or_false] at hx
    rcases hx with rfl | rfl
    · exact a.ok.mono
    · exact b.ok.mono
  | forwarded a b =>
    refine ⟨fun x hx => ?_, by simp⟩
    simp only [List.mem_cons, List.not_mem_nil, or_false] at hx
    rcases hx with rfl | rfl
    · exact a.ok.mono
    · exact b.ok.mono
  | passed a b =>
    refine ⟨fun x hx => ?_, by simp⟩
    simp only [List.mem_cons, List.not_mem_nil, or_false] at hx
    rcases hx with rfl | rfl
    · exact a.ok
    · exact b.ok
  | sentback a b =>
    refine ⟨fun x hx => ?_, by simp⟩
    simp only [List.mem_cons, List.not_mem_nil, or_false] at hx
    rcases hx with rfl | rfl
    · exact a.ok.mono
    · exact (tw _ b).mono
  | laid a b =>
    refine ⟨fun x hx => ?_, by simp⟩
    simp only [List.mem_cons, List.not_mem_nil, or_false] at hx
    rcases hx with rfl | rfl
    · exact a.ok.mono
    · exact (tw _ b).mono
theorem GName.is {d : PyData} (h : GName d) : isNmD d = true := by
  obtain ⟨z, rfl, hz⟩ := h
  exact isNm_iff.mpr hz
theorem GNum.is {d : PyData} (h : GNum d) : isFromD d 0 = true := by
  obtain ⟨i, rfl, h0, _⟩ := h
  exact decide_eq_true h0
theorem GMark.is {d : PyData} (h : GMark d) : isMarkD d = true := by
  obtain ⟨z, i, rfl, hz, h0, _⟩ := h
  show (isNm z && decide (0 ≤ i)) = true
  rw [isNm_iff.mpr hz, decide_eq_true h0]
  rfl
theorem GAddr.is {d : PyData} (h : GAddr d) : isAdD d = true := by
  obtain ⟨y, z, rfl, hy, hz⟩ := h
  show (isNm y && isNm z) = true
  rw [isNm_iff.mpr hy, isNm_iff.mpr hz]
  rfl
theorem GBags.is {d : PyData} (h : GBags d) : areMarksD d = true ∧ risingD (itemsD d) = true := by
  obtain ⟨bs, rfl, h1, _, hb, hr⟩ := h
  refine ⟨?_, hr⟩
  show (decide (0 < bs.length) && bs.all isMarkD) = true
  rw [decide_eq_true (by omega), List.all_eq_true.mpr fun b hb' => (hb b hb').is]
  rfl
theorem GLoad.is {d : PyData} (h : GLoad d) : isLoadD d = true := by
  obtain ⟨r, l, b, rfl, r0, _, l0, _, hb⟩ := h
  show (decide (0 ≤ r) && (decide (0 ≤ l) && (areMarksD b && risingD (itemsD b)))) = true
  rw [decide_eq_true r0, decide_eq_true l0, hb.is.1, hb.is.2]
  rfl
theorem GLoads.is {m : Int} {d : PyData} (h : GLoads m d) : areLoadsD d = true := by
  obtain ⟨ls, rfl, _, _, _, hl, hr⟩ := h
  show (ls.all isLoadD && risingD (ls.map front2)) = true
  rw [List.all_eq_true.mpr fun l hl' => (hl l hl').is, hr]
  rfl
theorem GT.is {wd : Str} {ds : List PyData} (h : GT wd ds) : ∃ q, LK.find? (fun q => decide (q.w = wd)) = some q ∧ thingsD q (.tuple ds) = true := by
  cases h with
  | posted a b c d e f =>
    refine ⟨_, rfl, ?_⟩
    rename_i p t s dd wt k
    show (isMarkD p && (isAdD t && (isAdD s && ((decide (1 ≤ wt) && decide (wt ≤ 99)) && (true && isFromD dd 0))))) = true
    simp [a.is, b.is, c.is, d, e, f.is]
  | bagged a b c d e f g =>
    refine ⟨_, rfl, ?_⟩
    rename_i bb l r ps
    show (isMarkD bb && (decide (0 ≤ r) && (isFromD l 0 && (decide (0 < ps.length) && ps.all isMarkD)))) = true
    rw [a.is, decide_eq_true b, d.is, decide_eq_true (by omega), List.all_eq_true.mpr fun x hx => (g x hx).is]
    rfl
  | opened a => exact ⟨_, rfl, a.is⟩
  | shut a b c =>
    refine ⟨_, rfl, ?_⟩
    rename_i r l
    show (decide (0 ≤ r) && isFromD l 0) = true
    simp [a, c.is]
  | late a b c d e =>
    refine ⟨_, rfl, ?_⟩
    rename_i r t l
    show (decide (0 ≤ r) && (isFromD l 0 && decide (1 ≤ t))) = true
    simp [a, c.is, d]
  | moved a b c d e =>
    refine ⟨_, rfl, ?_⟩
    rename_i p s o f l
    show (isNmD p && (isNmD s && (isNmD o && (isFromD f 0 && (isNoneD l || isFromD l 0))))) = true
    rcases e with rfl | e
    · simp [a.is, b.is, c.is, d.is, isNoneD]
    · simp [a.is, b.is, c.is, d.is, e.is]
  | handed a b =>
    refine ⟨_, rfl, ?_⟩
    rename_i p d
    show (isMarkD p && isFromD d 0) = true
    rw [a.is, b.is]
    rfl
  | forwarded a b =>
    refine ⟨_, rfl, ?_⟩
    rename_i p s
    show (isMarkD p && isNmD s) = true
    rw [a.is, b.is]
    rfl
  | passed a b c d e =>
    refine ⟨_, rfl, ?_⟩
    rename_i m n cc l
    show (areLoadsD cc && (areLoadsD l && decide (0 < (itemsD cc).length + (itemsD l).length))) = true
    rw [a.is, b.is]
    obtain ⟨c1, rfl, _, _, p1, _⟩ := a
    obtain ⟨l1, rfl, _, _, p2, _⟩ := b
    show decide (0 < c1.length + l1.length) = true
    refine decide_eq_true ?_
    by_cases q : 0 < m
    · have := p1 q
      omega
    · have := p2 (by omega)
      omega
  | sentback a b =>
    refine ⟨_, rfl, ?_⟩
    rename_i p y
    show (isMarkD p && (decide (y = "ring") || decide (y = "due"))) = true
    rw [a.is]
    rcases b with rfl | rfl <;> decide +kernel
  | laid a b =>
    refine ⟨_, rfl, ?_⟩
    rename_i p y
    show (isMarkD p && (decide (y = "ring") || decide (y = "due"))) = true
    rw [a.is]
    rcases b with rfl | rfl <;> decide +kernel
theorem Parts.fine {d0 d1 d2 : PyData} {wd : Str} {ds cs : List PyData} (h : Parts d0 d1 d2 wd ds cs) : amissD d0 d1 d2 (.str wd) (.tuple ds) (.tuple cs) = none := by
  obtain ⟨q, fd, th⟩ := h.g.is
  have hc : causesD wd (.tuple ds) (.tuple cs) = true := by
    show (cs.all isMarkD && decide (cs.length = if wd = "passed" then (itemsD (ds.getD 0 .none)).length else 0)) = true
    rw [List.all_eq_true.mpr fun c hc => (h.m c hc).is, decide_eq_true h.c]
    rfl
  unfold amissD
  rw [if_neg (by rw [h.h.is]; decide), if_neg (by rw [h.n.is]; decide), if_neg (by rw [h.t.is]; decide)]
  dsimp only
  rw [fd]
  dsimp only
  rw [if_neg (by rw [th]; decide), if_neg (by rw [hc]; decide)]
theorem Parts.cs3 {d0 d1 d2 : PyData} {wd : Str} {ds cs : List PyData} (h : Parts d0 d1 d2 wd ds cs) : cs.length ≤ 3 := by
  have := h.c
  by_cases p : wd = "passed"
  · rw [if_pos p] at this
    subst p
    have g := h.g
    cases g with
    | passed a b c d e =>
      obtain ⟨ls, rfl, l3, _⟩ := a
      rw [this]
      exact l3
  · rw [if_neg p] at this
    omega
theorem Parts.ok {d0 d1 d2 : PyData} {wd : Str} {ds cs : List PyData} (h : Parts d0 d1 d2 wd ds cs) : ∀ d ∈ [d0, d1, d2, .str wd, .tuple ds, .tuple cs], Ok 34251 5 d := by
  intro d hd
  have hw : Ok 202 0 (.str wd) := by
    have g := h.g
    cases g <;> exact ⟨(Sz.str (B := 20) ⟨by decide +kernel, by decide +kernel⟩).mono (by decide) (by decide), by decide +kernel, by rw [txt]; decide +kernel⟩
  simp only [List.mem_cons, List.not_mem_nil, or_false] at hd
  rcases hd with rfl | rfl | rfl | rfl | rfl | rfl
  · exact h.h.ok.mono
  · exact h.n.ok.mono
  · exact h.t.ok.mono
  · exact hw.mono
  · exact okTup (n := 6) h.g.ok.1 h.g.ok.2
  · exact (okTup (n := 3) (fun c hc => (h.m c hc).ok) h.cs3).mono
def spRight23 (K : PySem.W.Frag) : Sp := fun vs H Q _ => ∃ (a p : Addr) (v0 v1 v2 v4 v5 u5 : V) (wd : Str) (d0 d1 d2 : PyData) (ds cs : List PyData), vs = [.ref a, .ref p] ∧ Parts d0 d1 d2 wd ds cs ∧ ScanAt K H a v0 v1 v2 (.str wd) v4 u5 ∧ H p = some (.lst [v0, v1, v2, .str wd, v4, v5]) ∧
  DrAll K H [v0, v1, v2, .str wd, v4, v5] [d0, d1, d2, .str wd, .tuple ds, .tuple cs] ∧ Dr K H u5 (.tuple cs) ∧ ∀ H', Evl.Ex H H' → Q (.bl true) H'
theorem scan_made {K : PySem.W.Frag} {H : Hp} {x dx : Addr} {y0 y1 y2 y4 y5 : V} {wd : Str} {d0 d1 d2 : PyData} {ds cs : List PyData} {Q : VK} (ps : Parts d0 d1 d2 wd ds cs) (hx : H x = none) (hdx : H dx = none) (ne : dx ≠ x)
    (da : DrAll K H [y0, y1, y2, .str wd, y4, y5] [d0, d1, d2, .str wd, .tuple ds, .tuple cs]) (k : ∀ H', Evl.Ex H H' → ScanAt K H' x y0 y1 y2 (.str wd) y4 y5 → Q .non H') :
    spScanX K [.ref x, y0, y1, y2, .str wd, y4, y5] (upd (upd H dx (.own x)) x (.ins (He.ga K "Scan") dx [])) Q (fun _ _ _ => False) := by
  have ok := ps.ok
  have e : Evl.Ex H (upd (upd H dx (.own x)) x (.ins (He.ga K "Scan") dx [])) := fun b o hb => by
    rw [upd_ne (ne_of_none hb hx), upd_ne (ne_of_none hb hdx)]
    exact hb
  have da' := DrAll.ex e _ _ da
  cases da' with
  | cons r0 da' => cases da' with
  | cons r1 da' => cases da' with
  | cons r2 da' => cases da' with
  | cons r3 da' => cases da' with
  | cons r4 da' => cases da' with
  | cons r5 da' =>
  refine ⟨x, dx, y0, y1, y2, .str wd, y4, y5, d0, d1, d2, .str wd, .tuple ds, .tuple cs, rfl, upd_same, r0, r1, r2, r3, r4, r5, (ok _ (by simp)).t, (ok _ (by simp)).t, (ok _ (by simp)).t, fun w hw nm => ?_, fun _ H' wk hx' => k H' (made_ex hx hdx wk) ⟨dx, hx'⟩, fun z hz => ?_⟩
  · exfalso
    obtain ⟨q, fd, _⟩ := ps.g.is
    refine nm (List.mem_map.mpr ⟨q, List.mem_of_find?_eq_some fd, ?_⟩)
    have := List.find?_some fd
    injection hw with hw
    rw [← hw]
    exact of_decide_eq_true this
  · rw [ps.fine] at hz
    cases hz
theorem eqv_unit {cs : List PyData} (h : PyData.eqv (.tuple cs) (.tuple []) = true) : cs = [] := by
  cases cs with
  | nil => rfl
  | cons _ _ => cases h
end TP

namespace Lw
open PySem PySem.Spec PyProof.Rows L2 TP
/-! ### the text by places (written by gen.py) -/
def top (i : Nat) : Stmt := PySem.Challenge.pw_trailpost_k24_scans_refused.main.body.getD i (.Pass ⟨0, 0, 0, 0⟩)
abbrev s_wall : Stmt := (top 0)
abbrev s_NoDeed_init : Stmt := (inClass (top 3) 0)
abbrev s_NoScan_init : Stmt := (inClass (top 4) 0)
abbrev s_Clash_init : Stmt := (inClass (top 5) 0)
abbrev s_NoText_init : Stmt := (inClass (top 6) 0)
abbrev s_is_name : Stmt := (top 10)
abbrev s_is_address : Stmt := (top 11)
abbrev s_is_whole : Stmt := (top 12)
abbrev s_is_from : Stmt := (top 13)
abbrev s_is_between : Stmt := (top 14)
abbrev s_is_mark : Stmt := (top 18)
abbrev s_are_marks : Stmt := (top 19)
abbrev s_are_rising : Stmt := (top 20)
abbrev s_is_load : Stmt := (top 21)
abbrev s_are_loads : Stmt := (top 22)
abbrev s_are_posted : Stmt := (top 23)
abbrev s_are_bagged : Stmt := (top 24)
abbrev s_are_opened : Stmt := (top 25)
abbrev s_are_shut : Stmt := (top 26)
abbrev s_are_late : Stmt := (top 27)
abbrev s_are_moved : Stmt := (top 28)
abbrev s_are_handed : Stmt := (top 29)
abbrev s_are_forwarded : Stmt := (top 30)
abbrev s_are_refused : Stmt := (top 31)
abbrev s_are_passed : Stmt := (top 32)
abbrev s_are_things : Stmt := (top 34)
abbrev s_are_causes : Stmt := (top 35)
abbrev s_Scan_init : Stmt := (inClass (top 36) 0)
abbrev s_Scan_told : Stmt := (inClass (top 36) 1)
abbrev s_Scan_key : Stmt := (inClass (top 36) 2)
abbrev s_well : Stmt := (top 38)
abbrev s_draw : Stmt := (top 39)
abbrev s_one : Stmt := (top 40)
abbrev s_law_name : Stmt := (top 41)
abbrev s_law_number : Stmt := (top 42)
abbrev s_law_mark : Stmt := (top 43)
abbrev s_law_address : Stmt := (top 44)
abbrev s_law_bags : Stmt := (top 45)
abbrev s_law_loads : Stmt := (top 46)
abbrev s_law_things : Stmt := (top 47)
abbrev s_law_drawn : Stmt := (top 48)
abbrev s_law_other : Stmt := (top 49)
abbrev s_law_odd_loads : Stmt := (top 50)
abbrev s_law_odd_things : Stmt := (top 51)
abbrev s_law_spoilt : Stmt := (top 52)
abbrev s_law_refused : Stmt := (top 53)
abbrev s_law : Stmt := (top 54)
/-! ### what each def is -/
def d_wall : He.DefD := ⟨("_wall", none), "_wall", "_wall", defArgs s_wall, defBody s_wall, defScope s_wall, [], []⟩
def d_NoDeed_init : He.DefD := ⟨("NoDeed", some "__init__"), "__init__", "NoDeed.__init__", defArgs s_NoDeed_init, defBody s_NoDeed_init, defScope s_NoDeed_init, [], []⟩
def d_NoScan_init : He.DefD := ⟨("NoScan", some "__init__"), "__init__", "NoScan.__init__", defArgs s_NoScan_init, defBody s_NoScan_init, defScope s_NoScan_init, [], []⟩
def d_Clash_init : He.DefD := ⟨("Clash", some "__init__"), "__init__", "Clash.__init__", defArgs s_Clash_init, defBody s_Clash_init, defScope s_Clash_init, [], []⟩
def d_NoText_init : He.DefD := ⟨("NoText", some "__init__"), "__init__", "NoText.__init__", defArgs s_NoText_init, defBody s_NoText_init, defScope s_NoText_init, [], []⟩
def d_is_name : He.DefD := ⟨("is_name", none), "is_name", "is_name", defArgs s_is_name, defBody s_is_name, defScope s_is_name, [], []⟩
def d_is_address : He.DefD := ⟨("is_address", none), "is_address", "is_address", defArgs s_is_address, defBody s_is_address, defScope s_is_address, [], []⟩
def d_is_whole : He.DefD := ⟨("is_whole", none), "is_whole", "is_whole", defArgs s_is_whole, defBody s_is_whole, defScope s_is_whole, [], []⟩
def d_is_from : He.DefD := ⟨("is_from", none), "is_from", "is_from", defArgs s_is_from, defBody s_is_from, defScope s_is_from, [], []⟩
def d_is_between : He.DefD := ⟨("is_between", none), "is_between", "is_between", defArgs s_is_between, defBody s_is_between, defScope s_is_between, [], []⟩
def d_is_mark : He.DefD := ⟨("is_mark", none), "is_mark", "is_mark", defArgs s_is_mark, defBody s_is_mark, defScope s_is_mark, [], []⟩
def d_are_marks : He.DefD := ⟨("are_marks", none), "are_marks", "are_marks", defArgs s_are_marks, defBody s_are_marks, defScope s_are_marks, [], []⟩
def d_are_rising : He.DefD := ⟨("are_rising", none), "are_rising", "are_rising", defArgs s_are_rising, defBody s_are_rising, defScope s_are_rising, [], []⟩
def d_is_load : He.DefD := ⟨("is_load", none), "is_load", "is_load", defArgs s_is_load, defBody s_is_load, defScope s_is_load, [], []⟩
def d_are_loads : He.DefD := ⟨("are_loads", none), "are_loads", "are_loads", defArgs s_are_loads, defBody s_are_loads, defScope s_are_loads, [], []⟩
def d_are_posted : He.DefD := ⟨("are_posted", none), "are_posted", "are_posted", defArgs s_are_posted, defBody s_are_posted, defScope s_are_posted, [], []⟩
def d_are_bagged : He.DefD := ⟨("are_bagged", none), "are_bagged", "are_bagged", defArgs s_are_bagged, defBody s_are_bagged, defScope s_are_bagged, [], []⟩
def d_are_opened : He.DefD := ⟨("are_opened", none), "are_opened", "are_opened", defArgs s_are_opened, defBody s_are_opened, defScope s_are_opened, [], []⟩
def d_are_shut : He.DefD := ⟨("are_shut", none), "are_shut", "are_shut", defArgs s_are_shut, defBody s_are_shut, defScope s_are_shut, [], []⟩
def d_are_late : He.DefD := ⟨("are_late", none), "are_late", "are_late", defArgs s_are_late, defBody s_are_late, defScope s_are_late, [], []⟩
def d_are_moved : He.DefD := ⟨("are_moved", none), "are_moved", "are_moved", defArgs s_are_moved, defBody s_are_moved, defScope s_are_moved, [], []⟩
def d_are_handed : He.DefD := ⟨("are_handed", none), "are_handed", "are_handed", defArgs s_are_handed, defBody s_are_handed, defScope s_are_handed, [], []⟩
def d_are_forwarded : He.DefD := ⟨("are_forwarded", none), "are_forwarded", "are_forwarded", defArgs s_are_forwarded, defBody s_are_forwarded, defScope s_are_forwarded, [], []⟩
def d_are_refused : He.DefD := ⟨("are_refused", none), "are_refused", "are_refused", defArgs s_are_refused, defBody s_are_refused, defScope s_are_refused, [], []⟩
def d_are_passed : He.DefD := ⟨("are_passed", none), "are_passed", "are_passed", defArgs s_are_passed, defBody s_are_passed, defScope s_are_passed, [], []⟩
def d_are_things : He.DefD := ⟨("are_things", none), "are_things", "are_things", defArgs s_are_things, defBody s_are_things, defScope s_are_things, [], []⟩
def d_are_causes : He.DefD := ⟨("are_causes", none), "are_causes", "are_causes", defArgs s_are_causes, defBody s_are_causes, defScope s_are_causes, [], []⟩
def d_Scan_init : He.DefD := ⟨("Scan", some "__init__"), "__init__", "Scan.__init__", defArgs s_Scan_init, defBody s_Scan_init, defScope s_Scan_init, [], [("causes", .adr (kwAd ("Scan", some "__init__") "causes"))]⟩
def d_Scan_told : He.DefD := ⟨("Scan", some "told"), "told", "Scan.told", defArgs s_Scan_told, defBody s_Scan_told, defScope s_Scan_told, [], []⟩
def d_Scan_key : He.DefD := ⟨("Scan", some "key"), "key", "Scan.key", defArgs s_Scan_key, defBody s_Scan_key, defScope s_Scan_key, [], []⟩
def d_well : He.DefD := ⟨("_law_source_of", none), "_law_source_of", "_law_source_of", defArgs s_well, defBody s_well, defScope s_well, [], []⟩
def d_draw : He.DefD := ⟨("_law_next", none), "_law_next", "_law_next", defArgs s_draw, defBody s_draw, defScope s_draw, [], []⟩
def d_one : He.DefD := ⟨("_law_one", none), "_law_one", "_law_one", defArgs s_one, defBody s_one, defScope s_one, [], []⟩
def d_law_name : He.DefD := ⟨("_law_name", none), "_law_name", "_law_name", defArgs s_law_name, defBody s_law_name, defScope s_law_name, [], []⟩
def d_law_number : He.DefD := ⟨("_law_number", none), "_law_number", "_law_number", defArgs s_law_number, defBody s_law_number, defScope s_law_number, [], []⟩
def d_law_mark : He.DefD := ⟨("_law_mark", none), "_law_mark", "_law_mark", defArgs s_law_mark, defBody s_law_mark, defScope s_law_mark, [], []⟩
def d_law_address : He.DefD := ⟨("_law_address", none), "_law_address", "_law_address", defArgs s_law_address, defBody s_law_address, defScope s_law_address, [], []⟩
def d_law_bags : He.DefD := ⟨("_law_bags", none), "_law_bags", "_law_bags", defArgs s_law_bags, defBody s_law_bags, defScope s_law_bags, [], []⟩
def d_law_loads : He.DefD := ⟨("_law_loads", none), "_law_loads", "_law_loads", defArgs s_law_loads, defBody s_law_loads, defScope s_law_loads, [], []⟩
def d_law_things : He.DefD := ⟨("_law_things", none), "_law_things", "_law_things", defArgs s_law_things, defBody s_law_things, defScope s_law_things, [], []⟩
def d_law_drawn : He.DefD := ⟨("_law_drawn", none), "_law_drawn", "_law_drawn", defArgs s_law_drawn, defBody s_law_drawn, defScope s_law_drawn, [], []⟩
def d_law_other : He.DefD := ⟨("_law_other", none), "_law_other", "_law_other", defArgs s_law_other, defBody s_law_other, defScope s_law_other, [], []⟩
def d_law_odd_loads : He.DefD := ⟨("_law_odd_loads", none), "_law_odd_loads", "_law_odd_loads", defArgs s_law_odd_loads, defBody s_law_odd_loads, defScope s_law_odd_loads, [], []⟩
def d_law_odd_things : He.DefD := ⟨("_law_odd_things", none), "_law_odd_things", "_law_odd_things", defArgs s_law_odd_things, defBody s_law_odd_things, defScope s_law_odd_things, [], []⟩
def d_law_spoilt : He.DefD := ⟨("_law_spoilt", none), "_law_spoilt", "_law_spoilt", defArgs s_law_spoilt, defBody s_law_spoilt, defScope s_law_spoilt, [], []⟩
def d_law_refused : He.DefD := ⟨("_law_refused", none), "_law_refused", "_law_refused", defArgs s_law_refused, defBody s_law_refused, defScope s_law_refused, [], []⟩
def d_law : He.DefD := ⟨("law", none), "law", "law", defArgs s_law, defBody s_law, defScope s_law, [], []⟩
def fn : List He.DefD := [d_wall, d_NoDeed_init, d_NoScan_init, d_Clash_init, d_NoText_init, d_is_name, d_is_address, d_is_whole, d_is_from, d_is_between, d_is_mark, d_are_marks, d_are_rising, d_is_load, d_are_loads, d_are_posted, d_are_bagged, d_are_opened, d_are_shut, d_are_late, d_are_moved, d_are_handed, d_are_forwarded, d_are_refused, d_are_passed, d_are_things, d_are_causes, d_Scan_init, d_Scan_told, d_Scan_key, d_well, d_draw, d_one, d_law_name, d_law_number, d_law_mark, d_law_address, d_law_bags, d_law_loads, d_law_things, d_law_drawn, d_law_other, d_law_odd_loads, d_law_odd_things, d_law_spoilt, d_law_refused, d_law]
def fa : List He.Fa := [.glo "_wall", .glo "is_name", .glo "is_address", .glo "is_whole", .glo "is_from", .glo "is_between", .glo "is_mark", .glo "are_marks", .glo "are_rising", .glo "is_load", .glo "are_loads", .glo "are_posted", .glo "are_bagged", .glo "are_opened", .glo "are_shut", .glo "are_late", .glo "are_moved", .glo "are_handed", .glo "are_forwarded", .glo "are_refused", .glo "are_passed", .glo "are_things", .glo "are_causes", .glo "_law_source_of", .glo "_law_next", .glo "_law_one", .glo "_law_name", .glo "_law_number", .glo "_law_mark", .glo "_law_address", .glo "_law_bags", .glo "_law_loads", .glo "_law_things", .glo "_law_drawn", .glo "_law_other", .glo "_law_odd_loads", .glo "_law_odd_things", .glo "_law_spoilt", .glo "_law_refused", .glo "law", .free "ValueError", .free "all", .free "bool", .free "int", .free "isinstance", .free "len", .free "list", .free "range", .free "set", .free "sorted", .free "str", .free "tuple", .free "zip", .str "LETTERS" "abcdefghijklmnopqrstuvwxyz", .int "MOST_LETTERS" 8, .int "MOST_WEIGHT" 99, .glo "WHYS", .glo "LOOKS", .glo "PostError", .glo "NoDeed", .glo "NoScan", .glo "Clash", .glo "NoText", .glo "Scan", .cls "Scan", .mkr "Scan", .meth "Scan" "told", .meth "Scan" "key", .noat "Scan" "house", .noat "Scan" "number", .noat "Scan" "tick", .noat "Scan" "word", .noat "Scan" "things", .noat "Scan" "causes"]
def EN : List Str := ["NoDeed", "NoScan", "Clash", "NoText"]
def EB : List Str := ["NoDeed", "NoScan", "Clash", "NoText", "PostError"]
def exs : List (PySem.W.Frag → Bool) := [sysB, fun K => lookB K, fun K => tupB K (He.ga K "WHYS") [.str "ring", .str "due"], fun K => ["", "Posted", "lost", "pass"].all fun z => decide (PySem.W.nsIn K (He.ga K "LOOKS") (Str.ofString z) = some none), fun K => baseB K "PostError", fun K => oexB K "NoDeed", fun K => einB K "NoDeed", fun K => excCB K "NoDeed", fun K => He.eqO (PySem.W.findIn K (.ref (He.ga K "NoDeed")) "why") (some none), fun K => oexB K "NoScan", fun K => einB K "NoScan", fun K => excCB K "NoScan", fun K => He.eqO (PySem.W.findIn K (.ref (He.ga K "NoScan")) "why") (some none), fun K => oexB K "Clash", fun K => einB K "Clash", fun K => excCB K "Clash", fun K => He.eqO (PySem.W.findIn K (.ref (He.ga K "Clash")) "house") (some none), fun K => He.eqO (PySem.W.findIn K (.ref (He.ga K "Clash")) "number") (some none), fun K => oexB K "NoText", fun K => einB K "NoText", fun K => excCB K "NoText", fun K => He.eqO (PySem.W.findIn K (.ref (He.ga K "NoText")) "text") (some none), fun K => emB K (kwAd ("Scan", some "__init__") "causes" K), fun K => kitB2 K EN EB ktT, fun K => EN.all fun x => decide (PySem.W.kitOne K (.ref (He.ga K x)) (.type "ValueError") = some true), fun K => exmB2 K EN EB ktT]
def ex (K : PySem.W.Frag) : Bool := exs.all fun f => f K
def ts : List He.Tab := [(fun K => He.ga K "LOOKS", ["posted", "bagged", "opened", "shut", "late", "moved", "handed", "forwarded", "sentback", "laid", "passed"])]
abbrev TX (w : World) (K : PySem.W.Frag) (mg : Str → Option Value) : Prop := Tx fa fn ts ex w K mg
section
variable {w : World} {K : PySem.W.Frag} {mg : Str → Option Value} (T : TX w K mg)
include T
theorem g_wall : mg "_wall" = some (.ref (He.ga K "_wall")) := Tx.glo T 0
theorem g_is_name : mg "is_name" = some (.ref (He.ga K "is_name")) := Tx.glo T 1
theorem g_is_address : mg "is_address" = some (.ref (He.ga K "is_address")) := Tx.glo T 2
theorem g_is_whole : mg "is_whole" = some (.ref (He.ga K "is_whole")) := Tx.glo T 3
theorem g_is_from : mg "is_from" = some (.ref (He.ga K "is_from")) := Tx.glo T 4
theorem g_is_between : mg "is_between" = some (.ref (He.ga K "is_between")) := Tx.glo T 5
theorem g_is_mark : mg "is_mark" = some (.ref (He.ga K "is_mark")) := Tx.glo T 6
theorem g_are_marks : mg "are_marks" = some (.ref (He.ga K "are_marks")) := Tx.glo T 7
theorem g_are_rising : mg "are_rising" = some (.ref (He.ga K "are_rising")) := Tx.glo T 8
theorem g_is_load : mg "is_load" = some (.ref (He.ga K "is_load")) := Tx.glo T 9
theorem g_are_loads : mg "are_loads" = some (.ref (He.ga K "are_loads")) := Tx.glo T 10
theorem g_are_posted : mg "are_posted" = some (.ref (He.ga K "are_posted")) := Tx.glo T 11
theorem g_are_bagged : mg "are_bagged" = some (.ref (He.ga K "are_bagged")) := Tx.glo T 12
theorem g_are_opened : mg "are_opened" = some (.ref (He.ga K "are_opened")) := Tx.glo T 13
theorem g_are_shut : mg "are_shut" = some (.ref (He.ga K "are_shut")) := Tx.glo T 14
theorem g_are_late : mg "are_late" = some (.ref (He.ga K "are_late")) := Tx.glo T 15
theorem g_are_moved : mg "are_moved" = some (.ref (He.ga K "are_moved")) := Tx.glo T 16
theorem g_are_handed : mg "are_handed" = some (.ref (He.ga K "are_handed")) := Tx.glo T 17
theorem g_are_forwarded : mg "are_forwarded" = some (.ref (He.ga K "are_forwarded")) := Tx.glo T 18
theorem g_are_refused : mg "are_refused" = some (.ref (He.ga K "are_refused")) := Tx.glo T 19
theorem g_are_passed : mg "are_passed" = some (.ref (He.ga K "are_passed")) := Tx.glo T 20
theorem g_are_things : mg "are_things" = some (.ref (He.ga K "are_things")) := Tx.glo T 21
theorem g_are_causes : mg "are_causes" = some (.ref (He.ga K "are_causes")) := Tx.glo T 22
theorem g_well : mg "_law_source_of" = some (.ref (He.ga K "_law_source_of")) := Tx.glo T 23
theorem g_draw : mg "_law_next" = some (.ref (He.ga K "_law_next")) := Tx.glo T 24
theorem g_one : mg "_law_one" = some (.ref (He.ga K "_law_one")) := Tx.glo T 25
theorem g_law_name : mg "_law_name" = some (.ref (He.ga K "_law_name")) := Tx.glo T 26
theorem g_law_number : mg "_law_number" = some (.ref (He.ga K "_law_number")) := Tx.glo T 27
theorem g_law_mark : mg "_law_mark" = some (.ref (He.ga K "_law_mark")) := Tx.glo T 28
theorem g_law_address : mg "_law_address" = some (.ref (He.ga K "_law_address")) := Tx.glo T 29
theorem g_law_bags : mg "_law_bags" = some (.ref (He.ga K "_law_bags")) := Tx.glo T 30
theorem g_law_loads : mg "_law_loads" = some (.ref (He.ga K "_law_loads")) := Tx.glo T 31
theorem g_law_things : mg "_law_things" = some (.ref (He.ga K "_law_things")) := Tx.glo T 32
theorem g_law_drawn : mg "_law_drawn" = some (.ref (He.ga K "_law_drawn")) := Tx.glo T 33
theorem g_law_other : mg "_law_other" = some (.ref (He.ga K "_law_other")) := Tx.glo T 34
theorem g_law_odd_loads : mg "_law_odd_loads" = some (.ref (He.ga K "_law_odd_loads")) := Tx.glo T 35
theorem g_law_odd_things : mg "_law_odd_things" = some (.ref (He.ga K "_law_odd_things")) := Tx.glo T 36
theorem g_law_spoilt : mg "_law_spoilt" = some (.ref (He.ga K "_law_spoilt")) := Tx.glo T 37
theorem g_law_refused : mg "_law_refused" = some (.ref (He.ga K "_law_refused")) := Tx.glo T 38
theorem g_law : mg "law" = some (.ref (He.ga K "law")) := Tx.glo T 39
theorem f_ValueError : mg "ValueError" = none := Tx.free T 40
theorem f_all : mg "all" = none := Tx.free T 41
theorem f_bool : mg "bool" = none := Tx.free T 42
theorem f_int : mg "int" = none := Tx.free T 43
theorem f_isinstance : mg "isinstance" = none := Tx.free T 44
theorem f_len : mg "len" = none := Tx.free T 45
theorem f_list : mg "list" = none := Tx.free T 46
theorem f_range : mg "range" = none := Tx.free T 47
theorem f_set : mg "set" = none := Tx.free T 48
theorem f_sorted : mg "sorted" = none := Tx.free T 49
theorem f_str : mg "str" = none := Tx.free T 50
theorem f_tuple : mg "tuple" = none := Tx.free T 51
theorem f_zip : mg "zip" = none := Tx.free T 52
theorem c_LETTERS : ∃ t, mg "LETTERS" = some (.str "abcdefghijklmnopqrstuvwxyz" t) := Tx.str T 53
theorem c_MOST_LETTERS : ∃ t, mg "MOST_LETTERS" = some (.int 8 t) := Tx.int T 54
theorem c_MOST_WEIGHT : ∃ t, mg "MOST_WEIGHT" = some (.int 99 t) := Tx.int T 55
theorem g_WHYS : mg "WHYS" = some (.ref (He.ga K "WHYS")) := Tx.glo T 56
theorem g_LOOKS : mg "LOOKS" = some (.ref (He.ga K "LOOKS")) := Tx.glo T 57
theorem g_PostError : mg "PostError" = some (.ref (He.ga K "PostError")) := Tx.glo T 58
theorem g_NoDeed : mg "NoDeed" = some (.ref (He.ga K "NoDeed")) := Tx.glo T 59
theorem g_NoScan : mg "NoScan" = some (.ref (He.ga K "NoScan")) := Tx.glo T 60
theorem g_Clash : mg "Clash" = some (.ref (He.ga K "Clash")) := Tx.glo T 61
theorem g_NoText : mg "NoText" = some (.ref (He.ga K "NoText")) := Tx.glo T 62
theorem g_Scan : mg "Scan" = some (.ref (He.ga K "Scan")) := Tx.glo T 63
theorem cl_Scan : Cls K (He.ga K "Scan") := He.cls_ok (T.c.fact 64 rfl)
theorem mk_Scan : Mk K (He.ga K "Scan") (He.fAd K ("Scan", some "__init__")) := He.mkr_ok (T.c.fact 65 rfl)
theorem m_Scan_told : Meth K (He.ga K "Scan") "told" (He.fAd K ("Scan", some "told")) := He.meth_ok (T.c.fact 66 rfl)
theorem m_Scan_key : Meth K (He.ga K "Scan") "key" (He.fAd K ("Scan", some "key")) := He.meth_ok (T.c.fact 67 rfl)
theorem na_Scan_house : NoAttr K (He.ga K "Scan") "house" := He.noat_ok (T.c.fact 68 rfl)
theorem na_Scan_number : NoAttr K (He.ga K "Scan") "number" := He.noat_ok (T.c.fact 69 rfl)
theorem na_Scan_tick : NoAttr K (He.ga K "Scan") "tick" := He.noat_ok (T.c.fact 70 rfl)
theorem na_Scan_word : NoAttr K (He.ga K "Scan") "word" := He.noat_ok (T.c.fact 71 rfl)
theorem na_Scan_things : NoAttr K (He.ga K "Scan") "things" := He.noat_ok (T.c.fact 72 rfl)
theorem na_Scan_causes : NoAttr K (He.ga K "Scan") "causes" := He.noat_ok (T.c.fact 73 rfl)
theorem D_wall : ∃ fd, FunD K d_wall.name d_wall.qual d_wall.params d_wall.body d_wall.scope (d_wall.dvs K) (d_wall.kws K) (He.fAd K d_wall.at_) fd := T.c.def_ 0 (d := d_wall)
theorem D_NoDeed_init : ∃ fd, FunD K d_NoDeed_init.name d_NoDeed_init.qual d_NoDeed_init.params d_NoDeed_init.body d_NoDeed_init.scope (d_NoDeed_init.dvs K) (d_NoDeed_init.kws K) (He.fAd K d_NoDeed_init.at_) fd := T.c.def_ 1 (d := d_NoDeed_init)
theorem D_NoScan_init : ∃ fd, FunD K d_NoScan_init.name d_NoScan_init.qual d_NoScan_init.params d_NoScan_init.body d_NoScan_init.scope (d_NoScan_init.dvs K) (d_NoScan_init.kws K) (He.fAd K d_NoScan_init.at_) fd := T.c.def_ 2 (d := d_NoScan_init)
theorem D_Clash_init : ∃ fd, FunD K d_Clash_init.name d_Clash_init.qual d_Clash_init.params d_Clash_init.body d_Clash_init.scope (d_Clash_init.dvs K) (d_Clash_init.kws K) (He.fAd K d_Clash_init.at_) fd := T.c.def_ 3 (d := d_Clash_init)
theorem D_NoText_init : ∃ fd, FunD K d_NoText_init.name d_NoText_init.qual d_NoText_init.params d_NoText_init.body d_NoText_init.scope (d_NoText_init.dvs K) (d_NoText_init.kws K) (He.fAd K d_NoText_init.at_) fd := T.c.def_ 4 (d := d_NoText_init)
theorem D_is_name : ∃ fd, FunD K d_is_name.name d_is_name.qual d_is_name.params d_is_name.body d_is_name.scope (d_is_name.dvs K) (d_is_name.kws K) (He.fAd K d_is_name.at_) fd := T.c.def_ 5 (d := d_is_name)
theorem D_is_address : ∃ fd, FunD K d_is_address.name d_is_address.qual d_is_address.params d_is_address.body d_is_address.scope (d_is_address.dvs K) (d_is_address.kws K) (He.fAd K d_is_address.at_) fd := T.c.def_ 6 (d := d_is_address)
theorem D_is_whole : ∃ fd, FunD K d_is_whole.name d_is_whole.qual d_is_whole.params d_is_whole.body d_is_whole.scope (d_is_whole.dvs K) (d_is_whole.kws K) (He.fAd K d_is_whole.at_) fd := T.c.def_ 7 (d := d_is_whole)
theorem D_is_from : ∃ fd, FunD K d_is_from.name d_is_from.qual d_is_from.params d_is_from.body d_is_from.scope (d_is_from.dvs K) (d_is_from.kws K) (He.fAd K d_is_from.at_) fd := T.c.def_ 8 (d := d_is_from)
theorem D_is_between : ∃ fd, FunD K d_is_between.name d_is_between.qual d_is_between.params d_is_between.body d_is_between.scope (d_is_between.dvs K) (d_is_between.kws K) (He.fAd K d_is_between.at_) fd := T.c.def_ 9 (d := d_is_between)
theorem D_is_mark : ∃ fd, FunD K d_is_mark.name d_is_mark.qual d_is_mark.params d_is_mark.body d_is_mark.scope (d_is_mark.dvs K) (d_is_mark.kws K) (He.fAd K d_is_mark.at_) fd := T.c.def_ 10 (d := d_is_mark)
theorem D_are_marks : ∃ fd, FunD K d_are_marks.name d_are_marks.qual d_are_marks.params d_are_marks.body d_are_marks.scope (d_are_marks.dvs K) (d_are_marks.kws K) (He.fAd K d_are_marks.at_) fd := T.c.def_ 11 (d := d_are_marks)
theorem D_are_rising : ∃ fd, FunD K d_are_rising.name d_are_rising.qual d_are_rising.params d_are_rising.body d_are_rising.scope (d_are_rising.dvs K) (d_are_rising.kws K) (He.fAd K d_are_rising.at_) fd := T.c.def_ 12 (d := d_are_rising)
theorem D_is_load : ∃ fd, FunD K d_is_load.name d_is_load.qual d_is_load.params d_is_load.body d_is_load.scope (d_is_load.dvs K) (d_is_load.kws K) (He.fAd K d_is_load.at_) fd := T.c.def_ 13 (d := d_is_load)
theorem D_are_loads : ∃ fd, FunD K d_are_loads.name d_are_loads.qual d_are_loads.params d_are_loads.body d_are_loads.scope (d_are_loads.dvs K) (d_are_loads.kws K) (He.fAd K d_are_loads.at_) fd := T.c.def_ 14 (d := d_are_loads)
theorem D_are_posted : ∃ fd, FunD K d_are_posted.name d_are_posted.qual d_are_posted.params d_are_posted.body d_are_posted.scope (d_are_posted.dvs K) (d_are_posted.kws K) (He.fAd K d_are_posted.at_) fd := T.c.def_ 15 (d := d_are_posted)
theorem D_are_bagged : ∃ fd, FunD K d_are_bagged.name d_are_bagged.qual d_are_bagged.params d_are_bagged.body d_are_bagged.scope (d_are_bagged.dvs K) (d_are_bagged.kws K) (He.fAd K d_are_bagged.at_) fd := T.c.def_ 16 (d := d_are_bagged)
theorem D_are_opened : ∃ fd, FunD K d_are_opened.name d_are_opened.qual d_are_opened.params d_are_opened.body d_are_opened.scope (d_are_opened.dvs K) (d_are_opened.kws K) (He.fAd K d_are_opened.at_) fd := T.c.def_ 17 (d := d_are_opened)
theorem D_are_shut : ∃ fd, FunD K d_are_shut.name d_are_shut.qual d_are_shut.params d_are_shut.body d_are_shut.scope (d_are_shut.dvs K) (d_are_shut.kws K) (He.fAd K d_are_shut.at_) fd := T.c.def_ 18 (d := d_are_shut)
theorem D_are_late : ∃ fd, FunD K d_are_late.name d_are_late.qual d_are_late.params d_are_late.body d_are_late.scope (d_are_late.dvs K) (d_are_late.kws K) (He.fAd K d_are_late.at_) fd := T.c.def_ 19 (d := d_are_late)
theorem D_are_moved : ∃ fd, FunD K d_are_moved.name d_are_moved.qual d_are_moved.params d_are_moved.body d_are_moved.scope (d_are_moved.dvs K) (d_are_moved.kws K) (He.fAd K d_are_moved.at_) fd := T.c.def_ 20 (d := d_are_moved)
theorem D_are_handed : ∃ fd, FunD K d_are_handed.name d_are_handed.qual d_are_handed.params d_are_handed.body d_are_handed.scope (d_are_handed.dvs K) (d_are_handed.kws K) (He.fAd K d_are_handed.at_) fd := T.c.def_ 21 (d := d_are_handed)
theorem D_are_forwarded : ∃ fd, FunD K d_are_forwarded.name d_are_forwarded.qual d_are_forwarded.params d_are_forwarded.body d_are_forwarded.scope (d_are_forwarded.dvs K) (d_are_forwarded.kws K) (He.fAd K d_are_forwarded.at_) fd := T.c.def_ 22 (d := d_are_forwarded)
theorem D_are_refused : ∃ fd, FunD K d_are_refused.name d_are_refused.qual d_are_refused.params d_are_refused.body d_are_refused.scope (d_are_refused.dvs K) (d_are_refused.kws K) (He.fAd K d_are_refused.at_) fd := T.c.def_ 23 (d := d_are_refused)
theorem D_are_passed : ∃ fd, FunD K d_are_passed.name d_are_passed.qual d_are_passed.params d_are_passed.body d_are_passed.scope (d_are_passed.dvs K) (d_are_passed.kws K) (He.fAd K d_are_passed.at_) fd := T.c.def_ 24 (d := d_are_passed)
theorem D_are_things : ∃ fd, FunD K d_are_things.name d_are_things.qual d_are_things.params d_are_things.body d_are_things.scope (d_are_things.dvs K) (d_are_things.kws K) (He.fAd K d_are_things.at_) fd := T.c.def_ 25 (d := d_are_things)
theorem D_are_causes : ∃ fd, FunD K d_are_causes.name d_are_causes.qual d_are_causes.params d_are_causes.body d_are_causes.scope (d_are_causes.dvs K) (d_are_causes.kws K) (He.fAd K d_are_causes.at_) fd := T.c.def_ 26 (d := d_are_causes)
theorem D_Scan_init : ∃ fd, FunD K d_Scan_init.name d_Scan_init.qual d_Scan_init.params d_Scan_init.body d_Scan_init.scope (d_Scan_init.dvs K) (d_Scan_init.kws K) (He.fAd K d_Scan_init.at_) fd := T.c.def_ 27 (d := d_Scan_init)
theorem D_Scan_told : ∃ fd, FunD K d_Scan_told.name d_Scan_told.qual d_Scan_told.params d_Scan_told.body d_Scan_told.scope (d_Scan_told.dvs K) (d_Scan_told.kws K) (He.fAd K d_Scan_told.at_) fd := T.c.def_ 28 (d := d_Scan_told)
theorem D_Scan_key : ∃ fd, FunD K d_Scan_key.name d_Scan_key.qual d_Scan_key.params d_Scan_key.body d_Scan_key.scope (d_Scan_key.dvs K) (d_Scan_key.kws K) (He.fAd K d_Scan_key.at_) fd := T.c.def_ 29 (d := d_Scan_key)
theorem D_well : ∃ fd, FunD K d_well.name d_well.qual d_well.params d_well.body d_well.scope (d_well.dvs K) (d_well.kws K) (He.fAd K d_well.at_) fd := T.c.def_ 30 (d := d_well)
theorem D_draw : ∃ fd, FunD K d_draw.name d_draw.qual d_draw.params d_draw.body d_draw.scope (d_draw.dvs K) (d_draw.kws K) (He.fAd K d_draw.at_) fd := T.c.def_ 31 (d := d_draw)
theorem D_one : ∃ fd, FunD K d_one.name d_one.qual d_one.params d_one.body d_one.scope (d_one.dvs K) (d_one.kws K) (He.fAd K d_one.at_) fd := T.c.def_ 32 (d := d_one)
theorem D_law_name : ∃ fd, FunD K d_law_name.name d_law_name.qual d_law_name.params d_law_name.body d_law_name.scope (d_law_name.dvs K) (d_law_name.kws K) (He.fAd K d_law_name.at_) fd := T.c.def_ 33 (d := d_law_name)
theorem D_law_number : ∃ fd, FunD K d_law_number.name d_law_number.qual d_law_number.params d_law_number.body d_law_number.scope (d_law_number.dvs K) (d_law_number.kws K) (He.fAd K d_law_number.at_) fd := T.c.def_ 34 (d := d_law_number)
theorem D_law_mark : ∃ fd, FunD K d_law_mark.name d_law_mark.qual d_law_mark.params d_law_mark.body d_law_mark.scope (d_law_mark.dvs K) (d_law_mark.kws K) (He.fAd K d_law_mark.at_) fd := T.c.def_ 35 (d := d_law_mark)
theorem D_law_address : ∃ fd, FunD K d_law_address.name d_law_address.qual d_law_address.params d_law_address.body d_law_address.scope (d_law_address.dvs K) (d_law_address.kws K) (He.fAd K d_law_address.at_) fd := T.c.def_ 36 (d := d_law_address)
theorem D_law_bags : ∃ fd, FunD K d_law_bags.name d_law_bags.qual d_law_bags.params d_law_bags.body d_law_bags.scope (d_law_bags.dvs K) (d_law_bags.kws K) (He.fAd K d_law_bags.at_) fd := T.c.def_ 37 (d := d_law_bags)
theorem D_law_loads : ∃ fd, FunD K d_law_loads.name d_law_loads.qual d_law_loads.params d_law_loads.body d_law_loads.scope (d_law_loads.dvs K) (d_law_loads.kws K) (He.fAd K d_law_loads.at_) fd := T.c.def_ 38 (d := d_law_loads)
theorem D_law_things : ∃ fd, FunD K d_law_things.name d_law_things.qual d_law_things.params d_law_things.body d_law_things.scope (d_law_things.dvs K) (d_law_things.kws K) (He.fAd K d_law_things.at_) fd := T.c.def_ 39 (d := d_law_things)
theorem D_law_drawn : ∃ fd, FunD K d_law_drawn.name d_law_drawn.qual d_law_drawn.params d_law_drawn.body d_law_drawn.scope (d_law_drawn.dvs K) (d_law_drawn.kws K) (He.fAd K d_law_drawn.at_) fd := T.c.def_ 40 (d := d_law_drawn)
theorem D_law_other : ∃ fd, FunD K d_law_other.name d_law_other.qual d_law_other.params d_law_other.body d_law_other.scope (d_law_other.dvs K) (d_law_other.kws K) (He.fAd K d_law_other.at_) fd := T.c.def_ 41 (d := d_law_other)
theorem D_law_odd_loads : ∃ fd, FunD K d_law_odd_loads.name d_law_odd_loads.qual d_law_odd_loads.params d_law_odd_loads.body d_law_odd_loads.scope (d_law_odd_loads.dvs K) (d_law_odd_loads.kws K) (He.fAd K d_law_odd_loads.at_) fd := T.c.def_ 42 (d := d_law_odd_loads)
theorem D_law_odd_things : ∃ fd, FunD K d_law_odd_things.name d_law_odd_things.qual d_law_odd_things.params d_law_odd_things.body d_law_odd_things.scope (d_law_odd_things.dvs K) (d_law_odd_things.kws K) (He.fAd K d_law_odd_things.at_) fd := T.c.def_ 43 (d := d_law_odd_things)
theorem D_law_spoilt : ∃ fd, FunD K d_law_spoilt.name d_law_spoilt.qual d_law_spoilt.params d_law_spoilt.body d_law_spoilt.scope (d_law_spoilt.dvs K) (d_law_spoilt.kws K) (He.fAd K d_law_spoilt.at_) fd := T.c.def_ 44 (d := d_law_spoilt)
theorem D_law_refused : ∃ fd, FunD K d_law_refused.name d_law_refused.qual d_law_refused.params d_law_refused.body d_law_refused.scope (d_law_refused.dvs K) (d_law_refused.kws K) (He.fAd K d_law_refused.at_) fd := T.c.def_ 45 (d := d_law_refused)
theorem D_law : ∃ fd, FunD K d_law.name d_law.qual d_law.params d_law.body d_law.scope (d_law.dvs K) (d_law.kws K) (He.fAd K d_law.at_) fd := T.c.def_ 46 (d := d_law)
theorem t_LOOKS : ∃ es n, KDict K w (He.ga K "LOOKS") es n ∧ es.toList.map He.keyOf = He.keysIn w.params ["posted", "bagged", "opened", "shut", "late", "moved", "handed", "forwarded", "sentback", "laid", "passed"] := T.tab 0
theorem sysK : SysK K := sysB_ok (exs_at (exs := exs) T.ex 0)
theorem lk : lookB K = true := exs_at (exs := exs) T.ex 1
theorem why : tupB K (He.ga K "WHYS") [.str "ring", .str "due"] = true := exs_at (exs := exs) T.ex 2
theorem nlk : (["", "Posted", "lost", "pass"].all fun z => decide (PySem.W.nsIn K (He.ga K "LOOKS") (Str.ofString z) = some none)) = true := exs_at (exs := exs) T.ex 3
theorem bc_PostError : BaseC K (He.ga K "PostError") := baseB_ok (exs_at (exs := exs) T.ex 4)
theorem ox_NoDeed : OexC K (He.ga K "NoDeed") := oexB_ok (exs_at (exs := exs) T.ex 5)
theorem ei_NoDeed : PySem.W.findIn K (.ref (He.ga K "NoDeed")) "__init__" = some (some (.ref (He.fAd K ("NoDeed", some "__init__")))) ∧ PySem.W.typeIn K (.ref (He.fAd K ("NoDeed", some "__init__"))) = some (.type "function") := einB_ok (exs_at (exs := exs) T.ex 6)
theorem xc_NoDeed : ExcC K (He.ga K "NoDeed") := excCB_ok (exs_at (exs := exs) T.ex 7)
theorem nf_NoDeed_why : PySem.W.findIn K (.ref (He.ga K "NoDeed")) "why" = some none := He.eqO_ok (exs_at (exs := exs) T.ex 8)
theorem ox_NoScan : OexC K (He.ga K "NoScan") := oexB_ok (exs_at (exs := exs) T.ex 9)
theorem ei_NoScan : PySem.W.findIn K (.ref (He.ga K "NoScan")) "__init__" = some (some (.ref (He.fAd K ("NoScan", some "__init__")))) ∧ PySem.W.typeIn K (.ref (He.fAd K ("NoScan", some "__init__"))) = some (.type "function") := einB_ok (exs_at (exs := exs) T.ex 10)
theorem xc_NoScan : ExcC K (He.ga K "NoScan") := excCB_ok (exs_at (exs := exs) T.ex 11)
theorem nf_NoScan_why : PySem.W.findIn K (.ref (He.ga K "NoScan")) "why" = some none := He.eqO_ok (exs_at (exs := exs) T.ex 12)
theorem ox_Clash : OexC K (He.ga K "Clash") := oexB_ok (exs_at (exs := exs) T.ex 13)
theorem ei_Clash : PySem.W.findIn K (.ref (He.ga K "Clash")) "__init__" = some (some (.ref (He.fAd K ("Clash", some "__init__")))) ∧ PySem.W.typeIn K (.ref (He.fAd K ("Clash", some "__init__"))) = some (.type "function") := einB_ok (exs_at (exs := exs) T.ex 14)
theorem xc_Clash : ExcC K (He.ga K "Clash") := excCB_ok (exs_at (exs := exs) T.ex 15)
theorem nf_Clash_house : PySem.W.findIn K (.ref (He.ga K "Clash")) "house" = some none := He.eqO_ok (exs_at (exs := exs) T.ex 16)
theorem nf_Clash_number : PySem.W.findIn K (.ref (He.ga K "Clash")) "number" = some none := He.eqO_ok (exs_at (exs := exs) T.ex 17)
theorem ox_NoText : OexC K (He.ga K "NoText") := oexB_ok (exs_at (exs := exs) T.ex 18)
theorem ei_NoText : PySem.W.findIn K (.ref (He.ga K "NoText")) "__init__" = some (some (.ref (He.fAd K ("NoText", some "__init__")))) ∧ PySem.W.typeIn K (.ref (He.fAd K ("NoText", some "__init__"))) = some (.type "function") := einB_ok (exs_at (exs := exs) T.ex 19)
theorem xc_NoText : ExcC K (He.ga K "NoText") := excCB_ok (exs_at (exs := exs) T.ex 20)
theorem nf_NoText_text : PySem.W.findIn K (.ref (He.ga K "NoText")) "text" = some none := He.eqO_ok (exs_at (exs := exs) T.ex 21)
theorem em_Scan_init_causes : ∀ H : Hp, SqT K H (kwAd ("Scan", some "__init__") "causes" K) [] := fun H => emB_ok (exs_at (exs := exs) T.ex 22) H
theorem kt : kitB2 K EN EB ktT = true := exs_at (exs := exs) T.ex 23
theorem kv : (EN.all fun x => decide (PySem.W.kitOne K (.ref (He.ga K x)) (.type "ValueError") = some true)) = true := exs_at (exs := exs) T.ex 24
theorem xt : exmB2 K EN EB ktT = true := exs_at (exs := exs) T.ex 25
end
/-! ### keywords of calls -/
theorem kb_Scan_init_6_causes : Kb d_Scan_init ["self", "house", "number", "tick", "word", "things", "causes"] 6 ["causes"] [] [0] := ⟨rfl, (by decide), fun K D _ _ _ _ _ us mv ws h1 h2 h3 => match us, mv, ws, h1, h2, h3 with | [_, _, _, _, _, _], [], [_], _, _, _ => rfl⟩
/-! ### the names of each def by slots -/
theorem sc_wall : FnScope ["k"] ["k"] (defScope s_wall) := ⟨rfl, rfl, rfl, by decide +kernel, rfl, by decide +kernel, by decide +kernel⟩
theorem sc_NoDeed_init : FnScope ["self", "why"] ["self", "why"] (defScope s_NoDeed_init) := ⟨rfl, rfl, rfl, by decide +kernel, rfl, by decide +kernel, by decide +kernel⟩
theorem sc_NoScan_init : FnScope ["self", "why"] ["self", "why"] (defScope s_NoScan_init) := ⟨rfl, rfl, rfl, by decide +kernel, rfl, by decide +kernel, by decide +kernel⟩
theorem sc_Clash_init : FnScope ["self", "house", "number"] ["self", "house", "number"] (defScope s_Clash_init) := ⟨rfl, rfl, rfl, by decide +kernel, rfl, by decide +kernel, by decide +kernel⟩
theorem sc_NoText_init : FnScope ["self", "text"] ["self", "text"] (defScope s_NoText_init) := ⟨rfl, rfl, rfl, by decide +kernel, rfl, by decide +kernel, by decide +kernel⟩
theorem sc_is_name : FnScope ["thing", "sign"] ["thing"] (defScope s_is_name) := ⟨rfl, rfl, rfl, by decide +kernel, rfl, by decide +kernel, by decide +kernel⟩
theorem sc_is_address : FnScope ["thing", "part"] ["thing"] (defScope s_is_address) := ⟨rfl, rfl, rfl, by decide +kernel, rfl, by decide +kernel, by decide +kernel⟩
theorem sc_is_whole : FnScope ["thing"] ["thing"] (defScope s_is_whole) := ⟨rfl, rfl, rfl, by decide +kernel, rfl, by decide +kernel, by decide +kernel⟩
theorem sc_is_from : FnScope ["thing", "least"] ["thing", "least"] (defScope s_is_from) := ⟨rfl, rfl, rfl, by decide +kernel, rfl, by decide +kernel, by decide +kernel⟩
theorem sc_is_between : FnScope ["thing", "least", "most"] ["thing", "least", "most"] (defScope s_is_between) := ⟨rfl, rfl, rfl, by decide +kernel, rfl, by decide +kernel, by decide +kernel⟩
theorem sc_is_mark : FnScope ["thing"] ["thing"] (defScope s_is_mark) := ⟨rfl, rfl, rfl, by decide +kernel, rfl, by decide +kernel, by decide +kernel⟩
theorem sc_are_marks : FnScope ["thing", "one"] ["thing"] (defScope s_are_marks) := ⟨rfl, rfl, rfl, by decide +kernel, rfl, by decide +kernel, by decide +kernel⟩
theorem sc_are_rising : FnScope ["row", "one", "other"] ["row"] (defScope s_are_rising) := ⟨rfl, rfl, rfl, by decide +kernel, rfl, by decide +kernel, by decide +kernel⟩
theorem sc_is_load : FnScope ["thing", "road", "leaving", "bags"] ["thing"] (defScope s_is_load) := ⟨rfl, rfl, rfl, by decide +kernel, rfl, by decide +kernel, by decide +kernel⟩
theorem sc_are_loads : FnScope ["thing", "one", "load"] ["thing"] (defScope s_are_loads) := ⟨rfl, rfl, rfl, by decide +kernel, rfl, by decide +kernel, by decide +kernel⟩
theorem sc_are_posted : FnScope ["things", "piece", "to", "sender", "weight", "kept", "paid"] ["things"] (defScope s_are_posted) := ⟨rfl, rfl, rfl, by decide +kernel, rfl, by decide +kernel, by decide +kernel⟩
theorem sc_are_bagged : FnScope ["things", "bag", "road", "leaving", "pieces"] ["things"] (defScope s_are_bagged) := ⟨rfl, rfl, rfl, by decide +kernel, rfl, by decide +kernel, by decide +kernel⟩
theorem sc_are_opened : FnScope ["things"] ["things"] (defScope s_are_opened) := ⟨rfl, rfl, rfl, by decide +kernel, rfl, by decide +kernel, by decide +kernel⟩
theorem sc_are_shut : FnScope ["things", "road", "leaving"] ["things"] (defScope s_are_shut) := ⟨rfl, rfl, rfl, by decide +kernel, rfl, by decide +kernel, by decide +kernel⟩
theorem sc_are_late : FnScope ["things", "road", "leaving", "ticks"] ["things"] (defScope s_are_late) := ⟨rfl, rfl, rfl, by decide +kernel, rfl, by decide +kernel, by decide +kernel⟩
theorem sc_are_moved : FnScope ["things", "person", "street", "other", "first", "last", "one"] ["things"] (defScope s_are_moved) := ⟨rfl, rfl, rfl, by decide +kernel, rfl, by decide +kernel, by decide +kernel⟩
theorem sc_are_handed : FnScope ["things", "piece", "paid"] ["things"] (defScope s_are_handed) := ⟨rfl, rfl, rfl, by decide +kernel, rfl, by decide +kernel, by decide +kernel⟩
theorem sc_are_forwarded : FnScope ["things", "piece", "street"] ["things"] (defScope s_are_forwarded) := ⟨rfl, rfl, rfl, by decide +kernel, rfl, by decide +kernel, by decide +kernel⟩
theorem sc_are_refused : FnScope ["things", "piece", "why"] ["things"] (defScope s_are_refused) := ⟨rfl, rfl, rfl, by decide +kernel, rfl, by decide +kernel, by decide +kernel⟩
theorem sc_are_passed : FnScope ["things", "came", "left"] ["things"] (defScope s_are_passed) := ⟨rfl, rfl, rfl, by decide +kernel, rfl, by decide +kernel, by decide +kernel⟩
theorem sc_are_things : FnScope ["word", "things", "many", "look"] ["word", "things"] (defScope s_are_things) := ⟨rfl, rfl, rfl, by decide +kernel, rfl, by decide +kernel, by decide +kernel⟩
theorem sc_are_causes : FnScope ["word", "things", "causes", "one"] ["word", "things", "causes"] (defScope s_are_causes) := ⟨rfl, rfl, rfl, by decide +kernel, rfl, by decide +kernel, by decide +kernel⟩
theorem sc_Scan_init : FnScope ["self", "house", "number", "tick", "word", "things", "causes"] ["self", "house", "number", "tick", "word", "things", "causes"] (defScope s_Scan_init) := ⟨rfl, rfl, rfl, by decide +kernel, rfl, by decide +kernel, by decide +kernel⟩
theorem sc_Scan_told : FnScope ["self"] ["self"] (defScope s_Scan_told) := ⟨rfl, rfl, rfl, by decide +kernel, rfl, by decide +kernel, by decide +kernel⟩
theorem sc_Scan_key : FnScope ["self"] ["self"] (defScope s_Scan_key) := ⟨rfl, rfl, rfl, by decide +kernel, rfl, by decide +kernel, by decide +kernel⟩
theorem sc_well : FnScope ["_law_cell"] ["_law_cell"] (defScope s_well) := ⟨rfl, rfl, rfl, by decide +kernel, rfl, by decide +kernel, by decide +kernel⟩
theorem sc_draw : FnScope ["_law_source", "_law_many", "_law_found", "_law_prime", "_law_figure"] ["_law_source", "_law_many"] (defScope s_draw) := ⟨rfl, rfl, rfl, by decide +kernel, rfl, by decide +kernel, by decide +kernel⟩
theorem sc_one : FnScope ["_law_source", "_law_some"] ["_law_source", "_law_some"] (defScope s_one) := ⟨rfl, rfl, rfl, by decide +kernel, rfl, by decide +kernel, by decide +kernel⟩
theorem sc_law_name : FnScope ["_law_source", "_law_letters", "_law_k"] ["_law_source"] (defScope s_law_name) := ⟨rfl, rfl, rfl, by decide +kernel, rfl, by decide +kernel, by decide +kernel⟩
theorem sc_law_number : FnScope ["_law_source"] ["_law_source"] (defScope s_law_number) := ⟨rfl, rfl, rfl, by decide +kernel, rfl, by decide +kernel, by decide +kernel⟩
theorem sc_law_mark : FnScope ["_law_source"] ["_law_source"] (defScope s_law_mark) := ⟨rfl, rfl, rfl, by decide +kernel, rfl, by decide +kernel, by decide +kernel⟩
theorem sc_law_address : FnScope ["_law_source"] ["_law_source"] (defScope s_law_address) := ⟨rfl, rfl, rfl, by decide +kernel, rfl, by decide +kernel, by decide +kernel⟩
theorem sc_law_bags : FnScope ["_law_source", "_law_most", "_law_k"] ["_law_source", "_law_most"] (defScope s_law_bags) := ⟨rfl, rfl, rfl, by decide +kernel, rfl, by decide +kernel, by decide +kernel⟩
theorem sc_law_loads : FnScope ["_law_source", "_law_many", "_law_spots", "_law_k", "_law_spot"] ["_law_source", "_law_many"] (defScope s_law_loads) := ⟨rfl, rfl, rfl, by decide +kernel, rfl, by decide +kernel, by decide +kernel⟩
theorem sc_law_things : FnScope ["_law_source", "_law_word", "_law_kept", "_law_weight", "_law_some", "_law_k", "_law_last", "_law_many"] ["_law_source", "_law_word"] (defScope s_law_things) := ⟨rfl, rfl, rfl, by decide +kernel, rfl, by decide +kernel, by decide +kernel⟩
theorem sc_law_drawn : FnScope ["_law_source", "_law_some", "_law_word", "_law_things_here", "_law_hangs", "_law_row"] ["_law_source"] (defScope s_law_drawn) := ⟨rfl, rfl, rfl, by decide +kernel, rfl, by decide +kernel, by decide +kernel⟩
theorem sc_law_other : FnScope ["_law_source", "_law_part", "_law_some"] ["_law_source", "_law_part"] (defScope s_law_other) := ⟨rfl, rfl, rfl, by decide +kernel, rfl, by decide +kernel, by decide +kernel⟩
theorem sc_law_odd_loads : FnScope ["_law_source", "_law_loads_here", "_law_road", "_law_leaving", "_law_bags_here", "_law_some"] ["_law_source", "_law_loads_here"] (defScope s_law_odd_loads) := ⟨rfl, rfl, rfl, by decide +kernel, rfl, by decide +kernel, by decide +kernel⟩
theorem sc_law_odd_things : FnScope ["_law_source", "_law_word", "_law_things_here", "_law_kind", "_law_at", "_law_found", "_law_odd"] ["_law_source", "_law_word", "_law_things_here"] (defScope s_law_odd_things) := ⟨rfl, rfl, rfl, by decide +kernel, rfl, by decide +kernel, by decide +kernel⟩
theorem sc_law_spoilt : FnScope ["_law_source", "_law_parts", "_law_at", "_law_found", "_law_names", "_law_numbers", "_law_words", "_law_hangs", "_law_some"] ["_law_source", "_law_parts", "_law_at"] (defScope s_law_spoilt) := ⟨rfl, rfl, rfl, by decide +kernel, rfl, by decide +kernel, by decide +kernel⟩
theorem sc_law_refused : FnScope ["_law_parts", "_law_house", "_law_number_here", "_law_tick", "_law_word", "_law_things_here", "_law_hangs", "e"] ["_law_parts"] (defScope s_law_refused) := ⟨rfl, rfl, rfl, by decide +kernel, rfl, by decide +kernel, by decide +kernel⟩
theorem sc_law : FnScope ["_law_script", "_law_whys", "_law_cell", "_law_source", "_law_parts", "_law_some", "_law_found", "_law_at", "_law_turn"] ["_law_script"] (defScope s_law) := ⟨rfl, rfl, rfl, by decide +kernel, rfl, by decide +kernel, by decide +kernel⟩
end Lw

namespace Lw
open PySem PySem.Spec PyProof.Rows L2 TP
section
variable {P : Program} {w : World} {K : PySem.W.Frag} {mg : Str → Option Value} {base : Heap}

end
abbrev RwL : PySem.W.OpenRow := PySem.W.OpenLaw.row PySem.Challenge.rw_trailpost_k24_scans_refused
def loose0 : List Str := ["_wall", "PostError", "NoDeed", "NoScan", "Clash", "NoText", "LETTERS", "MOST_LETTERS", "is_name", "is_address", "is_whole", "is_from", "is_between", "MOST_WEIGHT", "WHYS", "is_mark", "are_marks", "are_rising", "is_load", "are_loads", "are_posted", "are_bagged", "are_opened", "are_shut", "are_late", "are_moved", "are_handed", "are_forwarded", "are_refused", "are_passed"]
def loose1 : List Str := ["LOOKS", "are_things", "are_causes", "Scan", "_law_source_of", "_law_next", "_law_one", "_law_name", "_law_number", "_law_mark", "_law_address", "_law_bags", "_law_loads", "_law_things", "_law_drawn", "_law_other", "_law_odd_loads", "_law_odd_things", "_law_spoilt", "_law_refused"]
def loose : List Str := loose0 ++ loose1
abbrev hk : PySem.W.Hook := hookM 6 fa fn ts ex
def ob (s : PySem.W.SharedT) : AlM := obsM 6 fa fn ts ex (HandSHeadRun.getT s)
theorem ob_eq (s : PySem.W.SharedT) : ob s = hk.obs s.abs := obsM_eq (HandSHeadRun.getT_eq s)
theorem run0t (w : World) : HandSHeadRun.RunEq RwL (PySem.W.view RwL.prog [54]) hk ob 6000 loose (w.withFollow "special-get-raises" true) := by
  intro os; kernel_rfl
theorem run0f (w : World) : HandSHeadRun.RunEq RwL (PySem.W.view RwL.prog [54]) hk ob 6000 loose (w.withFollow "special-get-raises" false) := by
  intro os; kernel_rfl
theorem run0 (b : Bool) (w : World) : HandSHeadRun.RunEq RwL (PySem.W.view RwL.prog [54]) hk ob 6000 loose (w.withFollow "special-get-raises" b) := by
  cases b
  · exact run0f w
  · exact run0t w
theorem run (w : World) : HandSHeadRun.RunEq RwL (PySem.W.view RwL.prog [54]) hk ob 6000 loose w := by
  have h := run0 (w.params.followText "special-get-raises") w
  rwa [World.withFollow_self] at h
end Lw

namespace HT
open PySem PySem.Spec PyProof.Rows
section
variable {prog : Program} {w : World} {A : Around} {E : Value → Shared → Prop} {s : Shared}
theorem adjust_rev (n : Nat) : Builtin.Slice.sliceAdjust none none (-1) (n : Int) = ((n : Int) - 1, -1) := rfl
theorem places_rev (n : Nat) : Builtin.Slice.slicePlaces ((n : Int) - 1) (-1) (-1) = n := by
  unfold Builtin.Slice.slicePlaces
  have h1 : ¬ ((-1 : Int) > 0) := by omega
  have h2 : -(-1 : Int) = 1 := rfl
  simp only [h1, if_false, h2, Int.ediv_one]
  split <;> omega
theorem sliceApplied_rev {sl : Addr} {vl vu vs : Value} {n : Nat} {Q : Int × Int × Nat → Shared → Prop} (hs : s.heap.IsSliceOf sl vl vu vs) (pl : IsPart vl none) (pu : IsPart vu none) (ps : IsPart vs (some (-1)))
    (h : Q ((n : Int) - 1, -1, n) s) : wpAny (model prog w) A (Builtin.Slice.sliceApplied (.ref sl) (pure (n : Int))) Q E s := by
  obtain ⟨os, hos, hcs, hds⟩ := id hs
  unfold Builtin.Slice.sliceApplied Builtin.Slice.sliceFields
  refine wpAny_bind (wpAny_bind (wpAny_field hos hds (x := vl) rfl (wpAny_bind (wpAny_field hos hds (x := vu) rfl (wpAny_bind (wpAny_field hos hds (x := vs) rfl (wpAny_pure ?_)))))))
  refine wpAny_bind (slicePart_ ps ?_)
  show wpAny _ _ (if ((-1 : Int) == 0) = true then _ else _) _ _ s
  rw [if_neg (by decide)]
  refine wpAny_bind (slicePart_ pl (wpAny_bind (slicePart_ pu (wpAny_bind (wpAny_pure ?_)))))
  show wpAny _ _ (match Builtin.Slice.sliceAdjust none none (-1) (n : Int) with | (lo, hi) => pure (lo, (-1 : Int), Builtin.Slice.slicePlaces lo hi (-1))) _ _ s
  rw [adjust_rev]
  show wpAny _ _ (pure ((n : Int) - 1, (-1 : Int), Builtin.Slice.slicePlaces ((n : Int) - 1) (-1) (-1))) _ _ s
  rw [places_rev]
  exact wpAny_pure h
theorem fm_some {α β : Type} {f : α → Option β} {g : α → β} : ∀ {l : List α}, (∀ m ∈ l, f m = some (g m)) → l.filterMap f = l.map g
  | [], _ => rfl
  | a :: l, h => by
    rw [List.filterMap_cons, h a List.mem_cons_self, List.map_cons, fm_some fun m hm => h m (List.mem_cons_of_mem _ hm)]
theorem pick_rev (xs : Array Value) : ((List.range xs.size).filterMap fun (m : Nat) => xs[(((xs.size : Int) - 1) + (m : Int) * (-1)).toNat]?).toArray = xs.toList.reverse.toArray := by
  congr 1
  apply List.ext_getElem?
  intro i
  have e : (List.range xs.size).filterMap (fun (m : Nat) => xs[(((xs.size : Int) - 1) + (m : Int) * (-1)).toNat]?) = (List.range xs.size).map (fun m => (xs.toList.reverse[m]?).getD .none) := by
    refine fm_some fun m hm => ?_
    have hm' : m < xs.size := List.mem_range.mp hm
    have q : (((xs.size : Int) - 1) + (m : Int) * (-1)).toNat = xs.size - 1 - m := by omega
    have l : m < xs.toList.length := by simpa using hm'
    have r : xs.toList.reverse[m]? = xs[xs.size - 1 - m]? := by
      rw [List.getElem?_reverse l, Array.length_toList, Array.getElem?_toList]
    show xs[(((xs.size : Int) - 1) + (m : Int) * (-1)).toNat]? = some ((xs.toList.reverse[m]?).getD .none)
    rw [q, r]
    have : xs.size - 1 - m < xs.size := by omega
    rw [Array.getElem?_eq_getElem this]
    rfl
  rw [e, List.getElem?_map]
  by_cases h : i < xs.size
  · rw [List.getElem?_range h]
    have l : i < xs.toList.reverse.length := by simpa using h
    show some ((xs.toList.reverse[i]?).getD .none) = _
    rw [List.getElem?_eq_getElem l]
    rfl
  · rw [List.getElem?_eq_none (by simpa using h), List.getElem?_eq_none (by simpa using h)]
    rfl
theorem getItem_tuple_rev {t sl : Addr} {items : Array Value} {vl vu vs : Value} {Q : Value → Shared → Prop} (ht : IsTup s.heap t items) (hs : s.heap.IsSliceOf sl vl vu vs) (pl : IsPart vl none) (pu : IsPart vu none) (ps : IsPart vs (some (-1)))
    (h : Q (.ref s.heap.objs.size) { s with heap := s.heap.push { cls := .type "tuple", data := .seq items.toList.reverse.toArray } })
    (hsz : items.size ≤ sizeLine) : wpAny (model prog w) A (getItem (.ref t) (.ref sl)) Q E s := by
  have htake : sizeOk (.seq items.toList.reverse.toArray) := by
    show items.toList.reverse.toArray.size ≤ sizeLine
    rw [List.size_toArray, List.length_reverse, Array.length_toList]
    exact hsz
  obtain ⟨os, hos, hcs, hds⟩ := id hs
  have hTs : s.TypeIs (.ref sl) "slice" := ⟨os, hos, hcs⟩
  unfold getItem
  try with_reducible refine wpAny_holding ?_
  first | refine wpAny_bind (wpAny_pure ?_) | skip
  refine wpAny_bind (wpAny_sequenceKey ht.typeIs (by decide) ?_)
  refine wpAny_bind (wpAny_callSpecial?_slot (name := Str.ofString "__getitem__") ht.typeIs PyProof.Rows.slot_tuple_getitem
    (wpAny_call_entry PyProof.Rows.slot_tuple_getitem ht.typeIs entry_tuple_getitem ?_ (args_tuple_getitem _ _)))
  show wpAny _ _ (Builtin.Tuple.tupleItemsOf (.ref t) >>= _) _ _ s
  refine wpAny_bind (tupleItemsOf_ ht ?_)
  refine wpAny_bind (wpAny_typeOf hTs ?_)
  rw [if_pos (by decide)]
  refine wpAny_bind (sliceApplied_rev hs pl pu ps ?_)
  have hno : ¬ ((((items.size : Int) - 1) == 0 && (-1 : Int) == 1 && items.size == items.size) = true) := by
    intro q
    rw [Bool.and_eq_true, Bool.and_eq_true] at q
    exact absurd q.1.2 (by decide)
  show wpAny _ _ (if (((items.size : Int) - 1) == 0 && (-1 : Int) == 1 && items.size == items.size) = true then _ else _) _ _ s
  rw [if_neg hno, pick_rev]
  first
    | exact wpAny_bind (m := Builtin.Tuple.tupleExact _) (wpAny_newObj_type (wpAny_pure ⟨_, rfl, wpAny_pure h⟩) htake)
    | exact wpAny_bind (m := Builtin.Tuple.tupleExact _) (wpAny_newObj_type (wpAny_bind (wpAny_pure (wpAny_pure ⟨_, rfl, wpAny_pure h⟩))) htake)
    | exact wpAny_bind (wpAny_bind (m := Builtin.Tuple.tupleExact _) (wpAny_newObj_type (wpAny_pure (wpAny_pure ⟨_, rfl, wpAny_pure h⟩)) htake))
    | exact wpAny_bind (wpAny_bind (m := Builtin.Tuple.tupleExact _) (wpAny_newObj_type (wpAny_pure ⟨_, rfl, wpAny_pure h⟩) htake))
end
end HT
namespace TP
open PySem PySem.Spec PyProof.Rows L2
section
variable {X : Cx}
/-! ### t[::-1] of a tuple -/
def tRevT (K : PySem.W.Frag) (te : TE) : TE := fun σ H Q => te σ H fun x H1 => ∃ a xs, x = .ref a ∧ SqT K H1 a xs ∧ ∀ p, H1 p = none → Q (.ref p) (upd H1 p (.tup xs.reverse))
theorem pe_revT {e : Expr} {te : TE} {k : Nat} {p1 p2 p3 pos : Pos} (he : PE X e te) : PE X (.Subscript e (.Slice none none (some (.UnaryOp .USub (.Constant (.int 1) k p1) p2)) p3) pos) (tRevT X.K te) := by
  refine ⟨fun pins s σ H Q I h => ?_⟩
  refine Subscript_ (thn (he.run pins s σ H _ I h) fun v s1 ⟨x, H1, I1, r1, q1⟩ => ?_)
  obtain ⟨a, xs, ex, hx, q⟩ := q1
  subst ex
  cases r1
  have hst : PO X (some (.UnaryOp .USub (.Constant (.int 1) k p1) p2)) (tPart (tUn (rU fun i => .int (-i)) (tC (.int 1)))) := po_some (pe_un un_neg pe_int)
  refine wpAny_Slice (thn (po_none.run pins s1 σ H1 (fun o H2 => o = none ∧ H2 = H1) I1 ⟨rfl, rfl⟩) fun vl s2 ⟨l, H2, I2, pl, el, e2⟩ => ?_)
  subst el e2
  refine thn (po_none.run pins s2 σ H2 (fun o H3 => o = none ∧ H3 = H2) I2 ⟨rfl, rfl⟩) fun vu s3 ⟨u, H3, I3, pu, eu, e3⟩ => ?_
  subst eu e3
  refine thn (hst.run pins s3 σ H3 (fun o H4 => o = some (-1) ∧ H4 = H3) I3 ⟨1, rfl, -1, rfl, rfl, rfl⟩) fun vs s4 ⟨o, H4, I4, ps, eo, e4⟩ => ?_
  subst eo e4
  have I5 : Inv X pins σ H4 { s4 with heap := s4.heap.push { cls := .type "slice", data := .fields #[vl, vu, vs] } } := I4.kept (t' := s4.toks) fun b ob q => Heap.get?_push_of_some _ q
  obtain ⟨its, r, ht, hz⟩ := I5.tuple hx
  have hlen := r.length
  show wpAny (model X.prog X.w) X.A (subscriptTail e (.Slice none none (some (.UnaryOp .USub (.Constant (.int 1) k p1) p2)) p3) (.ref a) (.ref s4.heap.objs.size)) (EP X pins σ Q) X.xe { s4 with heap := s4.heap.push { cls := .type "slice", data := .fields #[vl, vu, vs] } }
  refine tail_any (ops := [.ref a, .ref s4.heap.objs.size]) ht.typeIs (PyProof.Rows.slot_tuple_getitem.lookup) ?_ (by with_unfolding_all rfl)
  refine HT.getItem_tuple_rev ht (Heap.IsSliceOf.new _ vl vu vs) pl pu ps ?_ (by rw [List.size_toArray]; omega)
  refine ⟨.ref _, _, I5.laid (t' := s4.toks) (o := .tup xs.reverse) (fun b ob q => Heap.get?_push_of_some _ q) (Nat.le_refl _) ?_, rfl, q _ (I5.hok.fresh (Nat.le_refl _))⟩
  exact ⟨by rw [List.length_reverse]; exact hz, _, r.reverse, IsTup.new _ _⟩
end
end TP

namespace TP
open PySem PySem.Spec PyProof.Rows L2
section
variable {P : Program} {w : World} {A : Around} {E : Value → Shared → Prop} {s : Shared}
/-! ### set(xs), xs a list of ints -/
theorem set_of_ints {l : Addr} {its : Array Value} {ns : List Int} {Q : Value → Shared → Prop} (hh : A.handled = none) (hl : s.heap.IsList l its) (hi : IntsAre its.toList ns) (few : ns.length + 1 < scanBound)
    (h : ∀ (h' : Heap) (tk c : Nat), SetR w h' s.heap.objs.size (fun j => decide (j ∈ ns)) c → c ≤ ns.length → (∀ b o, s.heap.get? b = some o → h'.get? b = some o) → Q (.ref s.heap.objs.size) { s with heap := h', toks := tk }) :
    wpAny (model P w) A (call (.type "set") [.ref l]) Q E s := by
  obtain ⟨c0, c1, mro⟩ := PySem.F.called_set.mro
  have made := PySem.F.called_set.made
  have sub0 := PySem.F.called_set.sub
  have not := PySem.F.called_set.notType
  have can := PySem.F.called_set.canCreate
  have tc := PySem.F.typeCall_set_1 (.ref l)
  refine wpAny_call (codeAny_of_tree (wpAny_pure ⟨Code.quiet_builtin _ (by decide +kernel), codeAny_builtin PySem.F.entry_type_call ?_⟩))
  rw [Around.under_plain (weight_type_call_type "set" [.ref l] []) rfl]
  repeat (any_goals (first | assumption | wp_step))
  refine codeAny_mono (code_set_led1 (.ref l) (E := E) (Q₁ := fun ob s1 => ob = .ref s.heap.objs.size ∧ s1 = { s with heap := s.heap.push (newSet (!w.params.followText "set-order")) }) ⟨rfl, rfl⟩) fun r s1 hr => ?_
  cases r with
  | error e => exact hr
  | ok fl =>
    cases fl with
    | next => exact hr.elim
    | brk => exact hr.elim
    | cont => exact hr.elim
    | ret ob =>
      obtain ⟨rfl, rfl⟩ := hr
      have at0 : (s.heap.push (newSet (!w.params.followText "set-order"))).get? s.heap.objs.size = some (newSet (!w.params.followText "set-order")) := Heap.get?_push_size _ rfl
      have ty0 : Shared.TypeIs { s with heap := s.heap.push (newSet (!w.params.followText "set-order")) } (.ref s.heap.objs.size) "set" := ⟨_, at0, rfl⟩
      have li := PySem.F.called_set.init.lookup
      have bi := PySem.F.called_set.init.bind (.ref s.heap.objs.size)
      repeat (any_goals (first | assumption | wp_step))
      refine codeAny_mono (codeAny_call_builtin (R := wants (fun r s2 => r = .none ∧ ∃ h' tk c, s2 = { s with heap := h', toks := tk } ∧ SetR w h' s.heap.objs.size (fun j => decide (j ∈ ns)) c ∧ c ≤ ns.length ∧ ∀ b o, s.heap.get? b = some o → h'.get? b = some o) E) PySem.F.called_set.init.plain PySem.F.entry_set_init (check_set_init_1 ty0 ?_)) fun r2 s2 hr2 => ?_
      · obtain ⟨⟨oc, od, odt, os⟩, ho, k1, nl, k2⟩ := hl
        dsimp only at k1 k2
        subst k1 k2
        have at1 : (s.heap.push (newSet (!w.params.followText "set-order"))).get? l = some { cls := .type "list", dict := od, data := .seq its nl, slots := os } := Heap.get?_push_of_some _ ho
        have b1 := PySem.F.sub_list_set
        have b2 := PySem.F.sub_list_frozenset
        have b3 : (Value.type "list" == Value.type "dict") = false := by decide
        have row : (s.heap.push (newSet (!w.params.followText "set-order"))).IsList l its := ⟨_, at1, rfl, nl, rfl⟩
        unfold Builtin.«set.__init__» noKeywords Builtin.Frozenset.updateFrom
        generalize hp : pyIter = PI
        wp_walk
        subst hp
        refine wpAny_pyIter_list row (wpAny_bind (wpAny_runValue ?_))
        have ls : l < s.heap.objs.size := Heap.lt_size ho
        have sz : its.size = ns.length := by rw [← Array.length_toList]; exact IntsAre.length hi
        have e1 : (s.heap.push (newSet (!w.params.followText "set-order"))).objs.size = s.heap.objs.size + 1 := Heap.size_push ..
        have gone : ∀ b, s.heap.objs.size ≤ b → s.heap.get? b = none := fun b hb => by
          cases q : s.heap.get? b with
          | none => rfl
          | some o => exact absurd (Nat.lt_of_lt_of_le (Heap.lt_size q) hb) (Nat.lt_irrefl _)
        refine set_update_ints ((Walks.list (by simp [hh]) _ l (by rw [e1]; exact Nat.ne_of_lt (Nat.lt_succ_of_lt ls)) its).toS) s.heap.objs.size (by
            rw [e1]
            simp only [List.mem_cons, List.not_mem_nil, or_false, not_or]
            exact ⟨Nat.ne_of_lt (Nat.lt_succ_self _), Nat.ne_of_gt ls⟩) ns sz few (fun i v hv => ?_) (its.size - 0) 0 _ (by omega) (Nat.zero_le _)
          ⟨⟨_, Heap.get?_push_size _ rfl, rfl, rfl⟩, row.push _⟩ ⟨0, Nat.le_refl 0, setR_new_at (Heap.get?_push_of_some _ at0)⟩ ?_
        · have il : i < ns.length := by rw [← sz]; exact (Array.getElem?_eq_some_iff.mp hv).1
          obtain ⟨t, e⟩ := PyProof.Rows.IntsAre.int_at hi i v (by rw [Array.getElem?_toList]; exact hv)
          refine ⟨ns[i], t, List.getElem?_eq_getElem il, ?_⟩
          rw [e, List.getD_eq_getElem?_getD, List.getElem?_eq_getElem il] <;> rfl
        · intro s' c mv cl q
          obtain ⟨h', g', d', tk', os'⟩ := s'
          obtain rfl : g' = s.gens := mv.gens
          obtain rfl : d' = s.drawn := mv.drawn
          obtain rfl : os' = s.os := mv.os
          rw [sz] at cl
          refine wpAny_pure (wpAny_pure ⟨rfl, h', tk', c, rfl, q, cl, fun b o e => ?_⟩)
          have b0 : b < s.heap.objs.size := Heap.lt_size e
          exact mv.heap b o (by
            rw [e1]
            simp only [List.mem_cons, List.not_mem_nil, or_false, not_or]
            exact ⟨Nat.ne_of_lt b0, Nat.ne_of_lt (Nat.lt_succ_of_lt b0)⟩) (Heap.get?_push_of_some _ (Heap.get?_push_of_some _ e))
      · cases r2 with
        | error e => exact hr2
        | ok fl2 =>
          cases fl2 with
          | next => exact hr2.elim
          | brk => exact hr2.elim
          | cont => exact hr2.elim
          | ret r =>
            obtain ⟨rfl, h', tk, c, rfl, q1, q2, q3⟩ := hr2
            repeat (any_goals (first | assumption | wp_step))
            exact h _ _ _ q1 q2 q3
end
section
variable {X : Cx}
def rSetI (K : PySem.W.Frag) (w : World) : List V → Hp → VK → Prop := fun xs H Q => ∃ (l : Addr) (ns : List Int), xs = [.ref l] ∧ SqL K H l (ns.map V.int) ∧ ns.length ≤ 50 ∧
  ∀ a c, H a = none → c ≤ ns.length → Q (.ref a) (upd H a (SetO w a (fun j => decide (j ∈ ns)) c))
theorem cr_setI (hc : X.calm = true) : CallR X (.type "set") (rSetI X.K X.w) := by
  intro pins s σ H xs us Q I r h
  obtain ⟨l, ns, rfl, hl, hn, q⟩ := h
  rw [Vals.ref1 r]
  obtain ⟨its, rv, pl, hz⟩ := I.list hl
  have hn0 : H s.heap.objs.size = none := I.hok.fresh (Nat.le_refl _)
  refine set_of_ints (P := X.prog) (w := X.w) (ns := ns) (I.ok.hd hc) pl.isList (by simpa using intsAre_of rv) (by unfold scanBound; omega) fun h' tk c R cl k => ?_
  exact ⟨.ref s.heap.objs.size, upd H s.heap.objs.size (SetO X.w s.heap.objs.size (fun j => decide (j ∈ ns)) c), I.laid (t' := tk) k (Nat.le_refl _) (setO_new R), rfl, q _ c hn0 cl⟩
end
end TP

namespace TP
open PySem PySem.Spec PyProof.Rows L2
/-! ### scans refused: what is amiss, as data -/
abbrev pS (z : Str) : PyData := .str z
abbrev pI (i : Int) : PyData := .int i
def othersD : List PyData := [.list [], .tuple [], pI (-1), pS "A b", .tuple [pS "a"], .tuple [pS "a", pI (-1)], .tuple [pS "A", pI 0], .tuple [pS "a", pI 0, pI 0], .list [pS "a", pI 0], .dict [], .tuple [pS "a", pS "0"], .tuple [pI 0, pS "a"]]
def OddD (d e : PyData) : Prop := e ∈ othersD ∨ (e = .bool true ∧ isBoolD d = false)
def oddAll (e : PyData) : Bool := !isMarkD e && !isAdD e && !isNmD e && !isFromD e 0 && !isFromD e 1 && !isBetwD e 1 99 && !areMarksD e && !isNoneD e && !isWhyD e
theorem odd_all : (othersD ++ [PyData.bool true]).all oddAll = true := by decide +kernel
theorem odd_bool : othersD.all (fun e => !isBoolD e) = true := by decide +kernel
structure OddF (d e : PyData) : Prop where
  mr : isMarkD e = false
  ad : isAdD e = false
  nm : isNmD e = false
  f0 : isFromD e 0 = false
  f1 : isFromD e 1 = false
  bt : isBetwD e 1 99 = false
  ms : areMarksD e = false
  no : isNoneD e = false
  wy : isWhyD e = false
  bl : isBoolD d = true → isBoolD e = false
theorem OddD.f {d e : PyData} (h : OddD d e) : OddF d e := by
  have a := odd_all
  rw [List.all_eq_true] at a
  have b : e ∈ othersD ++ [PyData.bool true] := by
    rcases h with h | ⟨rfl, _⟩
    · exact List.mem_append_left _ h
    · exact List.mem_append_right _ List.mem_cons_self
  have q := a e b
  unfold oddAll at q
  simp only [Bool.and_eq_true, Bool.not_eq_true'] at q
  obtain ⟨⟨⟨⟨⟨⟨⟨⟨q1, q2⟩, q3⟩, q4⟩, q5⟩, q6⟩, q7⟩, q8⟩, q9⟩ := q
  refine ⟨q1, q2, q3, q4, q5, q6, q7, q8, q9, fun z => ?_⟩
  rcases h with h | ⟨_, h⟩
  · have c := odd_bool
    rw [List.all_eq_true] at c
    simpa using c e h
  · rw [z] at h
    cases h
/-- amiss at the i-th part -/
def BadT (wd : Str) (e : PyData) : Prop := ∀ q, (LK.find? fun q => decide (q.w = wd)) = some q → thingsD q e = false
def oddWords : List Str := ["", "Posted", "lost", "pass"]
def Bad (wd : Str) (ds : List PyData) : Nat → PyData → Prop
  | 0, e => isNmD e = false
  | 1, e => isFromD e 0 = false
  | 2, e => isFromD e 0 = false
  | 3, e => ∀ w, e = .str w → w ∈ oddWords
  | 4, e => BadT wd e
  | 5, e => causesD wd (.tuple ds) e = false
  | _, _ => False
def whysD : List Str := ["house", "number", "tick", "word", "things", "causes"]
theorem oddWords_none : oddWords.all (fun w => (LK.find? fun q => decide (q.w = w)).isNone) = true := by decide +kernel
/-- the first part amiss is told -/
theorem amiss_first {d0 d1 d2 : PyData} {wd : Str} {ds cs : List PyData} (h : Parts d0 d1 d2 wd ds cs) {s : Nat} {f : Nat → PyData} (hs : s < 6) (hb : Bad wd ds s (f s))
    (o0 : 0 < s → f 0 = d0) (o1 : 1 < s → f 1 = d1) (o2 : 2 < s → f 2 = d2) (o3 : 3 < s → f 3 = .str wd) (o4 : 4 < s → f 4 = .tuple ds) : amissD (f 0) (f 1) (f 2) (f 3) (f 4) (f 5) = some (whysD.getD s "") := by
  obtain ⟨q, fd, th⟩ := h.g.is
  unfold amissD
  match s, hs with
  | 0, _ => rw [if_pos (show isNmD (f 0) = false from hb)]; rfl
  | 1, _ => rw [o0 (by omega), if_neg (by rw [h.h.is]; decide), if_pos (show isFromD (f 1) 0 = false from hb)]; rfl
  | 2, _ => rw [o0 (by omega), o1 (by omega), if_neg (by rw [h.h.is]; decide), if_neg (by rw [h.n.is]; decide), if_pos (show isFromD (f 2) 0 = false from hb)]; rfl
  | 3, _ =>
    rw [o0 (by omega), o1 (by omega), o2 (by omega), if_neg (by rw [h.h.is]; decide), if_neg (by rw [h.n.is]; decide), if_neg (by rw [h.t.is]; decide)]
    have hb : ∀ w, f 3 = .str w → w ∈ oddWords := hb
    generalize f 3 = e at hb
    cases e <;> try rfl
    rename_i w
    have a := oddWords_none
    rw [List.all_eq_true] at a
    have b := a w (hb w rfl)
    dsimp only
    rw [Option.isNone_iff_eq_none.mp b]
    rfl
  | 4, _ =>
    rw [o0 (by omega), o1 (by omega), o2 (by omega), o3 (by omega), if_neg (by rw [h.h.is]; decide), if_neg (by rw [h.n.is]; decide), if_neg (by rw [h.t.is]; decide)]
    dsimp only
    rw [fd]
    dsimp only
    rw [if_pos ((show BadT wd (f 4) from hb) q fd)]
    rfl
  | 5, _ =>
    rw [o0 (by omega), o1 (by omega), o2 (by omega), o3 (by omega), o4 (by omega), if_neg (by rw [h.h.is]; decide), if_neg (by rw [h.n.is]; decide), if_neg (by rw [h.t.is]; decide)]
    dsimp only
    rw [fd]
    dsimp only
    rw [if_neg (by rw [th]; decide), if_pos (show causesD wd (.tuple ds) (f 5) = false from hb)]
    rfl
/-! ### odd things -/
theorem badT_nt {wd : Str} {e : PyData} (h : ∀ ds, e ≠ .tuple ds) : BadT wd e := fun q _ => by
  cases e <;> first | rfl | exact absurd rfl (h _)
theorem badT_len {wd : Str} {ds es : List PyData} (g : GT wd ds) (h : es.length ≠ ds.length) : BadT wd (.tuple es) := fun q hq => by
  obtain ⟨q', fd, th⟩ := g.is
  rw [fd] at hq
  obtain rfl := Option.some.inj hq
  have : ds.length = q'.n := by
    have : (decide (ds.length = q'.n) && q'.P ds) = true := th
    rw [Bool.and_eq_true, decide_eq_true_eq] at this
    exact this.1
  show (decide (es.length = q'.n) && q'.P es) = false
  rw [decide_eq_false (by omega)]
  rfl
/-- the odd thing at j -/
def OddAt (wd : Str) (ds : List PyData) (j : Nat) (e : PyData) : Prop :=
  (∃ d, ds[j]? = some d ∧ OddD d e) ∨ (wd = "moved" ∧ j = 4 ∧ ∃ i : Int, e = .int i ∧ i < 0) ∨ (wd = "posted" ∧ j = 3 ∧ e ∈ [pI 0, pI 100, pI (-1), PyData.bool true]) ∨ (wd = "late" ∧ j = 2 ∧ e = .int 0) ∨
  (wd = "bagged" ∧ j = 3 ∧ areMarksD e = false) ∨ ((wd = "sentback" ∨ wd = "laid") ∧ j = 1 ∧ isWhyD e = false)
theorem badT_find {wd : Str} {e : PyData} {q : Look} (hq : (LK.find? fun q => decide (q.w = wd)) = some q) (h : thingsD q e = false) : BadT wd e := fun q' hq' => by
  rw [hq] at hq'
  obtain rfl := Option.some.inj hq'
  exact h
theorem OddAt.bad {wd : Str} {ds : List PyData} {j : Nat} {e : PyData} (g : GT wd ds) (hj : j < ds.length) (np : wd ≠ "passed") (h : OddAt wd ds j e) : BadT wd (.tuple (ds.set j e)) := by
  cases g with
  | posted a b c d e' f =>
    refine badT_find rfl ?_
    match j, hj with
    | 0, _ =>
      rcases h with ⟨d, hd, o⟩ | ⟨z, y, i, rfl, lt⟩ | ⟨z, y, m⟩ | ⟨z, y, rfl⟩ | ⟨z, y, m⟩ | ⟨z, y, m⟩
      all_goals first | exact absurd z (by decide) | exact absurd y (by decide) | skip
      all_goals try (
        have F := o.f
        have hd := Option.some.inj hd
        simp [thingsD, postedD, baggedD, openedD, shutD, lateD, movedD, handedD, forwardedD, F.mr, F.ad, F.nm, F.f0, F.f1, F.bt, F.ms, F.no]
        done)
    | 1, _ =>
      rcases h with ⟨d, hd, o⟩ | ⟨z, y, i, rfl, lt⟩ | ⟨z, y, m⟩ | ⟨z, y, rfl⟩ | ⟨z, y, m⟩ | ⟨z, y, m⟩
      all_goals first | exact absurd z (by decide) | exact absurd y (by decide) | skip
      all_goals try (
        have F := o.f
        have hd := Option.some.inj hd
        simp [thingsD, postedD, baggedD, openedD, shutD, lateD, movedD, handedD, forwardedD, F.mr, F.ad, F.nm, F.f0, F.f1, F.bt, F.ms, F.no]
        done)
    | 2, _ =>
      rcases h with ⟨d, hd, o⟩ | ⟨z, y, i, rfl, lt⟩ | ⟨z, y, m⟩ | ⟨z, y, rfl⟩ | ⟨z, y, m⟩ | ⟨z, y, m⟩
      all_goals first | exact absurd z (by decide) | exact absurd y (by decide) | skip
      all_goals try (
        have F := o.f
        have hd := Option.some.inj hd
        simp [thingsD, postedD, baggedD, openedD, shutD, lateD, movedD, handedD, forwardedD, F.mr, F.ad, F.nm, F.f0, F.f1, F.bt, F.ms, F.no]
        done)
    | 3, _ =>
      rcases h with ⟨d, hd, o⟩ | ⟨z, y, i, rfl, lt⟩ | ⟨z, y, m⟩ | ⟨z, y, rfl⟩ | ⟨z, y, m⟩ | ⟨z, y, m⟩
      all_goals first | exact absurd z (by decide) | exact absurd y (by decide) | skip
      all_goals try (
        have F := o.f
        have hd := Option.some.inj hd
        simp [thingsD, postedD, baggedD, openedD, shutD, lateD, movedD, handedD, forwardedD, F.mr, F.ad, F.nm, F.f0, F.f1, F.bt, F.ms, F.no]
        done)
      simp only [List.mem_cons, List.not_mem_nil, or_false] at m
      rcases m with rfl | rfl | rfl | rfl <;> simp [thingsD, postedD, isBetwD]
    | 4, _ =>
      rcases h with ⟨d, hd, o⟩ | ⟨z, y, i, rfl, lt⟩ | ⟨z, y, m⟩ | ⟨z, y, rfl⟩ | ⟨z, y, m⟩ | ⟨z, y, m⟩
      all_goals first | exact absurd z (by decide) | exact absurd y (by decide) | skip
      all_goals try (
        have F := o.f
        have hd := Option.some.inj hd
        simp [thingsD, postedD, baggedD, openedD, shutD, lateD, movedD, handedD, forwardedD, F.mr, F.ad, F.nm, F.f0, F.f1, F.bt, F.ms, F.no]
        done)
      have F := o.f
      have hd := Option.some.inj hd
      have := F.bl (by rw [← hd]; rfl)
      simp [thingsD, postedD, this]
    | 5, _ =>
      rcases h with ⟨d, hd, o⟩ | ⟨z, y, i, rfl, lt⟩ | ⟨z, y, m⟩ | ⟨z, y, rfl⟩ | ⟨z, y, m⟩ | ⟨z, y, m⟩
      all_goals first | exact absurd z (by decide) | exact absurd y (by decide) | skip
      all_goals try (
        have F := o.f
        have hd := Option.some.inj hd
        simp [thingsD, postedD, baggedD, openedD, shutD, lateD, movedD, handedD, forwardedD, F.mr, F.ad, F.nm, F.f0, F.f1, F.bt, F.ms, F.no]
        done)
  | bagged a b c d e' f g =>
    refine badT_find rfl ?_
    match j, hj with
    | 0, _ =>
      rcases h with ⟨d, hd, o⟩ | ⟨z, y, i, rfl, lt⟩ | ⟨z, y, m⟩ | ⟨z, y, rfl⟩ | ⟨z, y, m⟩ | ⟨z, y, m⟩
      all_goals first | exact absurd z (by decide) | exact absurd y (by decide) | skip
      all_goals try (
        have F := o.f
        have hd := Option.some.inj hd
        simp [thingsD, postedD, baggedD, openedD, shutD, lateD, movedD, handedD, forwardedD, F.mr, F.ad, F.nm, F.f0, F.f1, F.bt, F.ms, F.no]
        done)
    | 1, _ =>
      rcases h with ⟨d, hd, o⟩ | ⟨z, y, i, rfl, lt⟩ | ⟨z, y, m⟩ | ⟨z, y, rfl⟩ | ⟨z, y, m⟩ | ⟨z, y, m⟩
      all_goals first | exact absurd z (by decide) | exact absurd y (by decide) | skip
      all_goals try (
        have F := o.f
        have hd := Option.some.inj hd
        simp [thingsD, postedD, baggedD, openedD, shutD, lateD, movedD, handedD, forwardedD, F.mr, F.ad, F.nm, F.f0, F.f1, F.bt, F.ms, F.no]
        done)
    | 2, _ =>
      rcases h with ⟨d, hd, o⟩ | ⟨z, y, i, rfl, lt⟩ | ⟨z, y, m⟩ | ⟨z, y, rfl⟩ | ⟨z, y, m⟩ | ⟨z, y, m⟩
      all_goals first | exact absurd z (by decide) | exact absurd y (by decide) | skip
      all_goals try (
        have F := o.f
        have hd := Option.some.inj hd
        simp [thingsD, postedD, baggedD, openedD, shutD, lateD, movedD, handedD, forwardedD, F.mr, F.ad, F.nm, F.f0, F.f1, F.bt, F.ms, F.no]
        done)
    | 3, _ =>
      rcases h with ⟨d, hd, o⟩ | ⟨z, y, i, rfl, lt⟩ | ⟨z, y, m⟩ | ⟨z, y, rfl⟩ | ⟨z, y, m⟩ | ⟨z, y, m⟩
      all_goals first | exact absurd z (by decide) | exact absurd y (by decide) | skip
      all_goals try (
        have F := o.f
        have hd := Option.some.inj hd
        simp [thingsD, postedD, baggedD, openedD, shutD, lateD, movedD, handedD, forwardedD, F.mr, F.ad, F.nm, F.f0, F.f1, F.bt, F.ms, F.no]
        done)
      simp [thingsD, baggedD, m]
  | opened a =>
    refine badT_find rfl ?_
    match j, hj with
    | 0, _ =>
      rcases h with ⟨d, hd, o⟩ | ⟨z, y, i, rfl, lt⟩ | ⟨z, y, m⟩ | ⟨z, y, rfl⟩ | ⟨z, y, m⟩ | ⟨z, y, m⟩
      all_goals first | exact absurd z (by decide) | exact absurd y (by decide) | skip
      all_goals try (
        have F := o.f
        have hd := Option.some.inj hd
        simp [thingsD, postedD, baggedD, openedD, shutD, lateD, movedD, handedD, forwardedD, F.mr, F.ad, F.nm, F.f0, F.f1, F.bt, F.ms, F.no]
        done)
  | shut a b c =>
    refine badT_find rfl ?_
    match j, hj with
    | 0, _ =>
      rcases h with ⟨d, hd, o⟩ | ⟨z, y, i, rfl, lt⟩ | ⟨z, y, m⟩ | ⟨z, y, rfl⟩ | ⟨z, y, m⟩ | ⟨z, y, m⟩
      all_goals first | exact absurd z (by decide) | exact absurd y (by decide) | skip
      all_goals try (
        have F := o.f
        have hd := Option.some.inj hd
        simp [thingsD, postedD, baggedD, openedD, shutD, lateD, movedD, handedD, forwardedD, F.mr, F.ad, F.nm, F.f0, F.f1, F.bt, F.ms, F.no]
        done)
    | 1, _ =>
      rcases h with ⟨d, hd, o⟩ | ⟨z, y, i, rfl, lt⟩ | ⟨z, y, m⟩ | ⟨z, y, rfl⟩ | ⟨z, y, m⟩ | ⟨z, y, m⟩
      all_goals first | exact absurd z (by decide) | exact absurd y (by decide) | skip
      all_goals try (
        have F := o.f
        have hd := Option.some.inj hd
        simp [thingsD, postedD, baggedD, openedD, shutD, lateD, movedD, handedD, forwardedD, F.mr, F.ad, F.nm, F.f0, F.f1, F.bt, F.ms, F.no]
        done)
  | late a b c d e' =>
    refine badT_find rfl ?_
    match j, hj with
    | 0, _ =>
      rcases h with ⟨d, hd, o⟩ | ⟨z, y, i, rfl, lt⟩ | ⟨z, y, m⟩ | ⟨z, y, rfl⟩ | ⟨z, y, m⟩ | ⟨z, y, m⟩
      all_goals first | exact absurd z (by decide) | exact absurd y (by decide) | skip
      all_goals try (
        have F := o.f
        have hd := Option.some.inj hd
        simp [thingsD, postedD, baggedD, openedD, shutD, lateD, movedD, handedD, forwardedD, F.mr, F.ad, F.nm, F.f0, F.f1, F.bt, F.ms, F.no]
        done)
    | 1, _ =>
      rcases h with ⟨d, hd, o⟩ | ⟨z, y, i, rfl, lt⟩ | ⟨z, y, m⟩ | ⟨z, y, rfl⟩ | ⟨z, y, m⟩ | ⟨z, y, m⟩
      all_goals first | exact absurd z (by decide) | exact absurd y (by decide) | skip
      all_goals try (
        have F := o.f
        have hd := Option.some.inj hd
        simp [thingsD, postedD, baggedD, openedD, shutD, lateD, movedD, handedD, forwardedD, F.mr, F.ad, F.nm, F.f0, F.f1, F.bt, F.ms, F.no]
        done)
    | 2, _ =>
      rcases h with ⟨d, hd, o⟩ | ⟨z, y, i, rfl, lt⟩ | ⟨z, y, m⟩ | ⟨z, y, rfl⟩ | ⟨z, y, m⟩ | ⟨z, y, m⟩
      all_goals first | exact absurd z (by decide) | exact absurd y (by decide) | skip
      all_goals try (
        have F := o.f
        have hd := Option.some.inj hd
        simp [thingsD, postedD, baggedD, openedD, shutD, lateD, movedD, handedD, forwardedD, F.mr, F.ad, F.nm, F.f0, F.f1, F.bt, F.ms, F.no]
        done)
      simp [thingsD, lateD, isFromD]
  | moved a b c d e' =>
    refine badT_find rfl ?_
    match j, hj with
    | 0, _ =>
      rcases h with ⟨d, hd, o⟩ | ⟨z, y, i, rfl, lt⟩ | ⟨z, y, m⟩ | ⟨z, y, rfl⟩ | ⟨z, y, m⟩ | ⟨z, y, m⟩
      all_goals first | exact absurd z (by decide) | exact absurd y (by decide) | skip
      all_goals try (
        have F := o.f
        have hd := Option.some.inj hd
        simp [thingsD, postedD, baggedD, openedD, shutD, lateD, movedD, handedD, forwardedD, F.mr, F.ad, F.nm, F.f0, F.f1, F.bt, F.ms, F.no]
        done)
    | 1, _ =>
      rcases h with ⟨d, hd, o⟩ | ⟨z, y, i, rfl, lt⟩ | ⟨z, y, m⟩ | ⟨z, y, rfl⟩ | ⟨z, y, m⟩ | ⟨z, y, m⟩
      all_goals first | exact absurd z (by decide) | exact absurd y (by decide) | skip
      all_goals try (
        have F := o.f
        have hd := Option.some.inj hd
        simp [thingsD, postedD, baggedD, openedD, shutD, lateD, movedD, handedD, forwardedD, F.mr, F.ad, F.nm, F.f0, F.f1, F.bt, F.ms, F.no]
        done)
    | 2, _ =>
      rcases h with ⟨d, hd, o⟩ | ⟨z, y, i, rfl, lt⟩ | ⟨z, y, m⟩ | ⟨z, y, rfl⟩ | ⟨z, y, m⟩ | ⟨z, y, m⟩
      all_goals first | exact absurd z (by decide) | exact absurd y (by decide) | skip
      all_goals try (
        have F := o.f
        have hd := Option.some.inj hd
        simp [thingsD, postedD, baggedD, openedD, shutD, lateD, movedD, handedD, forwardedD, F.mr, F.ad, F.nm, F.f0, F.f1, F.bt, F.ms, F.no]
        done)
    | 3, _ =>
      rcases h with ⟨d, hd, o⟩ | ⟨z, y, i, rfl, lt⟩ | ⟨z, y, m⟩ | ⟨z, y, rfl⟩ | ⟨z, y, m⟩ | ⟨z, y, m⟩
      all_goals first | exact absurd z (by decide) | exact absurd y (by decide) | skip
      all_goals try (
        have F := o.f
        have hd := Option.some.inj hd
        simp [thingsD, postedD, baggedD, openedD, shutD, lateD, movedD, handedD, forwardedD, F.mr, F.ad, F.nm, F.f0, F.f1, F.bt, F.ms, F.no]
        done)
    | 4, _ =>
      rcases h with ⟨d, hd, o⟩ | ⟨z, y, i, rfl, lt⟩ | ⟨z, y, m⟩ | ⟨z, y, rfl⟩ | ⟨z, y, m⟩ | ⟨z, y, m⟩
      all_goals first | exact absurd z (by decide) | exact absurd y (by decide) | skip
      all_goals try (
        have F := o.f
        have hd := Option.some.inj hd
        simp [thingsD, postedD, baggedD, openedD, shutD, lateD, movedD, handedD, forwardedD, F.mr, F.ad, F.nm, F.f0, F.f1, F.bt, F.ms, F.no]
        done)
      simp [thingsD, movedD, isFromD, isNoneD]
      omega
  | handed a b =>
    refine badT_find rfl ?_
    match j, hj with
    | 0, _ =>
      rcases h with ⟨d, hd, o⟩ | ⟨z, y, i, rfl, lt⟩ | ⟨z, y, m⟩ | ⟨z, y, rfl⟩ | ⟨z, y, m⟩ | ⟨z, y, m⟩
      all_goals first | exact absurd z (by decide) | exact absurd y (by decide) | skip
      all_goals try (
        have F := o.f
        have hd := Option.some.inj hd
        simp [thingsD, postedD, baggedD, openedD, shutD, lateD, movedD, handedD, forwardedD, F.mr, F.ad, F.nm, F.f0, F.f1, F.bt, F.ms, F.no]
        done)
    | 1, _ =>
      rcases h with ⟨d, hd, o⟩ | ⟨z, y, i, rfl, lt⟩ | ⟨z, y, m⟩ | ⟨z, y, rfl⟩ | ⟨z, y, m⟩ | ⟨z, y, m⟩
      all_goals first | exact absurd z (by decide) | exact absurd y (by decide) | skip
      all_goals try (
        have F := o.f
        have hd := Option.some.inj hd
        simp [thingsD, postedD, baggedD, openedD, shutD, lateD, movedD, handedD, forwardedD, F.mr, F.ad, F.nm, F.f0, F.f1, F.bt, F.ms, F.no]
        done)
  | forwarded a b =>
    refine badT_find rfl ?_
    match j, hj with
    | 0, _ =>
      rcases h with ⟨d, hd, o⟩ | ⟨z, y, i, rfl, lt⟩ | ⟨z, y, m⟩ | ⟨z, y, rfl⟩ | ⟨z, y, m⟩ | ⟨z, y, m⟩
      all_goals first | exact absurd z (by decide) | exact absurd y (by decide) | skip
      all_goals try (
        have F := o.f
        have hd := Option.some.inj hd
        simp [thingsD, postedD, baggedD, openedD, shutD, lateD, movedD, handedD, forwardedD, F.mr, F.ad, F.nm, F.f0, F.f1, F.bt, F.ms, F.no]
        done)
    | 1, _ =>
      rcases h with ⟨d, hd, o⟩ | ⟨z, y, i, rfl, lt⟩ | ⟨z, y, m⟩ | ⟨z, y, rfl⟩ | ⟨z, y, m⟩ | ⟨z, y, m⟩
      all_goals first | exact absurd z (by decide) | exact absurd y (by decide) | skip
      all_goals try (
        have F := o.f
        have hd := Option.some.inj hd
        simp [thingsD, postedD, baggedD, openedD, shutD, lateD, movedD, handedD, forwardedD, F.mr, F.ad, F.nm, F.f0, F.f1, F.bt, F.ms, F.no]
        done)
  | passed => exact absurd rfl np
  | sentback a b =>
    refine badT_find rfl ?_
    match j, hj with
    | 0, _ =>
      rcases h with ⟨d, hd, o⟩ | ⟨z, y, i, rfl, lt⟩ | ⟨z, y, m⟩ | ⟨z, y, rfl⟩ | ⟨z, y, m⟩ | ⟨z, y, m⟩
      all_goals first | exact absurd z (by decide) | exact absurd y (by decide) | skip
      have F := o.f
      simp [thingsD, refusedD, F.mr]
    | 1, _ =>
      rcases h with ⟨d, hd, o⟩ | ⟨z, y, i, rfl, lt⟩ | ⟨z, y, m⟩ | ⟨z, y, rfl⟩ | ⟨z, y, m⟩ | ⟨z, y, m⟩
      all_goals first | exact absurd z (by decide) | exact absurd y (by decide) | skip
      · have F := o.f
        simp [thingsD, refusedD, F.wy]
      · simp [thingsD, refusedD, m]
  | laid a b =>
    refine badT_find rfl ?_
    match j, hj with
    | 0, _ =>
      rcases h with ⟨d, hd, o⟩ | ⟨z, y, i, rfl, lt⟩ | ⟨z, y, m⟩ | ⟨z, y, rfl⟩ | ⟨z, y, m⟩ | ⟨z, y, m⟩
      all_goals first | exact absurd z (by decide) | exact absurd y (by decide) | skip
      have F := o.f
      simp [thingsD, refusedD, F.mr]
    | 1, _ =>
      rcases h with ⟨d, hd, o⟩ | ⟨z, y, i, rfl, lt⟩ | ⟨z, y, m⟩ | ⟨z, y, rfl⟩ | ⟨z, y, m⟩ | ⟨z, y, m⟩
      all_goals first | exact absurd z (by decide) | exact absurd y (by decide) | skip
      · have F := o.f
        simp [thingsD, refusedD, F.wy]
      · simp [thingsD, refusedD, m]
/-! ### rows that do not rise -/
theorem rising_no : ∀ {xs ys : List PyData} {y z : PyData}, PySem.W.dataLt y z = false → risingD (xs ++ y :: z :: ys) = false
  | [], ys, y, z, h => by
    show (PySem.W.dataLt y z && _) = false
    rw [h]
    rfl
  | [x], ys, y, z, h => by
    show (PySem.W.dataLt x y && risingD (y :: z :: ys)) = false
    rw [show risingD (y :: z :: ys) = false from rising_no (xs := []) h, Bool.and_false]
  | x :: x2 :: xs, ys, y, z, h => by
    show (PySem.W.dataLt x x2 && risingD (x2 :: (xs ++ y :: z :: ys))) = false
    rw [show risingD (x2 :: (xs ++ y :: z :: ys)) = false from rising_no (xs := x2 :: xs) h, Bool.and_false]
theorem lt_asymK {p q : List Key} (h : PySem.W.dataLt (encK p) (encK q) = true) : PySem.W.dataLt (encK q) (encK p) = false := ltK_asym h
theorem lt_selfK (p : List Key) : PySem.W.dataLt (encK p) (encK p) = false := by
  cases h : PySem.W.dataLt (encK p) (encK p) with
  | false => rfl
  | true => rw [← h, lt_asymK h]
theorem GLoad.fr {d : PyData} (h : GLoad d) : ∃ r l : Int, front2 d = encK [.inl r, .inl l] := by
  obtain ⟨r, l, b, rfl, _⟩ := h
  exact ⟨r, l, rfl⟩
theorem GMark.enc {d : PyData} (h : GMark d) : ∃ p : List Key, d = encK p := by
  obtain ⟨z, i, rfl, _⟩ := h
  exact ⟨[.inr z, .inl i], rfl⟩
theorem last_app {α : Type} {ls : List α} (h : ls ≠ []) : ∃ (xs : List α) (y : α), ls = xs ++ [y] := ⟨ls.dropLast, ls.getLast h, (List.dropLast_concat_getLast h).symm⟩
/-- turned round -/
theorem loads_rev {m : Int} {ls : List PyData} (h : GLoads m (.tuple ls)) (l2 : 1 < ls.length) : areLoadsD (.tuple ls.reverse) = false := by
  obtain ⟨_, e, _, _, _, g, r⟩ := h
  injection e with e
  subst e
  match ls, l2 with
  | a :: b :: rest, _ =>
    obtain ⟨ra, la, ea⟩ := (g a List.mem_cons_self).fr
    obtain ⟨rb, lb, eb⟩ := (g b (List.mem_cons_of_mem _ List.mem_cons_self)).fr
    have q : PySem.W.dataLt (front2 a) (front2 b) = true := by
      have : (PySem.W.dataLt (front2 a) (front2 b) && _) = true := r
      rw [Bool.and_eq_true] at this
      exact this.1
    show (_ && risingD ((a :: b :: rest).reverse.map front2)) = false
    have : (a :: b :: rest).reverse.map front2 = rest.reverse.map front2 ++ front2 b :: front2 a :: [] := by simp
    rw [this, rising_no (by rw [ea, eb] at q ⊢; exact lt_asymK q), Bool.and_false]
/-- the last one twice -/
theorem loads_dup {m : Int} {xs : List PyData} {y : PyData} (h : GLoads m (.tuple (xs ++ [y]))) : areLoadsD (.tuple (xs ++ [y] ++ [y])) = false := by
  obtain ⟨_, e, _, _, _, g, r⟩ := h
  injection e with e
  subst e
  obtain ⟨ry, ly, ey⟩ := (g y (by simp)).fr
  show (_ && risingD ((xs ++ [y] ++ [y]).map front2)) = false
  have : (xs ++ [y] ++ [y]).map front2 = xs.map front2 ++ front2 y :: front2 y :: [] := by simp
  rw [this, rising_no (by rw [ey]; exact lt_selfK _), Bool.and_false]
theorem loads_head {x : PyData} {ls : List PyData} (h : isLoadD x = false) : areLoadsD (.tuple (x :: ls)) = false := by
  show ((isLoadD x && _) && _) = false
  rw [h]
  rfl
theorem bags_dup {xs : List PyData} {y r l : PyData} (h : GMark y) : isLoadD (.tuple [r, l, .tuple (xs ++ [y] ++ [y])]) = false := by
  obtain ⟨p, e⟩ := h.enc
  show (_ && (_ && (_ && risingD (xs ++ [y] ++ [y])))) = false
  have : xs ++ [y] ++ [y] = xs ++ y :: y :: [] := by simp
  rw [this, rising_no (by rw [e]; exact lt_selfK _)]
  simp
theorem txt_mk {ds : List PyData} (h : ∀ d ∈ ds, txt d) (l : ds.length < 100000) : txt (.tuple ds) := by
  rw [txt]
  exact ⟨l, txtAll_of h⟩
theorem txt_lst {ds : List PyData} (h : ∀ d ∈ ds, txt d) (l : ds.length < 100000) : txt (.list ds) := by
  rw [txt]
  exact ⟨l, txtAll_of h⟩
theorem badC_nt {wd : Str} {t e : PyData} (h : ∀ ds, e ≠ .tuple ds) : causesD wd t e = false := by
  cases e <;> first | rfl | exact absurd rfl (h _)
theorem badC_len {d0 d1 d2 : PyData} {wd : Str} {ds cs es : List PyData} (h : Parts d0 d1 d2 wd ds cs) (n : es.length ≠ cs.length) : causesD wd (.tuple ds) (.tuple es) = false := by
  have := h.c
  show (es.all isMarkD && decide (es.length = if wd = "passed" then (itemsD (ds.getD 0 .none)).length else 0)) = false
  rw [decide_eq_false (by omega), Bool.and_false]
theorem badC_mk {wd : Str} {t e : PyData} {es : List PyData} (he : e ∈ es) (h : isMarkD e = false) : causesD wd t (.tuple es) = false := by
  show (es.all isMarkD && _) = false
  have : es.all isMarkD = false := by
    cases q : es.all isMarkD with
    | false => rfl
    | true => rw [List.all_eq_true.mp q e he] at h; cases h
  rw [this]
  rfl
theorem passed_no {c l : PyData} (h : areLoadsD c = false ∨ areLoadsD l = false ∨ (c = .tuple [] ∧ l = .tuple [])) : BadT "passed" (.tuple [c, l]) := by
  refine badT_find rfl ?_
  show (decide (2 = 2) && (areLoadsD c && (areLoadsD l && decide (0 < (itemsD c).length + (itemsD l).length)))) = false
  rcases h with h | h | ⟨rfl, rfl⟩
  · rw [h]; rfl
  · rw [h]; simp
  · rfl
theorem deepLay {n : Nat} : ∀ {ds : List PyData}, (∀ d ∈ ds, d.depth ≤ n) → PyData.depthAll ds ≤ n
  | [], _ => by simp [PyData.depthAll]
  | d :: ds, h => by
    have h1 := h d List.mem_cons_self
    have h2 := deepLay (ds := ds) fun e he => h e (List.mem_cons_of_mem _ he)
    rw [PyData.depthAll]
    omega
/-- laid out and not deep -/
structure Lay (j : Nat) (e : PyData) : Prop where
  l : e.canLay0 = true
  d : e.depth ≤ j
  t : txt e
theorem Lay.ok {B k : Nat} {d : PyData} (h : Ok B k d) : Lay k d := ⟨h.l, h.z.dp, h.t⟩
theorem Lay.mono {j k : Nat} {d : PyData} (h : Lay j d) (l : j ≤ k) : Lay k d := ⟨h.l, Nat.le_trans h.d l, h.t⟩
theorem Lay.non : Lay 0 .none := ⟨rfl, by decide, by rw [txt] <;> first | trivial | (intro _ h; cases h)⟩
theorem Lay.bl (b : Bool) : Lay 0 (.bool b) := ⟨rfl, by rw [PyData.depth]; exact Nat.le_refl _, by rw [txt] <;> first | trivial | (intro _ h; cases h)⟩
theorem Lay.int (i : Int) : Lay 0 (.int i) := ⟨rfl, by rw [PyData.depth]; exact Nat.le_refl _, by rw [txt] <;> first | trivial | (intro _ h; cases h)⟩
theorem Lay.str {z : Str} (h : PyData.strOk z = true) (l : z.length ≤ 1000000) : Lay 0 (.str z) := ⟨h, by rw [PyData.depth]; exact Nat.le_refl _, by rw [txt]; exact l⟩
theorem Lay.tup {k : Nat} {l : List PyData} (h : ∀ d ∈ l, Lay k d) (n : l.length < 100000) : Lay (k + 1) (.tuple l) :=
  ⟨canAll fun d hd => (h d hd).l, by rw [PyData.depth]; have := deepLay fun d hd => (h d hd).d; omega, by rw [txt]; exact ⟨n, txtAll_of fun d hd => (h d hd).t⟩⟩
theorem Lay.lst {k : Nat} {l : List PyData} (h : ∀ d ∈ l, Lay k d) (n : l.length < 100000) : Lay (k + 1) (.list l) :=
  ⟨canAll fun d hd => (h d hd).l, by rw [PyData.depth]; have := deepLay fun d hd => (h d hd).d; omega, by rw [txt]; exact ⟨n, txtAll_of fun d hd => (h d hd).t⟩⟩
theorem txt_odd {d e : PyData} (h : OddD d e) : txt e := by
  have sa : Lay 1 (pS "a") := (Lay.str (by decide +kernel) (by decide +kernel)).mono (by decide)
  have sA : Lay 1 (pS "A") := (Lay.str (by decide +kernel) (by decide +kernel)).mono (by decide)
  have s0 : Lay 1 (pS "0") := (Lay.str (by decide +kernel) (by decide +kernel)).mono (by decide)
  have sb : Lay 1 (pS "A b") := (Lay.str (by decide +kernel) (by decide +kernel)).mono (by decide)
  have ii : ∀ i : Int, Lay 1 (pI i) := fun i => (Lay.int i).mono (by decide)
  rcases h with h | ⟨rfl, _⟩
  · unfold othersD at h
    simp only [List.mem_cons, List.not_mem_nil, or_false] at h
    rcases h with rfl | rfl | rfl | rfl | rfl | rfl | rfl | rfl | rfl | rfl | rfl | rfl
    · exact (Lay.lst (k := 1) (by simp) (by decide)).t
    · exact (Lay.tup (k := 1) (by simp) (by decide)).t
    · exact (ii _).t
    · exact sb.t
    · exact (Lay.tup (k := 1) (by simp [sa]) (by decide)).t
    · exact (Lay.tup (k := 1) (by simp [sa, ii]) (by decide)).t
    · exact (Lay.tup (k := 1) (by simp [sA, ii]) (by decide)).t
    · exact (Lay.tup (k := 1) (by simp [sa, ii]) (by decide)).t
    · exact (Lay.lst (k := 1) (by simp [sa, ii]) (by decide)).t
    · rw [txt] <;> first | trivial | (intro _ h; cases h)
    · exact (Lay.tup (k := 1) (by simp [sa, s0]) (by decide)).t
    · exact (Lay.tup (k := 1) (by simp [sa, ii]) (by decide)).t
  · exact (Lay.bl true).t
/-! ### heaps without the well and some lists -/
def hd2 (w : Addr) (B : List Addr) (H : Hp) : Hp := fun p => if p ∈ B then none else hid w H p
def Live (B : List Addr) (H : Hp) : Prop := ∀ b ∈ B, ∃ o, H b = some o
section
variable {w b p : Addr} {B : List Addr} {H H' : Hp} {o : HO} {m n : Nat}
theorem hd2_ex : Evl.Ex (hd2 w B H) H := fun c u h => by
  unfold hd2 at h
  by_cases z : c ∈ B
  · rw [if_pos z] at h
    cases h
  · rw [if_neg z] at h
    exact hid_ex _ _ h
theorem hd2_mono (e : Evl.Ex (hid w H) (hid w H')) : Evl.Ex (hd2 w B H) (hd2 w B H') := fun c u h => by
  unfold hd2 at h ⊢
  by_cases z : c ∈ B
  · rw [if_pos z] at h
    cases h
  · rw [if_neg z] at h ⊢
    exact e _ _ h
theorem Ex.hd2 (e : Evl.Ex H H') : Evl.Ex (hd2 w B H) (hd2 w B H') := hd2_mono (Ex.hid e)
theorem Dn.hd2 (d : Dn w m H H') : Evl.Ex (hd2 w B H) (hd2 w B H') := hd2_mono d.k.hx
theorem hd2_of (h : H p = some o) (n : p ≠ w ∧ p ∉ B) : hd2 w B H p = some o := by
  unfold TP.hd2
  rw [if_neg n.2]
  exact hid_of h n.1
theorem Dn.live (d : Dn w m H H') (hb : Live B H) : Live B H' := fun b hm => by
  by_cases z : b = w
  · rw [z]
    exact d.wl.some
  · obtain ⟨o, ho⟩ := hb b hm
    exact ⟨o, d.k b o z ho⟩
theorem live_ex (hb : Live B H) (e : Evl.Ex H H') : Live B H' := fun b hm => by
  obtain ⟨o, ho⟩ := hb b hm
  exact ⟨o, e _ _ ho⟩
theorem live_ne (hb : Live B H) (hp : H p = none) : p ∉ B := fun z => by
  obtain ⟨o, ho⟩ := hb p z
  rw [ho] at hp
  cases hp
/-- told anew: it lies apart from all of them -/
theorem nw_hd2 (hw : ∃ o, H w = some o) (hb : Live B H) : Evl.Ex (nw H H') (hd2 w B H') := fun c u h => by
  obtain ⟨h1, h2⟩ := nw_at h
  refine hd2_of h2 ⟨fun z => ?_, live_ne hb h1⟩
  obtain ⟨o, ho⟩ := hw
  rw [z, ho] at h1
  cases h1
/-- one list more is hidden -/
theorem hd2_sub {C : List Addr} (s : ∀ b ∈ B, b ∈ C) : Evl.Ex (hd2 w C H) (hd2 w B H) := fun c u h => by
  unfold TP.hd2 at h ⊢
  by_cases z : c ∈ C
  · rw [if_pos z] at h
    cases h
  · rw [if_neg z] at h
    rw [if_neg fun y => z (s c y)]
    exact h
/-- a hidden list is written: all else stays -/
theorem hd2_upd (h : b ∈ B) : hd2 w B (upd H b o) = hd2 w B H := by
  funext c
  unfold TP.hd2
  by_cases z : c ∈ B
  · rw [if_pos z, if_pos z]
  · rw [if_neg z, if_neg z]
    by_cases y : c = w
    · rw [y, hid_same, hid_same]
    · rw [hid_ne y, hid_ne y, upd_ne (show c ≠ b from fun q => z (by rw [q]; exact h))]
/-- what lay before a new list is apart from it -/
theorem hd2_new (hb : H b = none) : Evl.Ex (hd2 w B H) (hd2 w (b :: B) (upd H b o)) := fun c u h => by
  have hc : H c = some u := hd2_ex _ _ h
  have nc : c ≠ b := ne_of_none hc hb
  unfold TP.hd2 at h ⊢
  by_cases z : c ∈ B
  · rw [if_pos z] at h
    cases h
  · rw [if_neg z] at h
    rw [if_neg (by simp [nc, z])]
    by_cases y : c = w
    · rw [y, hid_same] at h
      cases h
    · rw [hid_ne y, upd_ne nc]
      exact hc
end
/-! ### the promises -/
def spOther (K : PySem.W.Frag) : Sp := fun vs H Q _ => ∃ (w : Addr) (n : Nat) (x : V) (d : PyData), vs = [.ref w, x] ∧ Wl H w n ∧ n < 940000 ∧ Dr K H x d ∧ ∀ v e H', OddD d e → Dr K (nw H H') v e → Dn w (n + 1) H H' → Q v H'
def spOddLoads (K : PySem.W.Frag) : Sp := fun vs H Q _ => ∃ (w a : Addr) (B : List Addr) (n : Nat) (m : Int) (ls : List PyData), vs = [.ref w, .ref a] ∧ Wl H w n ∧ Live B H ∧ n < 940000 ∧ GLoads m (.tuple ls) ∧ Dr K (hd2 w B H) (.ref a) (.tuple ls) ∧
  ∀ v e H', (e = .tuple [] ∨ areLoadsD e = false) → Lay 9 e → Dr K (hd2 w B H') v e → Dn w (n + 2) H H' → Q v H'
def spOddThings (K : PySem.W.Frag) : Sp := fun vs H Q _ => ∃ (w a : Addr) (B : List Addr) (n : Nat) (wd : Str) (ds : List PyData), vs = [.ref w, .str wd, .ref a] ∧ Wl H w n ∧ Live B H ∧ n < 930000 ∧ GT wd ds ∧ Dr K (hd2 w B H) (.ref a) (.tuple ds) ∧
  ∀ v e H', BadT wd e → txt e → Dr K (hd2 w B H') v e → Dn w (n + 10) H H' → Q v H'
def spSpoilt (K : PySem.W.Frag) : Sp := fun vs H Q _ => ∃ (w p : Addr) (n i : Nat) (us : List V) (d0 d1 d2 : PyData) (wd : Str) (ds cs : List PyData), vs = [.ref w, .ref p, .int (i : Int)] ∧ i < 6 ∧ Wl H w n ∧ n < 920000 ∧ p ≠ w ∧ H p = some (.lst us) ∧
  Parts d0 d1 d2 wd ds cs ∧ DrAll K (hid w H) us [d0, d1, d2, .str wd, .tuple ds, .tuple cs] ∧
  ∀ f v e H', Bad wd ds i e → txt e → Dr K (hid w H') v e → f ≠ w → H' f = some (.lst (us.set i v)) → Dn w (n + 20) H H' → Q (.ref f) H'
def spRefused24 (K : PySem.W.Frag) : Sp := fun vs H Q _ => ∃ (p : Addr) (u0 u1 u2 u3 u4 u5 : V) (d0 d1 d2 d3 d4 d5 : PyData), vs = [.ref p] ∧ H p = some (.lst [u0, u1, u2, u3, u4, u5]) ∧ DrAll K H [u0, u1, u2, u3, u4, u5] [d0, d1, d2, d3, d4, d5] ∧
  txt d0 ∧ txt d4 ∧ txt d5 ∧ (∀ w, d3 = .str w → w ∉ LK.map (·.w) → w ∈ oddWords) ∧ ∀ H', Evl.Ex H H' → Q (.str ((amissD d0 d1 d2 d3 d4 d5).getD "told")) H'
/-! ### cuts and joins of data apart from the well -/
theorem cutV_last (xs : List V) : cutV xs (some (-1)) none = xs.drop (xs.length - 1) := by
  unfold cutV
  have e : HT.sIx xs.length 0 (some (-1)) = xs.length - 1 := by
    show (if (-1 : Int) < 0 then (-1 + (xs.length : Int)).toNat else min (-1 : Int).toNat xs.length) = _
    rw [if_pos (by decide)]
    omega
  rw [e, HT.sIx_none, List.take_of_length_le (by rw [List.length_drop]; omega)]
theorem cutV_init (xs : List V) : cutV xs none (some (-1)) = xs.take (xs.length - 1) := by
  unfold cutV
  have e : HT.sIx xs.length xs.length (some (-1)) = xs.length - 1 := by
    show (if (-1 : Int) < 0 then (-1 + (xs.length : Int)).toNat else min (-1 : Int).toNat xs.length) = _
    rw [if_pos (by decide)]
    omega
  rw [e, HT.sIx_none, List.drop_zero, Nat.sub_zero]
section
variable {K : PySem.W.Frag} {H : Hp}
theorem DrAll.app : ∀ {xs : List V} {ds : List PyData} {ys : List V} {es : List PyData}, DrAll K H xs ds → DrAll K H ys es → DrAll K H (xs ++ ys) (ds ++ es)
  | [], _, _, _, .nil, h => h
  | _ :: _, _, _, _, .cons a b, h => .cons a (DrAll.app b h)
theorem DrAll.drop : ∀ {xs : List V} {ds : List PyData} (n : Nat), DrAll K H xs ds → DrAll K H (xs.drop n) (ds.drop n)
  | _, _, 0, h => h
  | _, _, n + 1, .nil => .nil
  | _, _, n + 1, .cons _ b => DrAll.drop n b
theorem DrAll.take : ∀ {xs : List V} {ds : List PyData} (n : Nat), DrAll K H xs ds → DrAll K H (xs.take n) (ds.take n)
  | _, _, 0, h => by rw [List.take_zero, List.take_zero]; exact .nil
  | _, _, n + 1, .nil => .nil
  | _, _, n + 1, .cons a b => .cons a (DrAll.take n b)
theorem DrAll.rev : ∀ {xs : List V} {ds : List PyData}, DrAll K H xs ds → DrAll K H xs.reverse ds.reverse
  | [], _, .nil => .nil
  | _ :: _, _, .cons a b => by
    rw [List.reverse_cons, List.reverse_cons]
    exact DrAll.app (DrAll.rev b) (.cons a .nil)
theorem DrAll.set : ∀ {xs : List V} {ds : List PyData} {v : V} {d : PyData} (n : Nat), DrAll K H xs ds → Dr K H v d → DrAll K H (xs.set n v) (ds.set n d)
  | _, _, _, _, n, .nil, _ => .nil
  | _, _, _, _, 0, .cons _ b, h => .cons h b
  | _, _, _, _, n + 1, .cons a b, h => .cons a (DrAll.set n b h)
theorem Dr.tupI {v : V} {ds : List PyData} (h : Dr K H v (.tuple ds)) : ∃ a xs, v = .ref a ∧ SqT K H a xs ∧ DrAll K H xs ds := by
  cases h with
  | tup s d => exact ⟨_, _, rfl, s, d⟩
variable {w : Addr} {a b : Addr} {xs ys : List V} {Q : VK}
theorem catA_hid (hw : ∃ o, H w = some o) (hx : SqT K (hid w H) a xs) (hy : SqT K (hid w H) b ys) (hz : xs.length + ys.length ≤ 100000) (k : ∀ r H', Evl.Ex H H' → SqT K (hid w H') r (xs ++ ys) → Q (.ref r) H') : rCatA K (.ref a) (.ref b) H Q := by
  refine ⟨a, b, xs, ys, rfl, rfl, sqt_ex hx hid_ex, sqt_ex hy hid_ex, by rw [sizeLine_eq]; omega, fun e => ?_, fun _ e => ?_, fun _ _ p hp => k p _ (Evl.Ex.new hp) (SqT.of (hid_at fun z => ?_))⟩
  · exact k b H (Evl.Ex.refl _) (by rw [e, List.nil_append]; exact hy)
  · exact k a H (Evl.Ex.refl _) (by rw [e, List.append_nil]; exact hx)
  · obtain ⟨o, ho⟩ := hw
    rw [z, ho] at hp
    cases hp
theorem slA_hid {lo hi : Option Int} (hw : ∃ o, H w = some o) (hx : SqT K (hid w H) a xs) (k : ∀ r H', Evl.Ex H H' → SqT K (hid w H') r (cutV xs lo hi) → Q (.ref r) H') : rSlA K (.ref a) lo hi H Q := by
  refine ⟨a, xs, rfl, sqt_ex hx hid_ex, fun e => k a H (Evl.Ex.refl _) ?_, fun _ p hp => k p _ (Evl.Ex.new hp) (SqT.of (hid_at fun z => ?_))⟩
  · unfold cutV
    rw [e.1, e.2, List.drop_zero, Nat.sub_zero, List.take_length]
    exact hx
  · obtain ⟨o, ho⟩ := hw
    rw [z, ho] at hp
    cases hp
end
section
variable {K : PySem.W.Frag} {H : Hp} {w a c : Addr} {B : List Addr} {xs ys : List V} {Q : VK}
theorem catA_hd2 (hw : (∃ o, H w = some o) ∧ Live B H) (hx : SqT K (hd2 w B H) a xs) (hy : SqT K (hd2 w B H) c ys) (hz : xs.length + ys.length ≤ 100000) (k : ∀ r H', Evl.Ex H H' → SqT K (hd2 w B H') r (xs ++ ys) → Q (.ref r) H') : rCatA K (.ref a) (.ref c) H Q := by
  refine ⟨a, c, xs, ys, rfl, rfl, sqt_ex hx hd2_ex, sqt_ex hy hd2_ex, by rw [sizeLine_eq]; omega, fun e => ?_, fun _ e => ?_, fun _ _ p hp => k p _ (Evl.Ex.new hp) (SqT.of (hd2_of upd_same ⟨fun z => (by obtain ⟨o, ho⟩ := hw.1; rw [z, ho] at hp; cases hp), live_ne hw.2 hp⟩))⟩
  · exact k c H (Evl.Ex.refl _) (by rw [e, List.nil_append]; exact hy)
  · exact k a H (Evl.Ex.refl _) (by rw [e, List.append_nil]; exact hx)
theorem slA_hd2 {lo hi : Option Int} (hw : (∃ o, H w = some o) ∧ Live B H) (hx : SqT K (hd2 w B H) a xs) (k : ∀ r H', Evl.Ex H H' → SqT K (hd2 w B H') r (cutV xs lo hi) → Q (.ref r) H') : rSlA K (.ref a) lo hi H Q := by
  refine ⟨a, xs, rfl, sqt_ex hx hd2_ex, fun e => k a H (Evl.Ex.refl _) ?_, fun _ p hp => k p _ (Evl.Ex.new hp) (SqT.of (hd2_of upd_same ⟨fun z => (by obtain ⟨o, ho⟩ := hw.1; rw [z, ho] at hp; cases hp), live_ne hw.2 hp⟩))⟩
  unfold cutV
  rw [e.1, e.2, List.drop_zero, Nat.sub_zero, List.take_length]
  exact hx
end
theorem eqv_unit' {e : PyData} (h : PyData.eqv e (.tuple []) = true) : e = .tuple [] := by
  cases e <;> first | (rw [eqv_unit h]) | (cases h; done)
theorem ixN_ok {n j : Nat} (h : j < n) : ixN n ((j : Nat) : Int) = some j := by
  unfold ixN
  rw [if_pos (by omega)]
  simp [h]
theorem hd2_hid {w : Addr} {B : List Addr} {H : Hp} : Evl.Ex (hd2 w B H) (hid w H) := fun c u h => by
  unfold hd2 at h
  by_cases z : c ∈ B
  · rw [if_pos z] at h
    cases h
  · rw [if_neg z] at h
    exact h
theorem hid_hd2 {w f : Addr} {H : Hp} {o : HO} (hf : H f = none) : Evl.Ex (hid w H) (hd2 w [f] (upd H f o)) := fun c u h => by
  have hc : H c = some u := hid_ex _ _ h
  have nc : c ≠ f := ne_of_none hc hf
  unfold hd2
  rw [if_neg (by simp [nc])]
  by_cases y : c = w
  · rw [y, hid_same] at h
    cases h
  · rw [hid_ne y, upd_ne nc]
    exact hc
end TP

namespace Lw
open PySem PySem.Spec PyProof.Rows L2 TP
section
variable {P : Program} {w : World} {K : PySem.W.Frag} {mg : Str → Option Value} {base : Heap}

theorem ok_is_name (T : TX w K mg) : Gt P w K mg base CX0 1 "is_name" ["thing"] (spIsName K) := by
  refine gt_mk (D_is_name T) (g_is_name T) sc_is_name rfl (fun _ _ _ _ _ _ us hl => match us, hl with | [_], _ => rfl) (fun vs H Q E h => ?_) (fun f cdv A outer s H vs Q E hr h => ?_)
  · obtain ⟨x, d, rfl, _⟩ := h
    rfl
  obtain ⟨x, d, rfl, hd, hz, k⟩ := h
  refine ⟨_, (pss_one (ps_ret (pe_and (pe_callB call_isi (by rfl) (f_isinstance T) (by decide +kernel) (pa_cons (pv 0) (pa_cons (pe_gty (n := "str") (f_str T) (by decide +kernel)) pa_nil))) (pe_and (pe_chain op_le op_le pe_int (pe_callB call_len_str (by rfl) (f_len T) (by decide +kernel) (pa_cons (pv 0) pa_nil)) (pe_gint (c_MOST_LETTERS T))) (pe_one (pe_callB (cr_all rfl) (by rfl) (f_all T) (by decide +kernel) (pa_cons (pe_lc (own := [("sign", 1)]) (g := gName 1) (tt := tYes) rfl sc_is_name.nd (pi_str (pv 0)) (blkOk_by (N := ["thing", "sign"]) (sc := defScope s_is_name) (by decide +kernel)) (fun _ _ _ _ _ => (pg_name (i := 1) sc_is_name.nd rfl (by first | exact Or.inl rfl | exact Or.inr rfl))) (fun _ _ _ _ _ => pts_nil) (fun _ _ _ _ _ => (pe_cmpR op_in_sign (pv 1) (pe_gstr (c_LETTERS T)) (by rfl)))) pa_nil))))))), ?_⟩
  refine ⟨_, rfl, x, _, _, _, _, rfl, .ty "str", hd.ty, kit_thing d, _, rfl, ite2 (fun e => ?_) (fun e => ?_)⟩
  · obtain ⟨z, rfl, rfl⟩ := hd.str_of (of_decide_eq_true e)
    have hl := hz z rfl
    have hl2 : z.length ≤ sizeLine := Nat.le_trans hl (by decide)
    have fin : ∀ (b : Bool) H', b = isNm z → Evl.Ex H H' → Q (.bl b) H' := fun b H' hb he => by rw [hb]; exact k H' he
    refine ⟨_, rfl, z, rfl, hl2, _, _, rfl, rfl, _, rfl, ite2 (fun h1 => ?_) (fun h1 => ?_)⟩
    · refine ⟨_, _, rfl, rfl, _, rfl, ite2 (fun h8 => ?_) (fun h8 => ?_)⟩
      · refine ⟨_, rfl, _, rfl, fun D hD => lc_fm walk_str (fun _ => true) (fun i => .bl (decide (z.cps.toList.getD i 0 ∈ LT.cps.toList))) hD (by show z.length < 1000000; have := of_decide_eq_true h8; omega) (fun _ _ => trivial) (fun i v H1 H2 C N hi he hy hc _ => ?_) (fun H' he hD' => ?_)⟩
        · obtain ⟨rfl, c, hc1, rfl⟩ := hy
          refine ⟨rfl, yes_ok ?_⟩
          refine ⟨_, rfl, c, LT, rfl, rfl, ?_⟩
          have e1 : z.cps.toList.getD i 0 = c := by
            rw [List.getD_eq_getElem?_getD, Array.getElem?_toList, hc1]
            rfl
          have := hc rfl _ (Evl.Ex.refl _)
          rw [e1] at this
          exact this
        · refine ⟨D, z.cps.toList.map fun c => decide (c ∈ LT.cps.toList), rfl, SqL.of ?_, fin _ _ ?_ he⟩
          · rw [hD', filter_yes]
            congr 2
            rw [List.map_map, ← range_map_get _ 0 z.cps.toList, ← strLen]
            rfl
          · unfold isNm
            rw [decide_eq_true (show 1 ≤ z.length by have := of_decide_eq_true h1; omega), decide_eq_true (show z.length ≤ 8 by have := of_decide_eq_true h8; omega), List.all_map]
            rfl
      · refine fin false H ?_ (Evl.Ex.refl H)
        unfold isNm
        rw [decide_eq_false (show ¬ z.length ≤ 8 from fun q => h8 (decide_eq_true (by omega)))]
        simp
    · refine ⟨_, rfl, iteF (fin false H ?_ (Evl.Ex.refl H))⟩
      unfold isNm
      rw [decide_eq_false (show ¬ 1 ≤ z.length from fun q => h1 (decide_eq_true (by omega)))]
      rfl
  · have e2 : isNmD d = false := isNmD_no fun q => e (decide_eq_true q)
    have := k H (Evl.Ex.refl H)
    rw [e2] at this
    exact this
theorem ok_is_address (T : TX w K mg) : Gt P w K mg base CX0 2 "is_address" ["thing"] (spIsAddr K) := by
  refine gt_mk (D_is_address T) (g_is_address T) sc_is_address rfl (fun _ _ _ _ _ _ us hl => match us, hl with | [_], _ => rfl) (fun vs H Q E h => ?_) (fun f cdv A outer s H vs Q E hr h => ?_)
  · obtain ⟨x, d, rfl, _⟩ := h
    rfl
  obtain ⟨x, d, rfl, hd, hz, k⟩ := h
  refine ⟨_, (pss_one (ps_ret (pe_and (pe_callB call_isi (by rfl) (f_isinstance T) (by decide +kernel) (pa_cons (pv 0) (pa_cons (pe_gty (n := "tuple") (f_tuple T) (by decide +kernel)) pa_nil))) (pe_and (pe_cmpR op_eq (pe_callB call_len_seq (by rfl) (f_len T) (by decide +kernel) (pa_cons (pv 0) pa_nil)) pe_int (nomark _)) (pe_one (pe_callB (cr_all rfl) (by rfl) (f_all T) (by decide +kernel) (pa_cons (pe_lc (own := [("part", 1)]) (g := gName 1) (tt := tYes) rfl sc_is_address.nd (pi_tup (pv 0)) (blkOk_by (N := ["thing", "part"]) (sc := defScope s_is_address) (by decide +kernel)) (fun _ _ _ _ _ => (pg_name (i := 1) sc_is_address.nd rfl (by first | exact Or.inl rfl | exact Or.inr rfl))) (fun _ _ _ _ _ => pts_nil) (fun _ _ _ _ _ => ((ok_is_name T).pe (hr.mono (by decide)) (pa_cons (pv 1) pa_nil)))) pa_nil))))))), ?_⟩
  refine ⟨_, rfl, x, _, _, _, _, rfl, .ty "tuple", hd.ty, kit_thing d, _, rfl, ite2 (fun e => ?_) (fun e => ?_)⟩
  · obtain ⟨a, xs, ds, rfl, rfl, ht, hall⟩ := hd.tup_of (of_decide_eq_true e)
    have fin : ∀ (b : Bool) H', b = isAdD (.tuple ds) → Evl.Ex H H' → Q (.bl b) H' := fun b H' hb he => by rw [hb]; exact k H' he
    have hlen := hall.len
    refine ⟨_, rfl, a, xs, rfl, .inr ht, rfl, _, rfl, ite2 (fun h1 => ?_) (fun h1 => ?_)⟩
    · have h2 : xs.length = 2 := by
        have := of_decide_eq_true h1
        injection this with this
        omega
      obtain ⟨d1, d2, rfl⟩ : ∃ d1 d2, ds = [d1, d2] := by
        rw [hlen] at h2
        match ds, h2 with
        | [d1, d2], _ => exact ⟨d1, d2, rfl⟩
      refine ⟨_, rfl, a, rfl, ⟨_, ht⟩, fun D hD => lc_fm (walk_tup (xs := xs)) (fun _ => true) (fun i => .bl (isNmD ([d1, d2].getD i .none))) hD (by omega) (fun H' he => Evl.ex_t he ht) (fun i v H1 H2 C N hi he hy hc _ => ?_) (fun H' he hD' => ?_)⟩
      · obtain ⟨rfl, hv⟩ := hy
        obtain ⟨e, he1, he2⟩ := DrAll.at hall hv
        refine ⟨rfl, yes_ok ?_⟩
        refine ⟨_, rfl, v, e, rfl, Dr.ex he e v he2, fun z hz' => hz _ rfl e (List.mem_of_getElem? he1) z hz', fun H3 e3 => ?_⟩
        have e1 : [d1, d2].getD i .none = e := by
          rw [List.getD_eq_getElem?_getD, he1]
          rfl
        have := hc rfl H3 e3
        rw [e1] at this
        exact this
      · refine ⟨D, [isNmD d1, isNmD d2], rfl, SqL.of ?_, fin _ _ ?_ he⟩
        · rw [hD', filter_yes, h2]
          rfl
        · show (isNmD d1 && (isNmD d2 && true)) = (isNmD d1 && isNmD d2)
          rw [Bool.and_true]
    · refine fin false H ?_ (Evl.Ex.refl H)
      have h2 : ¬ xs.length = 2 := fun q => h1 (decide_eq_true (by rw [q]; rfl))
      rw [hlen] at h2
      match ds, h2 with
      | [], _ => rfl
      | [_], _ => rfl
      | [_, _], h => exact absurd rfl h
      | _ :: _ :: _ :: _, _ => rfl
  · have e2 : isAdD d = false := isAdD_no fun q => e (decide_eq_true q)
    have := k H (Evl.Ex.refl H)
    rw [e2] at this
    exact this
theorem ok_is_whole (T : TX w K mg) : Gt P w K mg base CX0 1 "is_whole" ["thing"] (spWhole K) := by
  refine gt_mk (D_is_whole T) (g_is_whole T) sc_is_whole rfl (fun _ _ _ _ _ _ us hl => match us, hl with | [_], _ => rfl) (fun vs H Q E h => ?_) (fun f cdv A outer s H vs Q E hr h => ?_)
  · obtain ⟨x, d, rfl, _⟩ := h
    rfl
  obtain ⟨x, d, rfl, hd, k⟩ := h
  refine ⟨_, (pss_one (ps_ret (pe_and (pe_callB call_isi (by rfl) (f_isinstance T) (by decide +kernel) (pa_cons (pv 0) (pa_cons (pe_gty (n := "int") (f_int T) (by decide +kernel)) pa_nil))) (pe_one (pe_not (pe_callB call_isi (by rfl) (f_isinstance T) (by decide +kernel) (pa_cons (pv 0) (pa_cons (pe_gty (n := "bool") (f_bool T) (by decide +kernel)) pa_nil)))))))), ?_⟩
  refine ⟨_, rfl, x, _, _, _, _, rfl, .ty "int", hd.ty, kit_int d, _, rfl, ite2 (fun e => ?_) (fun e => ?_)⟩
  · refine ⟨_, rfl, x, _, _, _, _, rfl, .ty "bool", hd.ty, kit_thing d, _, rfl, ?_⟩
    cases d <;> first | exact k | exact absurd (of_decide_eq_true e) (by simp [tyN])
  · have : isIntD d = false := by
      cases d <;> first | rfl | exact absurd (decide_eq_true (Or.inl rfl)) e
    rw [this] at k
    exact k
theorem ok_is_from (T : TX w K mg) : Gt P w K mg base CX0 2 "is_from" ["thing", "least"] (spFrom K) := by
  refine gt_mk (D_is_from T) (g_is_from T) sc_is_from rfl (fun _ _ _ _ _ _ us hl => match us, hl with | [_, _], _ => rfl) (fun vs H Q E h => ?_) (fun f cdv A outer s H vs Q E hr h => ?_)
  · obtain ⟨x, d, l, rfl, _⟩ := h
    rfl
  obtain ⟨x, d, l, rfl, hd, k⟩ := h
  refine ⟨_, (pss_one (ps_ret (pe_and ((ok_is_whole T).pe (hr.mono (by decide)) (pa_cons (pv 0) pa_nil)) (pe_one (pe_cmpR op_le (pv 1) (pv 0) (nomark _)))))), ?_⟩
  refine ⟨_, rfl, x, d, rfl, hd, _, rfl, ite2 (fun e => ?_) (fun e => ?_)⟩
  · cases d with
    | int i =>
      cases hd
      exact ⟨_, rfl, _, rfl, _, _, rfl, rfl, k⟩
    | _ => cases e
  · have : isFromD d l = false := by
      cases d <;> first | rfl | exact absurd rfl e
    rw [this] at k
    exact k
theorem ok_is_between (T : TX w K mg) : Gt P w K mg base CX0 2 "is_between" ["thing", "least", "most"] (spBetw K) := by
  refine gt_mk (D_is_between T) (g_is_between T) sc_is_between rfl (fun _ _ _ _ _ _ us hl => match us, hl with | [_, _, _], _ => rfl) (fun vs H Q E h => ?_) (fun f cdv A outer s H vs Q E hr h => ?_)
  · obtain ⟨x, d, l, m, rfl, _⟩ := h
    rfl
  obtain ⟨x, d, l, m, rfl, hd, k⟩ := h
  refine ⟨_, (pss_one (ps_ret (pe_and ((ok_is_whole T).pe (hr.mono (by decide)) (pa_cons (pv 0) pa_nil)) (pe_one (pe_chain op_le op_le (pv 1) (pv 0) (pv 2)))))), ?_⟩
  refine ⟨_, rfl, x, d, rfl, hd, _, rfl, ite2 (fun e => ?_) (fun e => ?_)⟩
  · cases d with
    | int i =>
      cases hd
      refine ⟨_, rfl, _, rfl, _, _, rfl, rfl, _, rfl, ite2 (fun e1 => ?_) (fun e1 => ?_)⟩
      · refine ⟨_, rfl, _, _, rfl, rfl, ?_⟩
        have e2 : isBetwD (.int i) l m = decide (i ≤ m) := by
          show (decide (l ≤ i) && decide (i ≤ m)) = _
          rw [e1]
          rfl
        rw [e2] at k
        exact k
      · have e2 : isBetwD (.int i) l m = false := by
          show (decide (l ≤ i) && decide (i ≤ m)) = _
          rw [Bool.eq_false_iff.mpr e1]
          rfl
        rw [e2] at k
        exact k
    | _ => cases e
  · have : isBetwD d l m = false := by
      cases d <;> first | rfl | exact absurd rfl e
    rw [this] at k
    exact k

theorem ok_NoScan_init (T : TX w K mg) : GtF P w K mg base CX0 1 d_NoScan_init ["self", "why"] (spErr1 K "NoScan" "why") := by
  refine gtF_mk (D_NoScan_init T) sc_NoScan_init (fun vs H Q E h => ?_) (fun f cdv A outer s H vs Q E hr h => ?_)
  · obtain ⟨a, v, rfl, _⟩ := h
    rfl
  obtain ⟨a, v, rfl, ha, k⟩ := h
  refine ⟨_, (pss_cons (ps_expr (pe_poinit (bc_PostError T) (g_PostError T) (pa_cons (pv 0) (pa_cons pe_str pa_nil))))
    (pss_one (ps_ost (pv 0) (pv 1)))), ?_⟩
  refine ⟨_, rfl, a, _, _, rfl, (by show 1 ≤ 1000; decide), ox_NoScan T, ha, _, rfl, _, rfl, a, _, rfl, ox_NoScan T, nf_NoScan_why T, .inl ⟨ha, fun dx n ne => k dx n ne⟩⟩

theorem ok_is_mark (T : TX w K mg) : Gt P w K mg base CX0 3 "is_mark" ["thing"] (spMark K isMarkD) := by
  refine gt_mk (D_is_mark T) (g_is_mark T) sc_is_mark rfl (fun _ _ _ _ _ _ us hl => match us, hl with | [_], _ => rfl) (fun vs H Q E h => ?_) (fun f cdv A outer s H vs Q E hr h => ?_)
  · obtain ⟨x, d, rfl, _⟩ := h
    rfl
  obtain ⟨x, d, rfl, hd, ht, k⟩ := h
  refine ⟨_, (pss_one (ps_ret (pe_and (pe_callB call_isi (by rfl) (f_isinstance T) (by decide +kernel) (pa_cons (pv 0) (pa_cons (pe_gty (n := "tuple") (f_tuple T) (by decide +kernel)) pa_nil))) (pe_and (pe_cmpR op_eq (pe_callB call_len_seq (by rfl) (f_len T) (by decide +kernel) (pa_cons (pv 0) pa_nil)) pe_int (nomark _)) (pe_and ((ok_is_name T).pe (hr.mono (by decide)) (pa_cons (pe_ix ix_tup (pv 0) pe_int (fun _ _ => rfl)) pa_nil)) (pe_one ((ok_is_from T).pe (hr.mono (by decide)) (pa_cons (pe_ix ix_tup (pv 0) pe_int (fun _ _ => rfl)) (pa_cons pe_int pa_nil))))))))), ?_⟩
  refine ⟨_, rfl, x, _, _, _, _, rfl, .ty "tuple", hd.ty, kit_thing d, _, rfl, ite2 (fun e => ?_) (fun e => ?_)⟩
  · obtain ⟨a, xs, ds, rfl, rfl, st, da⟩ := hd.tup_of (of_decide_eq_true e)
    have fin : ∀ (b : Bool) H', b = isMarkD (.tuple ds) → Evl.Ex H H' → Q (.bl b) H' := fun b H' hb he => by rw [hb]; exact k H' he
    have hl := da.len
    obtain ⟨tl, ta⟩ := txt_tup ht
    refine ⟨_, rfl, a, xs, rfl, .inr st, rfl, _, rfl, ite2 (fun h1 => ?_) (fun h1 => ?_)⟩
    · have h2 : xs.length = 2 := by
        have := of_decide_eq_true h1
        injection this with this
        omega
      obtain ⟨d1, d2, rfl⟩ : ∃ d1 d2, ds = [d1, d2] := by
        rw [hl] at h2
        match ds, h2 with
        | [d1, d2], _ => exact ⟨d1, d2, rfl⟩
      obtain ⟨x1, x2, rfl⟩ : ∃ x1 x2, xs = [x1, x2] := by
        match xs, h2 with
        | [x1, x2], _ => exact ⟨x1, x2, rfl⟩
      cases da with
      | cons r1 da =>
        cases da with
        | cons r2 da =>
          refine ⟨_, rfl, a, _, _, _, rfl, rfl, st, atI_nat (j := 0) rfl, x1, d1, rfl, r1, txt_str (txtAll_mem ta d1 (by simp)), fun H1 e1 => ⟨_, rfl, ite2 (fun z => ?_) (fun z => ?_)⟩⟩
          · refine ⟨_, rfl, a, _, _, _, rfl, rfl, sqt_ex st e1, atI_nat (j := 1) rfl, x2, d2, 0, rfl, Dr.ex e1 _ _ r2, ?_⟩
            refine fin _ H1 ?_ e1
            show _ = (isNmD d1 && isFromD d2 0)
            rw [z]
            rfl
          · refine fin false H1 ?_ e1
            show _ = (isNmD d1 && isFromD d2 0)
            rw [Bool.eq_false_iff.mpr z]
            rfl
    · refine fin false H ?_ (Evl.Ex.refl H)
      have h2 : ¬ xs.length = 2 := fun q => h1 (decide_eq_true (by rw [q]; rfl))
      rw [hl] at h2
      match ds, h2 with
      | [], _ => rfl
      | [_], _ => rfl
      | [_, _], h => exact absurd rfl h
      | _ :: _ :: _ :: _, _ => rfl
  · have e2 : isMarkD d = false := by
      cases d <;> first | rfl | exact absurd (decide_eq_true (by rfl)) e
    have := k H (Evl.Ex.refl H)
    rw [e2] at this
    exact this
theorem ok_are_marks (T : TX w K mg) : Gt P w K mg base CX0 4 "are_marks" ["thing"] (spMark K areMarksD) := by
  refine gt_mk (D_are_marks T) (g_are_marks T) sc_are_marks rfl (fun _ _ _ _ _ _ us hl => match us, hl with | [_], _ => rfl) (fun vs H Q E h => ?_) (fun f cdv A outer s H vs Q E hr h => ?_)
  · obtain ⟨x, d, rfl, _⟩ := h
    rfl
  obtain ⟨x, d, rfl, hd, ht, k⟩ := h
  refine ⟨_, (pss_one (ps_ret (pe_and (pe_callB call_isi (by rfl) (f_isinstance T) (by decide +kernel) (pa_cons (pv 0) (pa_cons (pe_gty (n := "tuple") (f_tuple T) (by decide +kernel)) pa_nil))) (pe_and (pe_cmpR op_gt (pe_callB call_len_seq (by rfl) (f_len T) (by decide +kernel) (pa_cons (pv 0) pa_nil)) pe_int (nomark _)) (pe_one (pe_callB (cr_all rfl) (by rfl) (f_all T) (by decide +kernel) (pa_cons (pe_lc (own := [("one", 1)]) (g := gName 1) (tt := tYes) rfl sc_are_marks.nd (pi_tup (pv 0)) (blkOk_by (N := ["thing", "one"]) (sc := defScope s_are_marks) (by decide +kernel)) (fun _ _ _ _ _ => (pg_name (i := 1) sc_are_marks.nd rfl (by first | exact Or.inl rfl | exact Or.inr rfl))) (fun _ _ _ _ _ => pts_nil) (fun _ _ _ _ _ => ((ok_is_mark T).pe (hr.mono (by decide)) (pa_cons (pv 1) pa_nil)))) pa_nil))))))), ?_⟩
  refine ⟨_, rfl, x, _, _, _, _, rfl, .ty "tuple", hd.ty, kit_thing d, _, rfl, ite2 (fun e => ?_) (fun e => ?_)⟩
  · obtain ⟨a, xs, ds, rfl, rfl, st, da⟩ := hd.tup_of (of_decide_eq_true e)
    have fin : ∀ (b : Bool) H', b = areMarksD (.tuple ds) → Evl.Ex H H' → Q (.bl b) H' := fun b H' hb he => by rw [hb]; exact k H' he
    have hl := da.len
    obtain ⟨tl, ta⟩ := txt_tup ht
    refine ⟨_, rfl, a, xs, rfl, .inr st, _, _, rfl, rfl, _, rfl, ite2 (fun h1 => ?_) (fun h1 => ?_)⟩
    · have h2 : 0 < ds.length := by have := of_decide_eq_true h1; omega
      refine ⟨_, rfl, a, rfl, ⟨_, st⟩, fun D hD => lc_fm (walk_tup (K := K) (a := a) (xs := xs)) (fun _ => true) (fun i => .bl (isMarkD (ds.getD i .none))) hD (by omega) (fun H' he => sqt_ex st he) (fun i v H1 H2 C N hi he hy hc _ => ?_) (fun HA hA gD => ?_)⟩
      · obtain ⟨rfl, hv⟩ := hy
        obtain ⟨e1, he1, he2⟩ := DrAll.at da hv
        refine ⟨rfl, yes_ok ⟨_, rfl, v, e1, rfl, Dr.ex he e1 v he2, txtAll_mem ta e1 (List.mem_of_getElem? he1), fun H3 e3 => ?_⟩⟩
        have ee : ds.getD i .none = e1 := by rw [List.getD_eq_getElem?_getD, he1]; rfl
        have := hc rfl H3 e3
        rw [ee] at this
        exact this
      have gD : HA D = some (.lst ((ds.map isMarkD).map V.bl)) := by
        rw [gD, filter_yes, hl, List.map_map, ← range_map_get (V.bl ∘ isMarkD) .none ds]
        rfl
      try unfold tNil
      refine ⟨D, ds.map isMarkD, rfl, SqL.of gD, fin _ HA ?_ hA⟩
      show _ = (decide (0 < ds.length) && ds.all isMarkD)
      rw [decide_eq_true h2, List.all_map]
      rfl
    · refine fin false H ?_ (Evl.Ex.refl H)
      show _ = (decide (0 < ds.length) && _)
      rw [decide_eq_false (fun q : 0 < ds.length => h1 (decide_eq_true (by omega)))]
      rfl
  · have e2 : areMarksD d = false := by
      cases d <;> first | rfl | exact absurd (decide_eq_true (by rfl)) e
    have := k H (Evl.Ex.refl H)
    rw [e2] at this
    exact this
theorem ok_are_rising (T : TX w K mg) : Gt P w K mg base CX0 1 "are_rising" ["row"] (spRising K) := by
  refine gt_mk (D_are_rising T) (g_are_rising T) sc_are_rising rfl (fun _ _ _ _ _ _ us hl => match us, hl with | [_], _ => rfl) (fun vs H Q E h => ?_) (fun f cdv A outer s H vs Q E hr h => ?_)
  · obtain ⟨a, xs, ds, rfl, _⟩ := h
    rfl
  obtain ⟨a, xs, ds, rfl, hw, da, dl, cm, k⟩ := h
  refine ⟨_, (pss_one (ps_ret (pe_callB (cr_all rfl) (by rfl) (f_all T) (by decide +kernel) (pa_cons (pe_lc (own := [("one", 1), ("other", 2)]) (g := (gTup K 2 (gCons (gName 1) (gCons (gName 2) gNil)))) (tt := tYes) rfl sc_are_rising.nd (RZ.pi_zipA (by rfl) (f_zip T) (pa_cons (pv 0) (pa_cons (pe_slice sl_row (pv 0) (po_some pe_int) po_none) pa_nil))) (blkOk_by (N := ["row", "one", "other"]) (sc := defScope s_are_rising) (by decide +kernel)) (fun _ _ _ _ _ => (pg_tup (by rfl) (pgs_cons (pg_name (i := 1) sc_are_rising.nd rfl (by first | exact Or.inl rfl | exact Or.inr rfl)) (pgs_cons (pg_name (i := 2) sc_are_rising.nd rfl (by first | exact Or.inl rfl | exact Or.inr rfl)) pgs_nil)))) (fun _ _ _ _ _ => pts_nil) (fun _ _ _ _ _ => (pe_cmpR (show OpR _ _ (rLtD K PySem.W.dataLt) from op_ltD (sysK T) hr.units) (pv 1) (pv 2) (nomark _)))) pa_nil)))), ?_⟩
  have hl := da.len
  have step : ∀ (i : Nat) (y1 y2 : V) (H' : Hp), Evl.Ex H H' → xs[i]? = some y1 → (xs.drop 1)[i]? = some y2 → ∃ d e, ds[i]? = some d ∧ ds[i + 1]? = some e ∧ Dr K H' y1 d ∧ Dr K H' y2 e := fun i y1 y2 H' e h1 h2 => by
    rw [List.getElem?_drop, Nat.add_comm] at h2
    obtain ⟨d, d1, d2⟩ := DrAll.at (DrAll.ex e _ _ da) h1
    obtain ⟨e', e1, e2⟩ := DrAll.at (DrAll.ex e _ _ da) h2
    exact ⟨d, e', d1, e1, d2, e2⟩
  have zn : min xs.length (xs.length - 1) = min xs.length (xs.drop 1).length := by rw [List.length_drop]
  rcases hw with st | st
  · refine ⟨_, rfl, _, rfl, _, rfl, .inl ⟨a, xs, rfl, st, fun p hp => ?_⟩⟩
    generalize hH_ : upd H p _ = H1
    have x1 : Evl.Ex H H1 := (by rw [← hH_]; exact Evl.Ex.new hp)
    have g1 := (congrFun hH_ p).symm
    rw [upd_same] at g1
    clear hH_
    rw [show (some (1 : Int)) = some ((1 : Nat) : Int) from rfl, cutV_drop] at g1
    try unfold tNil
    refine ⟨a, p, xs, xs.drop 1, rfl, .inl ⟨sql_ex st x1, SqL.of g1, fun D hD => ?_⟩⟩
    refine lc_fm (walk_zip (K := K) (a := a) (b := p) (xs := xs) (ys := xs.drop 1) zn) (fun _ => true) (fun i => .bl (PySem.W.dataLt (ds.getD i .none) (ds.getD (i + 1) .none))) hD (by omega) (fun H' e => ⟨sql_ex (sql_ex st x1) e, sql_ex (SqL.of g1) e⟩) (fun i v H2 H3 C N hi e hy hc _ => ?_) (fun HA hA gD => ?_)
    · obtain ⟨t, y1, y2, rfl, ht, rfl, hy1, hy2⟩ := hy
      have x2 : Evl.Ex H2 _ := Evl.Ex.new (o := .tup [y1, y2]) ht
      obtain ⟨d, d', q1, q2, q3, q4⟩ := step i y1 y2 _ ((x1.trans e).trans x2) hy1 hy2
      refine ⟨t, _, rfl, SqT.of upd_same, rfl, _, _, rfl, _, _, rfl, rfl, rfl, yes_ok ⟨_, rfl, _, rfl, d, d', q3, q4, (cm i d d' q1 q2).1, (cm i d d' q1 q2).2.1, (cm i d d' q1 q2).2.2, ?_⟩⟩
      have := hc rfl _ x2
      rw [List.getD_eq_getElem?_getD, List.getD_eq_getElem?_getD, q1, q2] at this
      exact this
    · refine ⟨D, (ds.zip ds.tail).map fun p => PySem.W.dataLt p.1 p.2, rfl, SqL.of (by rw [gD, filter_yes, hl, rising_row]), ?_⟩
      have := k HA (x1.trans hA)
      unfold risingD at this
      rw [List.all_map]
      exact this
  · refine ⟨_, rfl, _, rfl, _, rfl, .inr (slA_by st fun p H1 x1 g1 => ?_)⟩
    rw [show (some (1 : Int)) = some ((1 : Nat) : Int) from rfl, cutV_drop] at g1
    try unfold tNil
    refine ⟨a, p, xs, xs.drop 1, rfl, .inr ⟨sqt_ex st x1, g1, fun D hD => ?_⟩⟩
    refine lc_fm (walk_zipT (K := K) (a := a) (b := p) (xs := xs) (ys := xs.drop 1) zn) (fun _ => true) (fun i => .bl (PySem.W.dataLt (ds.getD i .none) (ds.getD (i + 1) .none))) hD (by omega) (fun H' e => ⟨sqt_ex (sqt_ex st x1) e, sqt_ex g1 e⟩) (fun i v H2 H3 C N hi e hy hc _ => ?_) (fun HA hA gD => ?_)
    · obtain ⟨t, y1, y2, rfl, ht, rfl, hy1, hy2⟩ := hy
      have x2 : Evl.Ex H2 _ := Evl.Ex.new (o := .tup [y1, y2]) ht
      obtain ⟨d, d', q1, q2, q3, q4⟩ := step i y1 y2 _ ((x1.trans e).trans x2) hy1 hy2
      refine ⟨t, _, rfl, SqT.of upd_same, rfl, _, _, rfl, _, _, rfl, rfl, rfl, yes_ok ⟨_, rfl, _, rfl, d, d', q3, q4, (cm i d d' q1 q2).1, (cm i d d' q1 q2).2.1, (cm i d d' q1 q2).2.2, ?_⟩⟩
      have := hc rfl _ x2
      rw [List.getD_eq_getElem?_getD, List.getD_eq_getElem?_getD, q1, q2] at this
      exact this
    · refine ⟨D, (ds.zip ds.tail).map fun p => PySem.W.dataLt p.1 p.2, rfl, SqL.of (by rw [gD, filter_yes, hl, rising_row]), ?_⟩
      have := k HA (x1.trans hA)
      unfold risingD at this
      rw [List.all_map]
      exact this

theorem ok_is_load (T : TX w K mg) : Gt P w K mg base CX0 5 "is_load" ["thing"] (spMark K isLoadD) := by
  refine gt_mk (D_is_load T) (g_is_load T) sc_is_load rfl (fun _ _ _ _ _ _ us hl => match us, hl with | [_], _ => rfl) (fun vs H Q E h => ?_) (fun f cdv A outer s H vs Q E hr h => ?_)
  · obtain ⟨x, d, rfl, _⟩ := h
    rfl
  obtain ⟨x, d, rfl, hd, ht, k⟩ := h
  refine ⟨_, (pss_cons (ps_if (PW.pt (pw_or (pt_not (pt_val (pe_callB call_isi (by rfl) (f_isinstance T) (by decide +kernel) (pa_cons (pv 0) (pa_cons (pe_gty (n := "tuple") (f_tuple T) (by decide +kernel)) pa_nil))))) (pw_or1 (pt_cmpR op_ne (pe_callB call_len_seq (by rfl) (f_len T) (by decide +kernel) (pa_cons (pv 0) pa_nil)) pe_int (nomark _)))))
      (pss_one (ps_ret pe_bl))
      pss_nil)
    (pss_cons (ps_asg (pv 0) (pg_tup (by rfl) (pgs_cons (pg_name (i := 1) sc_is_load.nd rfl (by first | exact Or.inl rfl | exact Or.inr rfl)) (pgs_cons (pg_name (i := 2) sc_is_load.nd rfl (by first | exact Or.inl rfl | exact Or.inr rfl)) (pgs_cons (pg_name (i := 3) sc_is_load.nd rfl (by first | exact Or.inl rfl | exact Or.inr rfl)) pgs_nil)))))
    (pss_one (ps_ret (pe_and ((ok_is_from T).pe (hr.mono (by decide)) (pa_cons (pv 1) (pa_cons pe_int pa_nil))) (pe_and ((ok_is_from T).pe (hr.mono (by decide)) (pa_cons (pv 2) (pa_cons pe_int pa_nil))) (pe_and ((ok_are_marks T).pe (hr.mono (by decide)) (pa_cons (pv 3) pa_nil)) (pe_one ((ok_are_rising T).pe (hr.mono (by decide)) (pa_cons (pv 3) pa_nil)))))))))), ?_⟩
  refine ⟨_, rfl, x, _, _, _, _, rfl, .ty "tuple", hd.ty, kit_thing d, _, rfl, ?_⟩
  by_cases e : tyN d = "tuple"
  · refine iteF' (by rw [decide_eq_true e]; rfl) ?_
    obtain ⟨a, xs, ds, rfl, rfl, st, da⟩ := hd.tup_of e
    have hl := da.len
    obtain ⟨tl, ta⟩ := txt_tup ht
    refine ⟨_, rfl, a, xs, rfl, .inr st, rfl, _, rfl, ite2 (fun z => ?_) (fun z => ?_)⟩
    · have n3 : ds.length ≠ 3 := fun q => by
        rw [← hl] at q
        rw [q] at z
        cases z
      have e2 : isLoadD (.tuple ds) = false := by
        match ds, n3 with
        | [], _ => rfl
        | [_], _ => rfl
        | [_, _], _ => rfl
        | [_, _, _], h => exact absurd rfl h
        | _ :: _ :: _ :: _ :: _, _ => rfl
      have := k H (Evl.Ex.refl H)
      rw [e2] at this
      exact this
    have n3 : ds.length = 3 := by
      rw [← hl]
      by_cases q : xs.length = 3
      · exact q
      · exfalso
        refine z ?_
        have : ¬ V.int ((xs.length : Nat) : Int) = V.int 3 := fun y => q (by injection y with y; omega)
        show (!decide (V.int ((xs.length : Nat) : Int) = V.int 3)) = true
        rw [decide_eq_false this]
        rfl
    obtain ⟨d1, d2, d3, rfl⟩ : ∃ d1 d2 d3, ds = [d1, d2, d3] := by
      match ds, n3 with
      | [d1, d2, d3], _ => exact ⟨d1, d2, d3, rfl⟩
    cases da with
    | cons r1 da =>
    cases da with
    | cons r2 da =>
    cases da with
    | cons r3 da =>
    cases da
    have fin : ∀ (b : Bool) H', b = (isFromD d1 0 && (isFromD d2 0 && (areMarksD d3 && risingD (itemsD d3)))) → Evl.Ex H H' → Q (.bl b) H' := fun b H' hb he => by rw [hb]; exact k H' he
    refine ⟨_, rfl, a, _, rfl, st, rfl, _, _, rfl, _, _, rfl, _, _, rfl, rfl, ?_⟩
    refine ⟨_, rfl, _, d1, 0, rfl, r1, _, rfl, ite2 (fun z1 => ?_) (fun z1 => ?_)⟩
    · refine ⟨_, rfl, _, d2, 0, rfl, r2, _, rfl, ite2 (fun z2 => ?_) (fun z2 => ?_)⟩
      · have t3 := txtAll_mem ta d3 (by simp)
        refine ⟨_, rfl, _, d3, rfl, r3, t3, fun H1 e1 => ⟨_, rfl, ite2 (fun z3 => ?_) (fun z3 => ?_)⟩⟩
        · have z3' := z3
          obtain ⟨bs, rfl, bl, bm⟩ := areMarksD_of z3
          cases r3 with
          | tup s3 a3 =>
            refine ⟨_, rfl, _, _, bs, rfl, .inr (sqt_ex s3 e1), DrAll.ex e1 _ _ a3, by have := (txt_tup t3).1; omega, marks_cmp bm, fun H2 e2 => fin _ H2 ?_ (e1.trans e2)⟩
            rw [z1, z2, z3']
            rfl
        · refine fin false H1 ?_ e1
          rw [z1, z2, Bool.eq_false_iff.mpr z3]
          rfl
      · refine fin false H ?_ (Evl.Ex.refl H)
        rw [z1, Bool.eq_false_iff.mpr z2]
        rfl
    · refine fin false H ?_ (Evl.Ex.refl H)
      rw [Bool.eq_false_iff.mpr z1]
      rfl
  · refine iteT' (by rw [decide_eq_false e]; rfl) (iteT ?_)
    have e2 : isLoadD d = false := by
      cases d <;> first | rfl | exact absurd rfl e
    have := k H (Evl.Ex.refl H)
    rw [e2] at this
    exact this
theorem ok_are_loads (T : TX w K mg) : Gt P w K mg base CX0 6 "are_loads" ["thing"] (spMark K areLoadsD) := by
  refine gt_mk (D_are_loads T) (g_are_loads T) sc_are_loads rfl (fun _ _ _ _ _ _ us hl => match us, hl with | [_], _ => rfl) (fun vs H Q E h => ?_) (fun f cdv A outer s H vs Q E hr h => ?_)
  · obtain ⟨x, d, rfl, _⟩ := h
    rfl
  obtain ⟨x, d, rfl, hd, ht, k⟩ := h
  refine ⟨_, (pss_cons (ps_if (PW.pt (pw_or (pt_not (pt_val (pe_callB call_isi (by rfl) (f_isinstance T) (by decide +kernel) (pa_cons (pv 0) (pa_cons (pe_gty (n := "tuple") (f_tuple T) (by decide +kernel)) pa_nil))))) (pw_or1 (pt_not (pt_val (pe_callB (cr_all rfl) (by rfl) (f_all T) (by decide +kernel) (pa_cons (pe_lc (own := [("one", 1)]) (g := gName 1) (tt := tYes) rfl sc_are_loads.nd (pi_tup (pv 0)) (blkOk_by (N := ["thing", "one", "load"]) (sc := defScope s_are_loads) (by decide +kernel)) (fun _ _ _ _ _ => (pg_name (i := 1) sc_are_loads.nd rfl (by first | exact Or.inl rfl | exact Or.inr rfl))) (fun _ _ _ _ _ => pts_nil) (fun _ _ _ _ _ => ((ok_is_load T).pe (hr.mono (by decide)) (pa_cons (pv 1) pa_nil)))) pa_nil)))))))
      (pss_one (ps_ret pe_bl))
      pss_nil)
    (pss_one (ps_ret ((ok_are_rising T).pe (hr.mono (by decide)) (pa_cons (pe_lc (own := [("load", 2)]) (g := gName 2) (tt := tYes) rfl sc_are_loads.nd (pi_tup (pv 0)) (blkOk_by (N := ["thing", "one", "load"]) (sc := defScope s_are_loads) (by decide +kernel)) (fun _ _ _ _ _ => (pg_name (i := 2) sc_are_loads.nd rfl (by first | exact Or.inl rfl | exact Or.inr rfl))) (fun _ _ _ _ _ => pts_nil) (fun _ _ _ _ _ => (pe_slice (show SlR _ (rSlA K) from sl_tupA) (pv 2) po_none (po_some pe_int)))) pa_nil))))), ?_⟩
  refine ⟨_, rfl, x, _, _, _, _, rfl, .ty "tuple", hd.ty, kit_thing d, _, rfl, ?_⟩
  by_cases e : tyN d = "tuple"
  · refine iteF' (by rw [decide_eq_true e]; rfl) ?_
    obtain ⟨a, xs, ds, rfl, rfl, st, da⟩ := hd.tup_of e
    have hl := da.len
    obtain ⟨tl, ta⟩ := txt_tup ht
    refine ⟨_, rfl, a, rfl, ⟨_, st⟩, fun D hD => lc_fm (walk_tup (K := K) (a := a) (xs := xs)) (fun _ => true) (fun i => .bl (isLoadD (ds.getD i .none))) hD (by omega) (fun H' he => sqt_ex st he) (fun i v H1 H2 C N hi he hy hc _ => ?_) (fun HA hA gD => ?_)⟩
    · obtain ⟨rfl, hv⟩ := hy
      obtain ⟨e1, he1, he2⟩ := DrAll.at da hv
      refine ⟨rfl, yes_ok ⟨_, rfl, v, e1, rfl, Dr.ex he e1 v he2, txtAll_mem ta e1 (List.mem_of_getElem? he1), fun H3 e3 => ?_⟩⟩
      have ee : ds.getD i .none = e1 := by rw [List.getD_eq_getElem?_getD, he1]; rfl
      have := hc rfl H3 e3
      rw [ee] at this
      exact this
    have gD : HA D = some (.lst ((ds.map isLoadD).map V.bl)) := by
      rw [gD, filter_yes, hl, List.map_map, ← range_map_get (V.bl ∘ isLoadD) .none ds]
      rfl
    refine ⟨D, ds.map isLoadD, rfl, SqL.of gD, _, rfl, ?_⟩
    by_cases al : ds.all isLoadD = true
    · have al' : (ds.map isLoadD).all id = true := by rw [List.all_map]; exact al
      refine iteF' (by rw [al']; rfl) ?_
      have am := List.all_eq_true.mp al
      try unfold tNil
      refine ⟨_, rfl, a, rfl, ⟨_, sqt_ex st hA⟩, fun D2 hD2 => ?_⟩
      refine lc_acc (walk_tup (K := K) (a := a) (xs := xs)) (fun i acc Hh => Evl.Ex HA Hh ∧ ∃ ps : List Addr, acc = ps.map V.ref ∧ ps.length = i ∧ ∀ (j : Nat) p d, ps[j]? = some p → ds[j]? = some d → Dr K Hh (.ref p) (front2 d)) hD2 (by omega)
        (fun i acc Hh q => by obtain ⟨_, ps, rfl, h, _⟩ := q; rw [List.length_map]; omega) ⟨Evl.Ex.refl _, [], rfl, rfl, fun (j : Nat) p d h _ => nil_at h⟩ (fun i acc Hh h1 q => sqt_ex st (hA.trans (q.1.trans hid_ex))) (fun i v H2 H3 acc C N hi hDA q hy hc hn => ?_) (fun HB acc hDB q => ?_)
      · obtain ⟨rfl, hv⟩ := hy
        obtain ⟨e2, ps, rfl, pl, pp⟩ := q
        obtain ⟨d1, he1, he2⟩ := DrAll.at (DrAll.ex ((hA.trans e2).trans hid_ex) _ _ da) hv
        obtain ⟨r, l, bs, rfl, _⟩ := isLoadD_of (am d1 (List.mem_of_getElem? he1))
        cases he2 with
        | tup s1 a1 =>
        cases a1 with
        | cons q1 a1 =>
        cases a1 with
        | cons q2 a1 =>
        cases a1 with
        | cons q3 a1 =>
        cases a1
        cases q1
        cases q2
        refine ⟨rfl, yes_ok ⟨_, rfl, _, rfl, slA_by s1 fun p H4 e4 g4 => ?_⟩⟩
        rw [show (some (2 : Int)) = some ((2 : Nat) : Int) from rfl, cutV_take] at g4
        have hD4 := e4 _ _ hDA
        refine hc (.ref p) H4 hD4 ⟨e2.trans (Ex.hid e4), ps ++ [p], by rw [List.map_append]; rfl, by rw [List.length_append, pl]; rfl, fun j p' d' h1 h2 => ?_⟩
        rcases snoc_at h1 with h | ⟨h, rfl⟩
        · exact Dr.ex (Ex.hid e4) _ _ (pp j p' d' h h2)
        · rw [h, pl, he1] at h2
          obtain rfl := Option.some.inj h2
          exact .tup (sqt_hid hD4 (fun _ z => nomatch z) (fun _ _ z => nomatch z) g4) (.cons (.int r) (.cons (.int l) .nil))
      · obtain ⟨e2, ps, rfl, pl, pp⟩ := q
        have eB : Evl.Ex HA HB := e2.trans hid_ex
        refine ⟨D2, ps.map V.ref, ds.map front2, rfl, .inl (SqL.of hDB), ?_, by rw [List.length_map]; omega, loads_cmp am, fun H3 e3 => ?_⟩
        · refine drAll_of (by rw [List.length_map, List.length_map, pl, hl]) fun i v d h1 h2 => ?_
          obtain ⟨p, hp, rfl⟩ := map_at h1
          rw [List.getElem?_map] at h2
          cases q : ds[i]? with
          | none => rw [q] at h2; cases h2
          | some d1 =>
            rw [q] at h2
            obtain rfl := Option.some.inj h2
            exact Dr.ex hid_ex _ _ (pp i p d1 hp q)
        · have := k H3 (hA.trans (eB.trans e3))
          have ee : areLoadsD (.tuple ds) = risingD (ds.map front2) := by
            show (ds.all isLoadD && _) = _
            rw [al]
            rfl
          rw [ee] at this
          exact this
    · have al' : (ds.map isLoadD).all id = false := by rw [List.all_map]; exact Bool.eq_false_iff.mpr al
      refine iteT' (by rw [al']; rfl) ?_
      have e2 : areLoadsD (.tuple ds) = false := by
        show (ds.all isLoadD && _) = _
        rw [Bool.eq_false_iff.mpr al]
        rfl
      have := k HA hA
      rw [e2] at this
      exact this
  · refine iteT' (by rw [decide_eq_false e]; rfl) (iteT ?_)
    have e2 : areLoadsD d = false := by
      cases d <;> first | rfl | exact absurd rfl e
    have := k H (Evl.Ex.refl H)
    rw [e2] at this
    exact this

theorem ok_are_posted (T : TX w K mg) : Gt P w K mg base CX0 6 "are_posted" ["things"] (spLook K 6 postedD) := by
  refine gt_mk (D_are_posted T) (g_are_posted T) sc_are_posted rfl (fun _ _ _ _ _ _ us hl => match us, hl with | [_], _ => rfl) (fun vs H Q E h => ?_) (fun f cdv A outer s H vs Q E hr h => ?_)
  · obtain ⟨a, xs, ds, rfl, _⟩ := h
    rfl
  obtain ⟨a, xs, ds, rfl, st, da, n3, ta, k⟩ := h
  refine ⟨_, (pss_cons (ps_asg (pv 0) (pg_tup (by rfl) (pgs_cons (pg_name (i := 1) sc_are_posted.nd rfl (by first | exact Or.inl rfl | exact Or.inr rfl)) (pgs_cons (pg_name (i := 2) sc_are_posted.nd rfl (by first | exact Or.inl rfl | exact Or.inr rfl)) (pgs_cons (pg_name (i := 3) sc_are_posted.nd rfl (by first | exact Or.inl rfl | exact Or.inr rfl)) (pgs_cons (pg_name (i := 4) sc_are_posted.nd rfl (by first | exact Or.inl rfl | exact Or.inr rfl)) (pgs_cons (pg_name (i := 5) sc_are_posted.nd rfl (by first | exact Or.inl rfl | exact Or.inr rfl)) (pgs_cons (pg_name (i := 6) sc_are_posted.nd rfl (by first | exact Or.inl rfl | exact Or.inr rfl)) pgs_nil))))))))
    (pss_cons (ps_if (PW.pt (pw_or (pt_not (pt_val ((ok_is_mark T).pe (hr.mono (by decide)) (pa_cons (pv 1) pa_nil)))) (pw_or (pt_not (pt_val ((ok_is_address T).pe (hr.mono (by decide)) (pa_cons (pv 2) pa_nil)))) (pw_or1 (pt_not (pt_val ((ok_is_address T).pe (hr.mono (by decide)) (pa_cons (pv 3) pa_nil))))))))
      (pss_one (ps_ret pe_bl))
      pss_nil)
    (pss_one (ps_ret (pe_and ((ok_is_between T).pe (hr.mono (by decide)) (pa_cons (pv 4) (pa_cons pe_int (pa_cons (pe_gint (c_MOST_WEIGHT T)) pa_nil)))) (pe_and (pe_callB call_isi (by rfl) (f_isinstance T) (by decide +kernel) (pa_cons (pv 5) (pa_cons (pe_gty (n := "bool") (f_bool T) (by decide +kernel)) pa_nil))) (pe_one ((ok_is_from T).pe (hr.mono (by decide)) (pa_cons (pv 6) (pa_cons pe_int pa_nil)))))))))), ?_⟩
  obtain ⟨d1, d2, d3, d4, d5, d6, rfl⟩ : ∃ d1 d2 d3 d4 d5 d6, ds = [d1, d2, d3, d4, d5, d6] := by
    match ds, n3 with
    | [d1, d2, d3, d4, d5, d6], _ => exact ⟨d1, d2, d3, d4, d5, d6, rfl⟩
  cases da with
  | cons r1 da =>
  cases da with
  | cons r2 da =>
  cases da with
  | cons r3 da =>
  cases da with
  | cons r4 da =>
  cases da with
  | cons r5 da =>
  cases da with
  | cons r6 da =>
  cases da
  have fin : ∀ (b : Bool) H', b = (isMarkD d1 && (isAdD d2 && (isAdD d3 && (isBetwD d4 1 99 && (isBoolD d5 && isFromD d6 0))))) → Evl.Ex H H' → Q (.bl b) H' := fun b H' hb he => by rw [hb]; exact k H' he
  refine ⟨_, rfl, a, _, rfl, st, rfl, _, _, rfl, _, _, rfl, _, _, rfl, _, _, rfl, _, _, rfl, _, _, rfl, rfl, ?_⟩
  refine ⟨_, rfl, _, d1, rfl, r1, txtAll_mem ta d1 (by simp), fun H1 e1 => ⟨_, rfl, ?_⟩⟩
  have e01 : Evl.Ex H H1 := e1
  by_cases z1 : isMarkD d1 = true
  rotate_left
  · refine iteT' (by rw [Bool.eq_false_iff.mpr z1]; rfl) (iteT ?_)
    refine fin false _ ?_ e01
    simp [Bool.eq_false_iff.mpr z1]
  refine iteF' (by rw [z1]; rfl) ?_
  refine ⟨_, rfl, _, d2, rfl, Dr.ex e01 _ _ r2, (fun es he e hm z hz => txt_str (txtAll_mem (txt_tup (he ▸ txtAll_mem ta d2 (by simp))).2 e hm) z hz), fun H2 e2 => ⟨_, rfl, ?_⟩⟩
  have e02 : Evl.Ex H H2 := e01.trans e2
  by_cases z2 : isAdD d2 = true
  rotate_left
  · refine iteT' (by rw [Bool.eq_false_iff.mpr z2]; rfl) (iteT ?_)
    refine fin false _ ?_ e02
    simp [z1, Bool.eq_false_iff.mpr z2]
  refine iteF' (by rw [z2]; rfl) ?_
  refine ⟨_, rfl, _, d3, rfl, Dr.ex e02 _ _ r3, (fun es he e hm z hz => txt_str (txtAll_mem (txt_tup (he ▸ txtAll_mem ta d3 (by simp))).2 e hm) z hz), fun H3 e3 => ⟨_, rfl, ?_⟩⟩
  have e03 : Evl.Ex H H3 := e02.trans e3
  by_cases z3 : isAdD d3 = true
  rotate_left
  · refine iteT' (by rw [Bool.eq_false_iff.mpr z3]; rfl) ?_
    refine fin false _ ?_ e03
    simp [z1, z2, Bool.eq_false_iff.mpr z3]
  refine iteF' (by rw [z3]; rfl) ?_
  refine ⟨_, rfl, _, d4, 1, 99, rfl, Dr.ex e03 _ _ r4, _, rfl, ?_⟩
  refine ite2 (fun z4 => ?_) (fun z4 => ?_)
  rotate_left
  · refine fin false _ ?_ e03
    simp [z1, z2, z3, Bool.eq_false_iff.mpr z4]
  refine ⟨_, rfl, _, _, _, _, _, rfl, .ty "bool", (Dr.ex e03 _ _ r5).ty, kit_thing d5, _, rfl, ?_⟩
  have bo : decide (tyN d5 = "bool") = isBoolD d5 := by cases d5 <;> rfl
  rw [bo]
  refine ite2 (fun z5 => ?_) (fun z5 => ?_)
  rotate_left
  · refine fin false _ ?_ e03
    simp [z1, z2, z3, z4, Bool.eq_false_iff.mpr z5]
  refine ⟨_, rfl, _, d6, 0, rfl, Dr.ex e03 _ _ r6, fin _ _ ?_ e03⟩
  simp [z1, z2, z3, z4, z5]
theorem ok_are_bagged (T : TX w K mg) : Gt P w K mg base CX0 6 "are_bagged" ["things"] (spLook K 4 baggedD) := by
  refine gt_mk (D_are_bagged T) (g_are_bagged T) sc_are_bagged rfl (fun _ _ _ _ _ _ us hl => match us, hl with | [_], _ => rfl) (fun vs H Q E h => ?_) (fun f cdv A outer s H vs Q E hr h => ?_)
  · obtain ⟨a, xs, ds, rfl, _⟩ := h
    rfl
  obtain ⟨a, xs, ds, rfl, st, da, n3, ta, k⟩ := h
  refine ⟨_, (pss_cons (ps_asg (pv 0) (pg_tup (by rfl) (pgs_cons (pg_name (i := 1) sc_are_bagged.nd rfl (by first | exact Or.inl rfl | exact Or.inr rfl)) (pgs_cons (pg_name (i := 2) sc_are_bagged.nd rfl (by first | exact Or.inl rfl | exact Or.inr rfl)) (pgs_cons (pg_name (i := 3) sc_are_bagged.nd rfl (by first | exact Or.inl rfl | exact Or.inr rfl)) (pgs_cons (pg_name (i := 4) sc_are_bagged.nd rfl (by first | exact Or.inl rfl | exact Or.inr rfl)) pgs_nil))))))
    (pss_one (ps_ret (pe_and ((ok_is_mark T).pe (hr.mono (by decide)) (pa_cons (pv 1) pa_nil)) (pe_and ((ok_is_from T).pe (hr.mono (by decide)) (pa_cons (pv 2) (pa_cons pe_int pa_nil))) (pe_and ((ok_is_from T).pe (hr.mono (by decide)) (pa_cons (pv 3) (pa_cons pe_int pa_nil))) (pe_one ((ok_are_marks T).pe (hr.mono (by decide)) (pa_cons (pv 4) pa_nil))))))))), ?_⟩
  obtain ⟨d1, d2, d3, d4, rfl⟩ : ∃ d1 d2 d3 d4, ds = [d1, d2, d3, d4] := by
    match ds, n3 with
    | [d1, d2, d3, d4], _ => exact ⟨d1, d2, d3, d4, rfl⟩
  cases da with
  | cons r1 da =>
  cases da with
  | cons r2 da =>
  cases da with
  | cons r3 da =>
  cases da with
  | cons r4 da =>
  cases da
  have fin : ∀ (b : Bool) H', b = (isMarkD d1 && (isFromD d2 0 && (isFromD d3 0 && areMarksD d4))) → Evl.Ex H H' → Q (.bl b) H' := fun b H' hb he => by rw [hb]; exact k H' he
  refine ⟨_, rfl, a, _, rfl, st, rfl, _, _, rfl, _, _, rfl, _, _, rfl, _, _, rfl, rfl, ?_⟩
  refine ⟨_, rfl, _, d1, rfl, r1, txtAll_mem ta d1 (by simp), fun H1 e1 => ⟨_, rfl, ?_⟩⟩
  have e01 : Evl.Ex H H1 := e1
  refine ite2 (fun z1 => ?_) (fun z1 => ?_)
  rotate_left
  · refine fin false _ ?_ e01
    simp [Bool.eq_false_iff.mpr z1]
  refine ⟨_, rfl, _, d2, 0, rfl, Dr.ex e01 _ _ r2, _, rfl, ?_⟩
  refine ite2 (fun z2 => ?_) (fun z2 => ?_)
  rotate_left
  · refine fin false _ ?_ e01
    simp [z1, Bool.eq_false_iff.mpr z2]
  refine ⟨_, rfl, _, d3, 0, rfl, Dr.ex e01 _ _ r3, _, rfl, ?_⟩
  refine ite2 (fun z3 => ?_) (fun z3 => ?_)
  rotate_left
  · refine fin false _ ?_ e01
    simp [z1, z2, Bool.eq_false_iff.mpr z3]
  refine ⟨_, rfl, _, d4, rfl, Dr.ex e01 _ _ r4, txtAll_mem ta d4 (by simp), fun H2 e2 => fin _ H2 ?_ (e01.trans e2)⟩
  simp [z1, z2, z3]
theorem ok_are_opened (T : TX w K mg) : Gt P w K mg base CX0 6 "are_opened" ["things"] (spLook K 1 openedD) := by
  refine gt_mk (D_are_opened T) (g_are_opened T) sc_are_opened rfl (fun _ _ _ _ _ _ us hl => match us, hl with | [_], _ => rfl) (fun vs H Q E h => ?_) (fun f cdv A outer s H vs Q E hr h => ?_)
  · obtain ⟨a, xs, ds, rfl, _⟩ := h
    rfl
  obtain ⟨a, xs, ds, rfl, st, da, n3, ta, k⟩ := h
  refine ⟨_, (pss_one (ps_ret ((ok_is_mark T).pe (hr.mono (by decide)) (pa_cons (pe_ix ix_tup (pv 0) pe_int (fun _ _ => rfl)) pa_nil)))), ?_⟩
  obtain ⟨d1, rfl⟩ : ∃ d1, ds = [d1] := by
    match ds, n3 with
    | [d1], _ => exact ⟨d1, rfl⟩
  cases da with
  | cons r1 da =>
  cases da
  have fin : ∀ (b : Bool) H', b = isMarkD d1 → Evl.Ex H H' → Q (.bl b) H' := fun b H' hb he => by rw [hb]; exact k H' he
  refine ⟨_, rfl, a, _, _, _, rfl, rfl, st, atI_nat (j := 0) rfl, _, d1, rfl, r1, txtAll_mem ta d1 (by simp), fun H1 e1 => fin _ H1 ?_ e1⟩
  rfl
theorem ok_are_shut (T : TX w K mg) : Gt P w K mg base CX0 6 "are_shut" ["things"] (spLook K 2 shutD) := by
  refine gt_mk (D_are_shut T) (g_are_shut T) sc_are_shut rfl (fun _ _ _ _ _ _ us hl => match us, hl with | [_], _ => rfl) (fun vs H Q E h => ?_) (fun f cdv A outer s H vs Q E hr h => ?_)
  · obtain ⟨a, xs, ds, rfl, _⟩ := h
    rfl
  obtain ⟨a, xs, ds, rfl, st, da, n3, ta, k⟩ := h
  refine ⟨_, (pss_cons (ps_asg (pv 0) (pg_tup (by rfl) (pgs_cons (pg_name (i := 1) sc_are_shut.nd rfl (by first | exact Or.inl rfl | exact Or.inr rfl)) (pgs_cons (pg_name (i := 2) sc_are_shut.nd rfl (by first | exact Or.inl rfl | exact Or.inr rfl)) pgs_nil))))
    (pss_one (ps_ret (pe_and ((ok_is_from T).pe (hr.mono (by decide)) (pa_cons (pv 1) (pa_cons pe_int pa_nil))) (pe_one ((ok_is_from T).pe (hr.mono (by decide)) (pa_cons (pv 2) (pa_cons pe_int pa_nil)))))))), ?_⟩
  obtain ⟨d1, d2, rfl⟩ : ∃ d1 d2, ds = [d1, d2] := by
    match ds, n3 with
    | [d1, d2], _ => exact ⟨d1, d2, rfl⟩
  cases da with
  | cons r1 da =>
  cases da with
  | cons r2 da =>
  cases da
  have fin : ∀ (b : Bool) H', b = (isFromD d1 0 && isFromD d2 0) → Evl.Ex H H' → Q (.bl b) H' := fun b H' hb he => by rw [hb]; exact k H' he
  refine ⟨_, rfl, a, _, rfl, st, rfl, _, _, rfl, _, _, rfl, rfl, ?_⟩
  refine ⟨_, rfl, _, d1, 0, rfl, r1, _, rfl, ?_⟩
  refine ite2 (fun z1 => ?_) (fun z1 => ?_)
  rotate_left
  · refine fin false _ ?_ (Evl.Ex.refl H)
    simp [Bool.eq_false_iff.mpr z1]
  refine ⟨_, rfl, _, d2, 0, rfl, r2, fin _ _ ?_ (Evl.Ex.refl H)⟩
  simp [z1]
theorem ok_are_late (T : TX w K mg) : Gt P w K mg base CX0 6 "are_late" ["things"] (spLook K 3 lateD) := by
  refine gt_mk (D_are_late T) (g_are_late T) sc_are_late rfl (fun _ _ _ _ _ _ us hl => match us, hl with | [_], _ => rfl) (fun vs H Q E h => ?_) (fun f cdv A outer s H vs Q E hr h => ?_)
  · obtain ⟨a, xs, ds, rfl, _⟩ := h
    rfl
  obtain ⟨a, xs, ds, rfl, st, da, n3, ta, k⟩ := h
  refine ⟨_, (pss_cons (ps_asg (pv 0) (pg_tup (by rfl) (pgs_cons (pg_name (i := 1) sc_are_late.nd rfl (by first | exact Or.inl rfl | exact Or.inr rfl)) (pgs_cons (pg_name (i := 2) sc_are_late.nd rfl (by first | exact Or.inl rfl | exact Or.inr rfl)) (pgs_cons (pg_name (i := 3) sc_are_late.nd rfl (by first | exact Or.inl rfl | exact Or.inr rfl)) pgs_nil)))))
    (pss_one (ps_ret (pe_and ((ok_is_from T).pe (hr.mono (by decide)) (pa_cons (pv 1) (pa_cons pe_int pa_nil))) (pe_and ((ok_is_from T).pe (hr.mono (by decide)) (pa_cons (pv 2) (pa_cons pe_int pa_nil))) (pe_one ((ok_is_from T).pe (hr.mono (by decide)) (pa_cons (pv 3) (pa_cons pe_int pa_nil))))))))), ?_⟩
  obtain ⟨d1, d2, d3, rfl⟩ : ∃ d1 d2 d3, ds = [d1, d2, d3] := by
    match ds, n3 with
    | [d1, d2, d3], _ => exact ⟨d1, d2, d3, rfl⟩
  cases da with
  | cons r1 da =>
  cases da with
  | cons r2 da =>
  cases da with
  | cons r3 da =>
  cases da
  have fin : ∀ (b : Bool) H', b = (isFromD d1 0 && (isFromD d2 0 && isFromD d3 1)) → Evl.Ex H H' → Q (.bl b) H' := fun b H' hb he => by rw [hb]; exact k H' he
  refine ⟨_, rfl, a, _, rfl, st, rfl, _, _, rfl, _, _, rfl, _, _, rfl, rfl, ?_⟩
  refine ⟨_, rfl, _, d1, 0, rfl, r1, _, rfl, ?_⟩
  refine ite2 (fun z1 => ?_) (fun z1 => ?_)
  rotate_left
  · refine fin false _ ?_ (Evl.Ex.refl H)
    simp [Bool.eq_false_iff.mpr z1]
  refine ⟨_, rfl, _, d2, 0, rfl, r2, _, rfl, ?_⟩
  refine ite2 (fun z2 => ?_) (fun z2 => ?_)
  rotate_left
  · refine fin false _ ?_ (Evl.Ex.refl H)
    simp [z1, Bool.eq_false_iff.mpr z2]
  refine ⟨_, rfl, _, d3, 1, rfl, r3, fin _ _ ?_ (Evl.Ex.refl H)⟩
  simp [z1, z2]
theorem ok_are_handed (T : TX w K mg) : Gt P w K mg base CX0 6 "are_handed" ["things"] (spLook K 2 handedD) := by
  refine gt_mk (D_are_handed T) (g_are_handed T) sc_are_handed rfl (fun _ _ _ _ _ _ us hl => match us, hl with | [_], _ => rfl) (fun vs H Q E h => ?_) (fun f cdv A outer s H vs Q E hr h => ?_)
  · obtain ⟨a, xs, ds, rfl, _⟩ := h
    rfl
  obtain ⟨a, xs, ds, rfl, st, da, n3, ta, k⟩ := h
  refine ⟨_, (pss_cons (ps_asg (pv 0) (pg_tup (by rfl) (pgs_cons (pg_name (i := 1) sc_are_handed.nd rfl (by first | exact Or.inl rfl | exact Or.inr rfl)) (pgs_cons (pg_name (i := 2) sc_are_handed.nd rfl (by first | exact Or.inl rfl | exact Or.inr rfl)) pgs_nil))))
    (pss_one (ps_ret (pe_and ((ok_is_mark T).pe (hr.mono (by decide)) (pa_cons (pv 1) pa_nil)) (pe_one ((ok_is_from T).pe (hr.mono (by decide)) (pa_cons (pv 2) (pa_cons pe_int pa_nil)))))))), ?_⟩
  obtain ⟨d1, d2, rfl⟩ : ∃ d1 d2, ds = [d1, d2] := by
    match ds, n3 with
    | [d1, d2], _ => exact ⟨d1, d2, rfl⟩
  cases da with
  | cons r1 da =>
  cases da with
  | cons r2 da =>
  cases da
  have fin : ∀ (b : Bool) H', b = (isMarkD d1 && isFromD d2 0) → Evl.Ex H H' → Q (.bl b) H' := fun b H' hb he => by rw [hb]; exact k H' he
  refine ⟨_, rfl, a, _, rfl, st, rfl, _, _, rfl, _, _, rfl, rfl, ?_⟩
  refine ⟨_, rfl, _, d1, rfl, r1, txtAll_mem ta d1 (by simp), fun H1 e1 => ⟨_, rfl, ?_⟩⟩
  have e01 : Evl.Ex H H1 := e1
  refine ite2 (fun z1 => ?_) (fun z1 => ?_)
  rotate_left
  · refine fin false _ ?_ e01
    simp [Bool.eq_false_iff.mpr z1]
  refine ⟨_, rfl, _, d2, 0, rfl, Dr.ex e01 _ _ r2, fin _ _ ?_ e01⟩
  simp [z1]
theorem ok_are_forwarded (T : TX w K mg) : Gt P w K mg base CX0 6 "are_forwarded" ["things"] (spLook K 2 forwardedD) := by
  refine gt_mk (D_are_forwarded T) (g_are_forwarded T) sc_are_forwarded rfl (fun _ _ _ _ _ _ us hl => match us, hl with | [_], _ => rfl) (fun vs H Q E h => ?_) (fun f cdv A outer s H vs Q E hr h => ?_)
  · obtain ⟨a, xs, ds, rfl, _⟩ := h
    rfl
  obtain ⟨a, xs, ds, rfl, st, da, n3, ta, k⟩ := h
  refine ⟨_, (pss_cons (ps_asg (pv 0) (pg_tup (by rfl) (pgs_cons (pg_name (i := 1) sc_are_forwarded.nd rfl (by first | exact Or.inl rfl | exact Or.inr rfl)) (pgs_cons (pg_name (i := 2) sc_are_forwarded.nd rfl (by first | exact Or.inl rfl | exact Or.inr rfl)) pgs_nil))))
    (pss_one (ps_ret (pe_and ((ok_is_mark T).pe (hr.mono (by decide)) (pa_cons (pv 1) pa_nil)) (pe_one ((ok_is_name T).pe (hr.mono (by decide)) (pa_cons (pv 2) pa_nil))))))), ?_⟩
  obtain ⟨d1, d2, rfl⟩ : ∃ d1 d2, ds = [d1, d2] := by
    match ds, n3 with
    | [d1, d2], _ => exact ⟨d1, d2, rfl⟩
  cases da with
  | cons r1 da =>
  cases da with
  | cons r2 da =>
  cases da
  have fin : ∀ (b : Bool) H', b = (isMarkD d1 && isNmD d2) → Evl.Ex H H' → Q (.bl b) H' := fun b H' hb he => by rw [hb]; exact k H' he
  refine ⟨_, rfl, a, _, rfl, st, rfl, _, _, rfl, _, _, rfl, rfl, ?_⟩
  refine ⟨_, rfl, _, d1, rfl, r1, txtAll_mem ta d1 (by simp), fun H1 e1 => ⟨_, rfl, ?_⟩⟩
  have e01 : Evl.Ex H H1 := e1
  refine ite2 (fun z1 => ?_) (fun z1 => ?_)
  rotate_left
  · refine fin false _ ?_ e01
    simp [Bool.eq_false_iff.mpr z1]
  refine ⟨_, rfl, _, d2, rfl, Dr.ex e01 _ _ r2, txt_str (txtAll_mem ta d2 (by simp)), fun H2 e2 => fin _ H2 ?_ (e01.trans e2)⟩
  simp [z1]

theorem ok_are_moved (T : TX w K mg) : Gt P w K mg base CX0 6 "are_moved" ["things"] (spLook K 5 movedD) := by
  refine gt_mk (D_are_moved T) (g_are_moved T) sc_are_moved rfl (fun _ _ _ _ _ _ us hl => match us, hl with | [_], _ => rfl) (fun vs H Q E h => ?_) (fun f cdv A outer s H vs Q E hr h => ?_)
  · obtain ⟨a, xs, ds, rfl, _⟩ := h
    rfl
  obtain ⟨a, xs, ds, rfl, st, da, n3, ta, k⟩ := h
  refine ⟨_, (pss_cons (ps_asg (pv 0) (pg_tup (by rfl) (pgs_cons (pg_name (i := 1) sc_are_moved.nd rfl (by first | exact Or.inl rfl | exact Or.inr rfl)) (pgs_cons (pg_name (i := 2) sc_are_moved.nd rfl (by first | exact Or.inl rfl | exact Or.inr rfl)) (pgs_cons (pg_name (i := 3) sc_are_moved.nd rfl (by first | exact Or.inl rfl | exact Or.inr rfl)) (pgs_cons (pg_name (i := 4) sc_are_moved.nd rfl (by first | exact Or.inl rfl | exact Or.inr rfl)) (pgs_cons (pg_name (i := 5) sc_are_moved.nd rfl (by first | exact Or.inl rfl | exact Or.inr rfl)) pgs_nil)))))))
    (pss_cons (ps_if (pt_not (pt_val (pe_callB (cr_all rfl) (by rfl) (f_all T) (by decide +kernel) (pa_cons (pe_lc (own := [("one", 6)]) (g := gName 6) (tt := tYes) rfl sc_are_moved.nd (pi_tup (pe_tup (pa_cons (pv 1) (pa_cons (pv 2) (pa_cons (pv 3) pa_nil))))) (blkOk_by (N := ["things", "person", "street", "other", "first", "last", "one"]) (sc := defScope s_are_moved) (by decide +kernel)) (fun _ _ _ _ _ => (pg_name (i := 6) sc_are_moved.nd rfl (by first | exact Or.inl rfl | exact Or.inr rfl))) (fun _ _ _ _ _ => pts_nil) (fun _ _ _ _ _ => ((ok_is_name T).pe (hr.mono (by decide)) (pa_cons (pv 6) pa_nil)))) pa_nil))))
      (pss_one (ps_ret pe_bl))
      pss_nil)
    (pss_one (ps_ret (pe_and ((ok_is_from T).pe (hr.mono (by decide)) (pa_cons (pv 4) (pa_cons pe_int pa_nil))) (pe_one (pe_or (pe_cmpR op_isN (pv 5) pe_non (nomark _)) (pe_one ((ok_is_from T).pe (hr.mono (by decide)) (pa_cons (pv 5) (pa_cons pe_int pa_nil))))))))))), ?_⟩
  obtain ⟨d1, d2, d3, d4, d5, rfl⟩ : ∃ d1 d2 d3 d4 d5, ds = [d1, d2, d3, d4, d5] := by
    match ds, n3 with
    | [d1, d2, d3, d4, d5], _ => exact ⟨d1, d2, d3, d4, d5, rfl⟩
  obtain ⟨y1, y2, y3, y4, y5, rfl⟩ : ∃ y1 y2 y3 y4 y5, xs = [y1, y2, y3, y4, y5] := by
    have := da.len
    match xs, this with
    | [y1, y2, y3, y4, y5], _ => exact ⟨y1, y2, y3, y4, y5, rfl⟩
  cases da with
  | cons r1 da =>
  cases da with
  | cons r2 da =>
  cases da with
  | cons r3 da =>
  cases da with
  | cons r4 da =>
  cases da with
  | cons r5 da =>
  cases da
  have fin : ∀ (b : Bool) H', b = (isNmD d1 && (isNmD d2 && (isNmD d3 && (isFromD d4 0 && (isNoneD d5 || isFromD d5 0))))) → Evl.Ex H H' → Q (.bl b) H' := fun b H' hb he => by rw [hb]; exact k H' he
  refine ⟨_, rfl, a, _, rfl, st, rfl, _, _, rfl, _, _, rfl, _, _, rfl, _, _, rfl, _, _, rfl, rfl, ?_⟩
  refine ⟨_, rfl, _, rfl, _, rfl, (by show 3 ≤ sizeLine; decide), fun t ht => ?_⟩
  generalize hH_ : upd H t _ = H1
  have x1 : Evl.Ex H H1 := (by rw [← hH_]; exact Evl.Ex.new ht)
  have g1 := (congrFun hH_ t).symm
  rw [upd_same] at g1
  clear hH_
  have dd : DrAll K H1 [y1, y2, y3] [d1, d2, d3] := .cons (Dr.ex x1 _ _ r1) (.cons (Dr.ex x1 _ _ r2) (.cons (Dr.ex x1 _ _ r3) .nil))
  have tt : ∀ d ∈ [d1, d2, d3], txt d := fun d hd => txtAll_mem ta d (by simp only [List.mem_cons, List.not_mem_nil, or_false] at hd ⊢; rcases hd with h | h | h <;> simp [h])
  refine ⟨t, rfl, ⟨_, SqT.of g1⟩, fun D hD => lc_fm (walk_tup (K := K) (a := t) (xs := [y1, y2, y3])) (fun _ => true) (fun i => .bl (isNmD ([d1, d2, d3].getD i .none))) hD (by show 3 < 1000000; decide) (fun H' he => SqT.of (he _ _ g1)) (fun i v H2 H3 C N hi he hy hc _ => ?_) (fun HA hA gD => ?_)⟩
  · obtain ⟨rfl, hv⟩ := hy
    obtain ⟨e1, he1, he2⟩ := DrAll.at dd hv
    refine ⟨rfl, yes_ok ⟨_, rfl, v, e1, rfl, Dr.ex he e1 v he2, txt_str (tt e1 (List.mem_of_getElem? he1)), fun H3 e3 => ?_⟩⟩
    have ee : [d1, d2, d3].getD i .none = e1 := by rw [List.getD_eq_getElem?_getD, he1]; rfl
    have := hc rfl H3 e3
    rw [ee] at this
    exact this
  have xA := x1.trans hA
  try unfold tNil
  refine ⟨D, [isNmD d1, isNmD d2, isNmD d3], rfl, SqL.of (by rw [gD, filter_yes]; rfl), _, rfl, ?_⟩
  by_cases z : ([isNmD d1, isNmD d2, isNmD d3].all id) = true
  rotate_left
  · refine iteT' (by rw [Bool.eq_false_iff.mpr z]; rfl) ?_
    refine fin false _ ?_ xA
    have z' : (isNmD d1 && (isNmD d2 && (isNmD d3 && true))) = false := Bool.eq_false_iff.mpr z
    cases q1 : isNmD d1
    · rfl
    cases q2 : isNmD d2
    · rfl
    cases q3 : isNmD d3
    · rfl
    rw [q1, q2, q3] at z'
    cases z'
  refine iteF' (by rw [z]; rfl) ?_
  obtain ⟨z1, z2, z3⟩ : isNmD d1 = true ∧ isNmD d2 = true ∧ isNmD d3 = true := by simpa using z
  refine ⟨_, rfl, _, d4, 0, rfl, Dr.ex xA _ _ r4, _, rfl, ite2 (fun z4 => ?_) (fun z4 => ?_)⟩
  rotate_left
  · refine fin false _ ?_ xA
    simp [z1, z2, z3, Bool.eq_false_iff.mpr z4]
  by_cases q : y5 = .non
  · refine ⟨_, rfl, rfl, _, rfl, iteT' (decide_eq_true q) ?_⟩
    refine fin true _ ?_ xA
    rw [q] at r5
    cases r5
    simp [z1, z2, z3, z4, isNoneD]
  · refine ⟨_, rfl, rfl, _, rfl, iteF' (decide_eq_false q) ?_⟩
    refine ⟨_, rfl, _, d5, 0, rfl, Dr.ex xA _ _ r5, fin _ _ ?_ xA⟩
    have nn : isNoneD d5 = false := by
      cases r5 <;> first | rfl | exact absurd rfl q
    simp [z1, z2, z3, z4, nn]
theorem ok_are_refused (T : TX w K mg) : Gt P w K mg base CX0 6 "are_refused" ["things"] (spLook K 2 refusedD) := by
  refine gt_mk (D_are_refused T) (g_are_refused T) sc_are_refused rfl (fun _ _ _ _ _ _ us hl => match us, hl with | [_], _ => rfl) (fun vs H Q E h => ?_) (fun f cdv A outer s H vs Q E hr h => ?_)
  · obtain ⟨a, xs, ds, rfl, _⟩ := h
    rfl
  obtain ⟨a, xs, ds, rfl, st, da, n3, ta, k⟩ := h
  refine ⟨_, (pss_cons (ps_asg (pv 0) (pg_tup (by rfl) (pgs_cons (pg_name (i := 1) sc_are_refused.nd rfl (by first | exact Or.inl rfl | exact Or.inr rfl)) (pgs_cons (pg_name (i := 2) sc_are_refused.nd rfl (by first | exact Or.inl rfl | exact Or.inr rfl)) pgs_nil))))
    (pss_one (ps_ret (pe_and ((ok_is_mark T).pe (hr.mono (by decide)) (pa_cons (pv 1) pa_nil)) (pe_and (pe_callB call_isi (by rfl) (f_isinstance T) (by decide +kernel) (pa_cons (pv 2) (pa_cons (pe_gty (n := "str") (f_str T) (by decide +kernel)) pa_nil))) (pe_one (pe_cmpR op_in_seq (pv 2) (pe_gref (g_WHYS T)) (by rfl)))))))), ?_⟩
  obtain ⟨d1, d2, rfl⟩ : ∃ d1 d2, ds = [d1, d2] := by
    match ds, n3 with
    | [d1, d2], _ => exact ⟨d1, d2, rfl⟩
  cases da with
  | cons r1 da =>
  cases da with
  | cons r2 da =>
  cases da
  have fin : ∀ (b : Bool) H', b = (isMarkD d1 && isWhyD d2) → Evl.Ex H H' → Q (.bl b) H' := fun b H' hb he => by rw [hb]; exact k H' he
  refine ⟨_, rfl, a, _, rfl, st, rfl, _, _, rfl, _, _, rfl, rfl, ?_⟩
  refine ⟨_, rfl, _, d1, rfl, r1, txtAll_mem ta d1 (by simp), fun H1 e1 => ⟨_, rfl, ?_⟩⟩
  refine ite2 (fun z1 => ?_) (fun z1 => ?_)
  rotate_left
  · refine fin false _ ?_ e1
    simp [Bool.eq_false_iff.mpr z1]
  refine ⟨_, rfl, _, _, _, _, _, rfl, .ty "str", (Dr.ex e1 _ _ r2).ty, kit_thing d2, _, rfl, ?_⟩
  by_cases z2 : tyN d2 = "str"
  · refine iteT' (decide_eq_true z2) ?_
    obtain ⟨z, rfl, rfl⟩ := r2.str_of z2
    refine ⟨_, rfl, _, [.str "ring", .str "due"], rfl, .inr (tupB_ok (why T) H1), rfl, rfl, fin _ _ ?_ e1⟩
    rw [z1]
    show inV (.str z) [.str "ring", .str "due"] = (true && (decide (z = "ring") || decide (z = "due")))
    have q : ∀ b : Str, eqV (.str b) (.str z) = decide (z = b) := fun b => by
      by_cases h : z = b
      · rw [decide_eq_true h, h]
        simp [eqV]
      · rw [decide_eq_false h]
        have h' : ¬ b = z := fun y => h y.symm
        simp [eqV, h']
    show (eqV _ _ || (eqV _ _ || false)) = _
    rw [q, q, Bool.or_false, Bool.true_and]
  · refine iteF' (decide_eq_false z2) (fin false _ ?_ e1)
    have : isWhyD d2 = false := by
      cases d2 <;> first | rfl | exact absurd rfl z2
    simp [this]
theorem ok_are_passed (T : TX w K mg) : Gt P w K mg base CX0 7 "are_passed" ["things"] (spLook K 2 passedD) := by
  refine gt_mk (D_are_passed T) (g_are_passed T) sc_are_passed rfl (fun _ _ _ _ _ _ us hl => match us, hl with | [_], _ => rfl) (fun vs H Q E h => ?_) (fun f cdv A outer s H vs Q E hr h => ?_)
  · obtain ⟨a, xs, ds, rfl, _⟩ := h
    rfl
  obtain ⟨a, xs, ds, rfl, st, da, n3, ta, k⟩ := h
  refine ⟨_, (pss_cons (ps_asg (pv 0) (pg_tup (by rfl) (pgs_cons (pg_name (i := 1) sc_are_passed.nd rfl (by first | exact Or.inl rfl | exact Or.inr rfl)) (pgs_cons (pg_name (i := 2) sc_are_passed.nd rfl (by first | exact Or.inl rfl | exact Or.inr rfl)) pgs_nil))))
    (pss_one (ps_ret (pe_and ((ok_are_loads T).pe (hr.mono (by decide)) (pa_cons (pv 1) pa_nil)) (pe_and ((ok_are_loads T).pe (hr.mono (by decide)) (pa_cons (pv 2) pa_nil)) (pe_one (pe_cmpR op_gt (pe_op op_add (pe_callB call_len_seq (by rfl) (f_len T) (by decide +kernel) (pa_cons (pv 1) pa_nil)) (pe_callB call_len_seq (by rfl) (f_len T) (by decide +kernel) (pa_cons (pv 2) pa_nil))) pe_int (nomark _)))))))), ?_⟩
  obtain ⟨d1, d2, rfl⟩ : ∃ d1 d2, ds = [d1, d2] := by
    match ds, n3 with
    | [d1, d2], _ => exact ⟨d1, d2, rfl⟩
  cases da with
  | cons r1 da =>
  cases da with
  | cons r2 da =>
  cases da
  have fin : ∀ (b : Bool) H', b = (areLoadsD d1 && (areLoadsD d2 && decide (0 < (itemsD d1).length + (itemsD d2).length))) → Evl.Ex H H' → Q (.bl b) H' := fun b H' hb he => by rw [hb]; exact k H' he
  refine ⟨_, rfl, a, _, rfl, st, rfl, _, _, rfl, _, _, rfl, rfl, ?_⟩
  refine ⟨_, rfl, _, d1, rfl, r1, txtAll_mem ta d1 (by simp), fun H1 e1 => ⟨_, rfl, ?_⟩⟩
  refine ite2 (fun z1 => ?_) (fun z1 => ?_)
  rotate_left
  · refine fin false _ ?_ e1
    simp [Bool.eq_false_iff.mpr z1]
  refine ⟨_, rfl, _, d2, rfl, Dr.ex e1 _ _ r2, txtAll_mem ta d2 (by simp), fun H2 e2 => ⟨_, rfl, ?_⟩⟩
  refine ite2 (fun z2 => ?_) (fun z2 => ?_)
  rotate_left
  · refine fin false _ ?_ (e1.trans e2)
    simp [z1, Bool.eq_false_iff.mpr z2]
  have it : ∀ {d : PyData}, areLoadsD d = true → ∃ ds, d = .tuple ds := fun {d} h => by
    cases d with
    | tuple ds => exact ⟨ds, rfl⟩
    | _ => cases h
  have z1' := z1
  have z2' := z2
  obtain ⟨c1, rfl⟩ := it z1
  obtain ⟨c2, rfl⟩ := it z2
  cases r1 with
  | tup s1 a1 =>
  cases r2 with
  | tup s2 a2 =>
  have l1 := a1.len
  have l2 := a2.len
  refine ⟨_, rfl, _, _, rfl, .inr (sqt_ex s1 (e1.trans e2)), _, rfl, _, _, rfl, .inr (sqt_ex s2 (e1.trans e2)), _, _, rfl, rfl, _, _, rfl, rfl, fin _ _ ?_ (e1.trans e2)⟩
  rw [z1', z2', l1, l2]
  show decide (_ < _) = decide (_ < _)
  refine decide_eq_decide.mpr ?_
  show (0 : Int) < ((c1.length : Nat) : Int) + ((c2.length : Nat) : Int) ↔ 0 < c1.length + c2.length
  omega
theorem ok_are_causes (T : TX w K mg) : Gt P w K mg base CX0 4 "are_causes" ["word", "things", "causes"] (spCauses K) := by
  refine gt_mk (D_are_causes T) (g_are_causes T) sc_are_causes rfl (fun _ _ _ _ _ _ us hl => match us, hl with | [_, _, _], _ => rfl) (fun vs H Q E h => ?_) (fun f cdv A outer s H vs Q E hr h => ?_)
  · obtain ⟨x, y, w', d, e, rfl, _⟩ := h
    rfl
  obtain ⟨x, y, w', d, e, rfl, hd, he, te, pw, k⟩ := h
  refine ⟨_, (pss_cons (ps_if (PW.pt (pw_or (pt_not (pt_val (pe_callB call_isi (by rfl) (f_isinstance T) (by decide +kernel) (pa_cons (pv 2) (pa_cons (pe_gty (n := "tuple") (f_tuple T) (by decide +kernel)) pa_nil))))) (pw_or1 (pt_not (pt_val (pe_callB (cr_all rfl) (by rfl) (f_all T) (by decide +kernel) (pa_cons (pe_lc (own := [("one", 3)]) (g := gName 3) (tt := tYes) rfl sc_are_causes.nd (pi_tup (pv 2)) (blkOk_by (N := ["word", "things", "causes", "one"]) (sc := defScope s_are_causes) (by decide +kernel)) (fun _ _ _ _ _ => (pg_name (i := 3) sc_are_causes.nd rfl (by first | exact Or.inl rfl | exact Or.inr rfl))) (fun _ _ _ _ _ => pts_nil) (fun _ _ _ _ _ => ((ok_is_mark T).pe (hr.mono (by decide)) (pa_cons (pv 3) pa_nil)))) pa_nil)))))))
      (pss_one (ps_ret pe_bl))
      pss_nil)
    (pss_one (ps_ret (pe_cmpR op_eq (pe_callB call_len_seq (by rfl) (f_len T) (by decide +kernel) (pa_cons (pv 2) pa_nil)) (pe_ifExp (pt_cmpR op_eq (pv 0) pe_str (nomark _)) (pe_callB call_len_seq (by rfl) (f_len T) (by decide +kernel) (pa_cons (pe_ix ix_tup (pv 1) pe_int (fun _ _ => rfl)) pa_nil)) pe_int) (nomark _))))), ?_⟩
  refine ⟨_, rfl, y, _, _, _, _, rfl, .ty "tuple", he.ty, kit_thing e, _, rfl, ?_⟩
  by_cases c : tyN e = "tuple"
  · refine iteF' (by rw [decide_eq_true c]; rfl) ?_
    obtain ⟨a, xs, ds, rfl, rfl, st, da⟩ := he.tup_of c
    have hl := da.len
    obtain ⟨tl, ta⟩ := txt_tup te
    refine ⟨_, rfl, a, rfl, ⟨_, st⟩, fun D hD => lc_fm (walk_tup (K := K) (a := a) (xs := xs)) (fun _ => true) (fun i => .bl (isMarkD (ds.getD i .none))) hD (by omega) (fun H' he => sqt_ex st he) (fun i v H1 H2 C N hi he hy hc _ => ?_) (fun HA hA gD => ?_)⟩
    · obtain ⟨rfl, hv⟩ := hy
      obtain ⟨e1, he1, he2⟩ := DrAll.at da hv
      refine ⟨rfl, yes_ok ⟨_, rfl, v, e1, rfl, Dr.ex he e1 v he2, txtAll_mem ta e1 (List.mem_of_getElem? he1), fun H3 e3 => ?_⟩⟩
      have ee : ds.getD i .none = e1 := by rw [List.getD_eq_getElem?_getD, he1]; rfl
      have := hc rfl H3 e3
      rw [ee] at this
      exact this
    have gD : HA D = some (.lst ((ds.map isMarkD).map V.bl)) := by
      rw [gD, filter_yes, hl, List.map_map, ← range_map_get (V.bl ∘ isMarkD) .none ds]
      rfl
    refine ⟨D, ds.map isMarkD, rfl, SqL.of gD, _, rfl, ?_⟩
    by_cases al : ds.all isMarkD = true
    · have al' : (ds.map isMarkD).all id = true := by rw [List.all_map]; exact al
      refine iteF' (by rw [al']; rfl) ?_
      have fin : ∀ (b : Bool) H', b = (ds.all isMarkD && decide (ds.length = if w' = "passed" then (itemsD ((itemsD d).getD 0 .none)).length else 0)) → Evl.Ex H H' → Q (.bl b) H' := fun b H' hb he => by rw [hb]; exact k H' he
      refine ⟨_, rfl, a, _, rfl, .inr (sqt_ex st hA), ?_⟩
      by_cases p : w' = "passed"
      · obtain ⟨c1, l1, rfl⟩ := pw p
        cases hd with
        | tup s1 a1 =>
        cases a1 with
        | cons q1 a1 =>
        cases q1 with
        | tup s2 a2 =>
        have l2 := a2.len
        refine ⟨_, rfl, rfl, _, rfl, iteT' (decide_eq_true (congrArg V.str p)) ?_⟩
        refine ⟨_, rfl, _, _, _, _, rfl, rfl, sqt_ex s1 hA, atI_nat (j := 0) rfl, _, _, rfl, .inr (sqt_ex s2 hA), rfl, fin _ _ ?_ hA⟩
        rw [al, if_pos p, hl, l2]
        show decide (V.int _ = V.int _) = (true && decide (ds.length = c1.length))
        rw [Bool.true_and]
        exact decide_eq_decide.mpr ⟨fun h => by injection h with h; omega, fun h => by rw [h]⟩
      · refine ⟨_, rfl, rfl, _, rfl, iteF' (decide_eq_false fun h => p (by injection h)) ?_⟩
        refine ⟨rfl, fin _ _ ?_ hA⟩
        rw [al, if_neg p, hl]
        show decide (V.int _ = V.int 0) = (true && decide (ds.length = 0))
        rw [Bool.true_and]
        exact decide_eq_decide.mpr ⟨fun h => by injection h with h; omega, fun h => by rw [h]; rfl⟩
    · have al' : (ds.map isMarkD).all id = false := by rw [List.all_map]; exact Bool.eq_false_iff.mpr al
      refine iteT' (by rw [al']; rfl) ?_
      have e2 : causesD w' d (.tuple ds) = false := by
        show (ds.all isMarkD && _) = _
        rw [Bool.eq_false_iff.mpr al]
        rfl
      have := k HA hA
      rw [e2] at this
      exact this
  · refine iteT' (by rw [decide_eq_false c]; rfl) (iteT ?_)
    have e2 : causesD w' d e = false := by
      cases e <;> first | rfl | exact absurd rfl c
    have := k H (Evl.Ex.refl H)
    rw [e2] at this
    exact this
theorem lookHeld {P : Program} {w : World} {K : PySem.W.Frag} {mg : Str → Option Value} {base : Heap} (T : TX w K mg) : ∀ f sp, LookS K f sp → Held P w K mg base 8 f sp := by
  intro f sp h
  obtain ⟨q, hq, rfl, rfl⟩ := h
  have go : ∀ {k : Nat} {x : Str} {ps : List Str} {n : Nat} {R : List PyData → Bool}, Gt P w K mg base CX0 k x ps (spLook K n R) → k ≤ 8 → mg x = some (.ref (He.ga K x)) → Held P w K mg base 8 (He.ga K x) (spLook K n R) := fun {k x ps n R} G hk hm => by
    obtain ⟨f, fd, hm', kp, hb, F⟩ := G.ex
    rw [hm] at hm'
    obtain rfl : He.ga K x = f := by injection hm' with h; injection h
    exact ⟨fd, ps, F.mono hk, kp, hb⟩
  simp only [LK, List.mem_cons, List.not_mem_nil, or_false] at hq
  rcases hq with rfl | rfl | rfl | rfl | rfl | rfl | rfl | rfl | rfl | rfl | rfl
  · exact go (ok_are_posted T) (by decide) (g_are_posted T)
  · exact go (ok_are_bagged T) (by decide) (g_are_bagged T)
  · exact go (ok_are_opened T) (by decide) (g_are_opened T)
  · exact go (ok_are_shut T) (by decide) (g_are_shut T)
  · exact go (ok_are_late T) (by decide) (g_are_late T)
  · exact go (ok_are_moved T) (by decide) (g_are_moved T)
  · exact go (ok_are_handed T) (by decide) (g_are_handed T)
  · exact go (ok_are_forwarded T) (by decide) (g_are_forwarded T)
  · exact go (ok_are_refused T) (by decide) (g_are_refused T)
  · exact go (ok_are_refused T) (by decide) (g_are_refused T)
  · exact go (ok_are_passed T) (by decide) (g_are_passed T)

theorem ok_are_things (T : TX w K mg) : Gt P w K mg base CX0 9 "are_things" ["word", "things"] (spThings K) := by
  refine gt_mk (D_are_things T) (g_are_things T) sc_are_things rfl (fun _ _ _ _ _ _ us hl => match us, hl with | [_, _], _ => rfl) (fun vs H Q E h => ?_) (fun f cdv A outer s H vs Q E hr h => ?_)
  · obtain ⟨x, d, q, rfl, _⟩ := h
    rfl
  obtain ⟨x, d, q, rfl, hq, hd, ht, k⟩ := h
  refine ⟨_, (pss_cons (ps_asg (pe_ix ix_kdict (pe_gref (g_LOOKS T)) (pv 0) (fun _ _ => rfl)) (pg_tup (by rfl) (pgs_cons (pg_name (i := 2) sc_are_things.nd rfl (by first | exact Or.inl rfl | exact Or.inr rfl)) (pgs_cons (pg_name (i := 3) sc_are_things.nd rfl (by first | exact Or.inl rfl | exact Or.inr rfl)) pgs_nil))))
    (pss_one (ps_ret (pe_and (pe_callB call_isi (by rfl) (f_isinstance T) (by decide +kernel) (pa_cons (pv 1) (pa_cons (pe_gty (n := "tuple") (f_tuple T) (by decide +kernel)) pa_nil))) (pe_and (pe_cmpR op_eq (pe_callB call_len_seq (by rfl) (f_len T) (by decide +kernel) (pa_cons (pv 1) pa_nil)) (pv 2) (nomark _)) (pe_one (pe_callS (i := 3) (S := LookS K) (lookHeld T) (hr.mono (by decide)) rfl (.inl rfl) (pa_cons (pv 1) pa_nil)))))))), ?_⟩
  obtain ⟨es, n, DL, _⟩ := t_LOOKS T
  obtain ⟨p, hp, sp⟩ := lookB_ok (lk T) hq
  refine ⟨_, rfl, _, _, .ref p, rfl, rfl, ⟨es, n, _, DL.at_, DL.lit, hp, rfl⟩, p, _, rfl, sp H, rfl, _, _, rfl, _, _, rfl, rfl, ?_⟩
  refine ⟨_, rfl, x, _, _, _, _, rfl, .ty "tuple", hd.ty, kit_thing d, _, rfl, ?_⟩
  by_cases e : tyN d = "tuple"
  · refine iteT' (decide_eq_true e) ?_
    obtain ⟨a, xs, ds, rfl, rfl, st, da⟩ := hd.tup_of e
    have hl := da.len
    obtain ⟨tl, ta⟩ := txt_tup ht
    have fin : ∀ (b : Bool) H', b = (decide (ds.length = q.n) && q.P ds) → Evl.Ex H H' → Q (.bl b) H' := fun b H' hb he => by rw [hb]; exact k H' he
    refine ⟨_, rfl, a, xs, rfl, .inr st, _, rfl, rfl, _, rfl, ?_⟩
    by_cases c : ds.length = q.n
    · refine iteT' (decide_eq_true (by rw [hl, c])) ?_
      refine ⟨_, _, rfl, ⟨q, hq, rfl, rfl⟩, _, rfl, a, xs, ds, rfl, st, da, c, ta, fun H1 e1 => fin _ H1 ?_ e1⟩
      rw [decide_eq_true c, Bool.true_and]
    · refine iteF' (decide_eq_false fun h => c (by injection h with h; omega)) (fin false H ?_ (Evl.Ex.refl H))
      rw [decide_eq_false c]
      rfl
  · refine iteF' (decide_eq_false e) ?_
    have e2 : thingsD q d = false := by
      cases d <;> first | rfl | exact absurd rfl e
    have := k H (Evl.Ex.refl H)
    rw [e2] at this
    exact this
theorem ok_Scan_init (T : TX w K mg) : GtF P w K mg base (L2.CX P w) 10 d_Scan_init ["self", "house", "number", "tick", "word", "things", "causes"] (spScanX K) := by
  refine gtFX_mk (D_Scan_init T) sc_Scan_init (fun vs H Q E h => ?_) (fun f cdv A outer s H vs Q E hr h => ?_)
  · obtain ⟨x, dx, u0, u1, u2, u3, u4, u5, d0, d1, d2, d3, d4, d5, rfl, _⟩ := h
    rfl
  obtain ⟨x, dx, u0, u1, u2, u3, u4, u5, d0, d1, d2, d3, d4, d5, rfl, hx, r0, r1, r2, r3, r4, r5, t0, t4, t5, miss, k, kx⟩ := h
  obtain ⟨es, n, DL, _⟩ := t_LOOKS T
  refine ⟨_, (pss_cons (ps_if (pt_not (pt_val ((ok_is_name T).pe (hr.mono (by decide)) (pa_cons (pv 1) pa_nil))))
      (pss_one (ps_raise rfl (takes_of rfl rfl rfl rfl) (GtF.pmk (d := d_NoScan_init) (ox_NoScan T) (ei_NoScan T) (ok_NoScan_init T) rfl (fun _ _ _ _ _ _ us hl => match us, hl with | [_, _], _ => rfl) (g_NoScan T) (hr.mono (by decide)) pass0 (pa_cons pe_str pa_nil))))
      pss_nil)
    (pss_cons (ps_if (pt_not (pt_val ((ok_is_from T).pe (hr.mono (by decide)) (pa_cons (pv 2) (pa_cons pe_int pa_nil)))))
      (pss_one (ps_raise rfl (takes_of rfl rfl rfl rfl) (GtF.pmk (d := d_NoScan_init) (ox_NoScan T) (ei_NoScan T) (ok_NoScan_init T) rfl (fun _ _ _ _ _ _ us hl => match us, hl with | [_, _], _ => rfl) (g_NoScan T) (hr.mono (by decide)) pass0 (pa_cons pe_str pa_nil))))
      pss_nil)
    (pss_cons (ps_if (pt_not (pt_val ((ok_is_from T).pe (hr.mono (by decide)) (pa_cons (pv 3) (pa_cons pe_int pa_nil)))))
      (pss_one (ps_raise rfl (takes_of rfl rfl rfl rfl) (GtF.pmk (d := d_NoScan_init) (ox_NoScan T) (ei_NoScan T) (ok_NoScan_init T) rfl (fun _ _ _ _ _ _ us hl => match us, hl with | [_, _], _ => rfl) (g_NoScan T) (hr.mono (by decide)) pass0 (pa_cons pe_str pa_nil))))
      pss_nil)
    (pss_cons (ps_if (PW.pt (pw_or (pt_not (pt_val (pe_callB call_isi (by rfl) (f_isinstance T) (by decide +kernel) (pa_cons (pv 4) (pa_cons (pe_gty (n := "str") (f_str T) (by decide +kernel)) pa_nil))))) (pw_or1 (pt_cmpR (op_notIn_kd DL) (pv 4) (pe_gref (g_LOOKS T)) (by rfl)))))
      (pss_one (ps_raise rfl (takes_of rfl rfl rfl rfl) (GtF.pmk (d := d_NoScan_init) (ox_NoScan T) (ei_NoScan T) (ok_NoScan_init T) rfl (fun _ _ _ _ _ _ us hl => match us, hl with | [_, _], _ => rfl) (g_NoScan T) (hr.mono (by decide)) pass0 (pa_cons pe_str pa_nil))))
      pss_nil)
    (pss_cons (ps_if (pt_not (pt_val ((ok_are_things T).pe (hr.mono (by decide)) (pa_cons (pv 4) (pa_cons (pv 5) pa_nil)))))
      (pss_one (ps_raise rfl (takes_of rfl rfl rfl rfl) (GtF.pmk (d := d_NoScan_init) (ox_NoScan T) (ei_NoScan T) (ok_NoScan_init T) rfl (fun _ _ _ _ _ _ us hl => match us, hl with | [_, _], _ => rfl) (g_NoScan T) (hr.mono (by decide)) pass0 (pa_cons pe_str pa_nil))))
      pss_nil)
    (pss_cons (ps_if (pt_not (pt_val ((ok_are_causes T).pe (hr.mono (by decide)) (pa_cons (pv 4) (pa_cons (pv 5) (pa_cons (pv 6) pa_nil))))))
      (pss_one (ps_raise rfl (takes_of rfl rfl rfl rfl) (GtF.pmk (d := d_NoScan_init) (ox_NoScan T) (ei_NoScan T) (ok_NoScan_init T) rfl (fun _ _ _ _ _ _ us hl => match us, hl with | [_, _], _ => rfl) (g_NoScan T) (hr.mono (by decide)) pass0 (pa_cons pe_str pa_nil))))
      pss_nil)
    (pss_cons (ps_asg (pe_tup (pa_cons (pv 1) (pa_cons (pv 2) (pa_cons (pv 3) pa_nil)))) (pg_tup (by rfl) (pgs_cons (pg_attr (pv 0)) (pgs_cons (pg_attr (pv 0)) (pgs_cons (pg_attr (pv 0)) pgs_nil)))))
    (pss_one (ps_asg (pe_tup (pa_cons (pv 4) (pa_cons (pv 5) (pa_cons (pv 6) pa_nil)))) (pg_tup (by rfl) (pgs_cons (pg_attr (pv 0)) (pgs_cons (pg_attr (pv 0)) (pgs_cons (pg_attr (pv 0)) pgs_nil))))))))))))), ?_⟩
  refine ⟨_, rfl, u0, d0, rfl, r0, txt_str t0, fun H1 e1 => ⟨_, rfl, ?_⟩⟩
  by_cases z0 : isNmD d0 = true
  rotate_left
  · refine iteT' (by rw [Bool.eq_false_iff.mpr z0]; rfl) ?_
    have am : amissD d0 d1 d2 d3 d4 d5 = some ("house" : Str) := by unfold amissD; rw [if_pos (Bool.eq_false_iff.mpr z0)]
    refine ⟨(by show 1 ≤ 1000; decide), fun a ha => ⟨a, .str "house", rfl, upd_same, fun d2 hn2 ne => ⟨rfl, d2, _, upd_same, Eq.trans (upd_ne ne) upd_same, ?_, ?_⟩⟩⟩
    · exact (raised (fs := [("why", .str "house")]) ha hn2 ne).2
    · obtain ⟨q1, q2⟩ := raised (fs := [("why", .str "house")]) ha hn2 ne
      exact kx "house" am d2 _ (e1.trans q1) (Ex.free e1 q2) upd_same
  refine iteF' (by rw [z0]; rfl) ?_
  have y0 : ¬ isNmD d0 = false := by rw [z0]; decide
  refine ⟨_, rfl, u1, d1, 0, rfl, Dr.ex e1 _ _ r1, _, rfl, ?_⟩
  by_cases z1 : isFromD d1 0 = true
  rotate_left
  · refine iteT' (by rw [Bool.eq_false_iff.mpr z1]; rfl) ?_
    have am : amissD d0 d1 d2 d3 d4 d5 = some ("number" : Str) := by unfold amissD; rw [if_neg y0, if_pos (Bool.eq_false_iff.mpr z1)]
    refine ⟨(by show 1 ≤ 1000; decide), fun a ha => ⟨a, .str "number", rfl, upd_same, fun d2 hn2 ne => ⟨rfl, d2, _, upd_same, Eq.trans (upd_ne ne) upd_same, ?_, ?_⟩⟩⟩
    · exact (raised (fs := [("why", .str "number")]) ha hn2 ne).2
    · obtain ⟨q1, q2⟩ := raised (fs := [("why", .str "number")]) ha hn2 ne
      exact kx "number" am d2 _ (e1.trans q1) (Ex.free e1 q2) upd_same
  refine iteF' (by rw [z1]; rfl) ?_
  have y1 : ¬ isFromD d1 0 = false := by rw [z1]; decide
  refine ⟨_, rfl, u2, d2, 0, rfl, Dr.ex e1 _ _ r2, _, rfl, ?_⟩
  by_cases z2 : isFromD d2 0 = true
  rotate_left
  · refine iteT' (by rw [Bool.eq_false_iff.mpr z2]; rfl) ?_
    have am : amissD d0 d1 d2 d3 d4 d5 = some ("tick" : Str) := by unfold amissD; rw [if_neg y0, if_neg y1, if_pos (Bool.eq_false_iff.mpr z2)]
    refine ⟨(by show 1 ≤ 1000; decide), fun a ha => ⟨a, .str "tick", rfl, upd_same, fun d2 hn2 ne => ⟨rfl, d2, _, upd_same, Eq.trans (upd_ne ne) upd_same, ?_, ?_⟩⟩⟩
    · exact (raised (fs := [("why", .str "tick")]) ha hn2 ne).2
    · obtain ⟨q1, q2⟩ := raised (fs := [("why", .str "tick")]) ha hn2 ne
      exact kx "tick" am d2 _ (e1.trans q1) (Ex.free e1 q2) upd_same
  refine iteF' (by rw [z2]; rfl) ?_
  have y2 : ¬ isFromD d2 0 = false := by rw [z2]; decide
  refine ⟨_, rfl, u3, _, _, _, _, rfl, .ty "str", (Dr.ex e1 _ _ r3).ty, kit_thing d3, _, rfl, ?_⟩
  by_cases s3 : tyN d3 = "str"
  rotate_left
  · refine iteT' (by rw [decide_eq_false s3]; rfl) (iteT ?_)
    have am : amissD d0 d1 d2 d3 d4 d5 = some ("word" : Str) := by
      unfold amissD
      rw [if_neg y0, if_neg y1, if_neg y2]
      cases d3 <;> first | rfl | exact absurd rfl s3
    refine ⟨(by show 1 ≤ 1000; decide), fun a ha => ⟨a, .str "word", rfl, upd_same, fun d2 hn2 ne => ⟨rfl, d2, _, upd_same, Eq.trans (upd_ne ne) upd_same, ?_, ?_⟩⟩⟩
    · exact (raised (fs := [("why", .str "word")]) ha hn2 ne).2
    · obtain ⟨q1, q2⟩ := raised (fs := [("why", .str "word")]) ha hn2 ne
      exact kx "word" am d2 _ (e1.trans q1) (Ex.free e1 q2) upd_same
  refine iteF' (by rw [decide_eq_true s3]; rfl) ?_
  obtain ⟨w', rfl, rfl⟩ := r3.str_of s3
  cases fd : LK.find? (fun q => decide (q.w = w')) with
  | none =>
    have nm : w' ∉ LK.map (·.w) := fun z => by
      obtain ⟨q, hq, e⟩ := List.mem_map.mp z
      have := List.find?_eq_none.mp fd q hq
      exact this (decide_eq_true e)
    refine ⟨_, rfl, _, none, rfl, rfl, miss w' rfl nm, _, rfl, iteT ?_⟩
    have am : amissD d0 d1 d2 (.str w') d4 d5 = some ("word" : Str) := by
      unfold amissD
      rw [if_neg y0, if_neg y1, if_neg y2]
      dsimp only
      rw [fd]
    refine ⟨(by show 1 ≤ 1000; decide), fun a ha => ⟨a, .str "word", rfl, upd_same, fun d2 hn2 ne => ⟨rfl, d2, _, upd_same, Eq.trans (upd_ne ne) upd_same, ?_, ?_⟩⟩⟩
    · exact (raised (fs := [("why", .str "word")]) ha hn2 ne).2
    · obtain ⟨q1, q2⟩ := raised (fs := [("why", .str "word")]) ha hn2 ne
      exact kx "word" am d2 _ (e1.trans q1) (Ex.free e1 q2) upd_same
  | some q =>
    have hq := List.mem_of_find?_eq_some fd
    obtain rfl : q.w = w' := by
      have := List.find?_some fd
      exact of_decide_eq_true this
    obtain ⟨p, hp, sp⟩ := lookB_ok (lk T) hq
    refine ⟨_, rfl, _, some (.ref p), rfl, rfl, hp, _, rfl, iteF ?_⟩
    refine ⟨_, rfl, _, rfl, u4, d4, q, rfl, hq, Dr.ex e1 _ _ r4, t4, fun H2 e2 => ⟨_, rfl, ?_⟩⟩
    have e12 := e1.trans e2
    have tl : amissD d0 d1 d2 (.str q.w) d4 d5 = if thingsD q d4 = false then some ("things" : Str) else if causesD q.w d4 d5 = false then some ("causes" : Str) else none := by
      unfold amissD
      rw [if_neg y0, if_neg y1, if_neg y2]
      dsimp only
      rw [fd]
    by_cases z4 : thingsD q d4 = true
    rotate_left
    · refine iteT' (by rw [Bool.eq_false_iff.mpr z4]; rfl) ?_
      have am : amissD d0 d1 d2 (.str q.w) d4 d5 = some ("things" : Str) := by rw [tl, if_pos (Bool.eq_false_iff.mpr z4)]
      refine ⟨(by show 1 ≤ 1000; decide), fun a ha => ⟨a, .str "things", rfl, upd_same, fun d2 hn2 ne => ⟨rfl, d2, _, upd_same, Eq.trans (upd_ne ne) upd_same, ?_, ?_⟩⟩⟩
      · exact (raised (fs := [("why", .str "things")]) ha hn2 ne).2
      · obtain ⟨q1, q2⟩ := raised (fs := [("why", .str "things")]) ha hn2 ne
        exact kx "things" am d2 _ (e12.trans q1) (Ex.free e12 q2) upd_same
    refine iteF' (by rw [z4]; rfl) ?_
    rw [if_neg (by rw [z4]; decide)] at tl
    refine ⟨_, rfl, _, rfl, _, rfl, u4, u5, q.w, d4, d5, rfl, Dr.ex e12 _ _ r4, Dr.ex e12 _ _ r5, t5, (fun hw => by obtain ⟨c, l, h, _⟩ := passed_things hq hw z4; exact ⟨c, .tuple l, h⟩), fun H3 e3 => ⟨_, rfl, ?_⟩⟩
    have e13 := e12.trans e3
    by_cases z5 : causesD q.w d4 d5 = true
    rotate_left
    · refine iteT' (by rw [Bool.eq_false_iff.mpr z5]; rfl) ?_
      have am : amissD d0 d1 d2 (.str q.w) d4 d5 = some ("causes" : Str) := by rw [tl, if_pos (Bool.eq_false_iff.mpr z5)]
      refine ⟨(by show 1 ≤ 1000; decide), fun a ha => ⟨a, .str "causes", rfl, upd_same, fun d2 hn2 ne => ⟨rfl, d2, _, upd_same, Eq.trans (upd_ne ne) upd_same, ?_, ?_⟩⟩⟩
      · exact (raised (fs := [("why", .str "causes")]) ha hn2 ne).2
      · obtain ⟨q1, q2⟩ := raised (fs := [("why", .str "causes")]) ha hn2 ne
        exact kx "causes" am d2 _ (e13.trans q1) (Ex.free e13 q2) upd_same
    refine iteF' (by rw [z5]; rfl) ?_
    rw [if_neg (by rw [z5]; decide)] at tl
    have hx3 := e13 _ _ hx
    refine ⟨_, rfl, _, rfl, _, rfl, (by show 3 ≤ sizeLine; decide), fun t ht => ?_⟩
    generalize hH_ : upd H3 t _ = H4
    have x4 : Evl.Ex H3 H4 := (by rw [← hH_]; exact Evl.Ex.new ht)
    have g4 := (congrFun hH_ t).symm
    rw [upd_same] at g4
    clear hH_
    have hx4 := x4 _ _ hx3
    refine ⟨t, _, rfl, SqT.of g4, rfl, _, _, rfl, _, rfl, x, _, dx, _, rfl, hx4, cl_Scan T, na_Scan_house T, (by show 0 < 1000; decide), _, _, rfl, _, rfl, x, _, dx, _, rfl, upd_same, cl_Scan T, na_Scan_number T, (by show 1 < 1000; decide), _, _, rfl, _, rfl, x, _, dx, _, rfl, upd_same, cl_Scan T, na_Scan_tick T, (by show 2 < 1000; decide), rfl, ?_⟩
    refine ⟨_, rfl, _, rfl, _, rfl, (by show 3 ≤ sizeLine; decide), fun t2 ht2 => ?_⟩
    have nx : x ≠ t2 := ne_of_none upd_same ht2
    have hx5 : (upd (upd (upd (upd H4 x (HO.ins (He.ga K "Scan") dx (putF "house" u0 []))) x (HO.ins (He.ga K "Scan") dx (putF "number" u1 (putF "house" u0 [])))) x (HO.ins (He.ga K "Scan") dx (putF "tick" u2 (putF "number" u1 (putF "house" u0 []))))) t2 (HO.tup [.str q.w, u4, u5])) x = some (HO.ins (He.ga K "Scan") dx (putF "tick" u2 (putF "number" u1 (putF "house" u0 [])))) := by
      rw [upd_ne nx, upd_same]
    have wk : Wk x H H4 := fun b o nb hb => x4 b o (e13 b o hb)
    refine ⟨t2, _, rfl, SqT.of upd_same, rfl, _, _, rfl, _, rfl, x, _, dx, _, rfl, hx5, cl_Scan T, na_Scan_word T, (by show 3 < 1000; decide), _, _, rfl, _, rfl, x, _, dx, _, rfl, upd_same, cl_Scan T, na_Scan_things T, (by show 4 < 1000; decide), _, _, rfl, _, rfl, x, _, dx, _, rfl, upd_same, cl_Scan T, na_Scan_causes T, (by show 5 < 1000; decide), rfl, k tl _ ?_ ?_⟩
    · exact Wk.set (Wk.set (Wk.set (Wk.new (Wk.set (Wk.set (Wk.set wk))) ht2)))
    · exact upd_same


end
end Lw

namespace Lw
open PySem PySem.Spec PyProof.Rows L2 TP
section
variable {P : Program} {w : World} {K : PySem.W.Frag} {mg : Str → Option Value} {base : Heap}

theorem ok_well (T : TX w K mg) : Gt P w K mg base CX0 1 "_law_source_of" ["_law_cell"] spWell := by
  refine gt_mk (D_well T) (g_well T) sc_well rfl (fun _ _ _ _ _ _ us hl => match us, hl with | [_], _ => rfl) (fun vs H Q E h => ?_) (fun f cdv A outer s H vs Q E hr h => ?_)
  · obtain ⟨z, rfl, _⟩ := h
    rfl
  obtain ⟨z, rfl, k⟩ := h
  refine ⟨_, (pss_one (ps_ret (pe_lst (pa_cons (pe_op op_mul (pv 0) (pe_callTy call_int1 (by rfl) (f_int T) (by decide +kernel) (pa_cons (pe_cmpR op_ge (pv 0) (pe_op op_pow pe_int pe_int) (nomark _)) pa_nil))) (pa_cons (pe_op op_mod (pe_callTy call_int1 (by rfl) (f_int T) (by decide +kernel) (pa_cons (pv 0) pa_nil)) pe_int) (pa_cons pe_int pa_nil)))))), ?_⟩
  refine ⟨_, rfl, _, rfl, _, _, rfl, rfl, ⟨by decide, by decide, by decide⟩, _, _, rfl, rfl, .inr ⟨_, rfl, ?_⟩⟩
  refine ⟨_, _, rfl, rfl, .inr ?_, _, rfl, .inl ⟨_, rfl, _, _, rfl, rfl, (by show (0 : Int) < 2147483647; decide), ?_⟩⟩
  · split <;> exact ⟨by decide, by decide⟩
  refine ⟨(by show 3 ≤ sizeLine; decide), fun p hp => k p _ hp ?_ (Evl.Ex.new hp)⟩
  refine ⟨_, _, _, upd_same, ?_, Int.emod_nonneg z (by decide), Int.emod_lt_of_pos z (by decide), by decide, by decide⟩
  show 0 ≤ z * (if decide ((10 : Int) ^ (18 : Int).toNat ≤ z) = true then 1 else 0)
  split
  · rename_i h
    have := of_decide_eq_true h
    have e : (10 : Int) ^ (18 : Int).toNat = 1000000000000000000 := by decide
    omega
  · omega

theorem ok_draw (T : TX w K mg) : Gt P w K mg base CX0 1 "_law_next" ["_law_source", "_law_many"] spDraw := by
  refine gt_mk (D_draw T) (g_draw T) sc_draw rfl (fun _ _ _ _ _ _ us hl => match us, hl with | [_, _], _ => rfl) (fun vs H Q E h => ?_) (fun f cdv A outer s H vs Q E hr h => ?_)
  · obtain ⟨a, n, m, rfl, _⟩ := h
    rfl
  obtain ⟨a, n, m, rfl, ⟨x, y, c, ea, hx, hy, hy2, hc, hcn⟩, hn, hm, hm9, k⟩ := h
  refine ⟨_, (pss_cons (ps_if (pt_cmpR op_gt (pe_ix ix_list (pv 0) pe_int (fun _ _ => rfl)) pe_int (nomark _))
      (pss_cons (ps_set (i := 2) sc_draw.nd rfl (by first | exact Or.inl rfl | exact Or.inr rfl) (pe_op op_mod (pe_callTy call_int1 (by rfl) (f_int T) (by decide +kernel) (pa_cons (pe_ix ix_list (pv 0) pe_int (fun _ _ => rfl)) pa_nil)) (pv 1)))
    (pss_cons (ps_asg (pe_op op_fdivW (pe_ix ix_list (pv 0) pe_int (fun _ _ => rfl)) (pv 1)) (pg_sub (pv 0) pe_int set_list))
    (pss_one (ps_ret (pv 2)))))
      pss_nil)
    (pss_cons (ps_asg (pe_op op_add (pe_ix ix_list (pv 0) pe_int (fun _ _ => rfl)) pe_int) (pg_sub (pv 0) pe_int set_list))
    (pss_cons (ps_set (i := 3) sc_draw.nd rfl (by first | exact Or.inl rfl | exact Or.inr rfl) (pe_ix ix_list (pe_lst (pa_cons pe_int (pa_cons pe_int (pa_cons pe_int (pa_cons pe_int (pa_cons pe_int (pa_cons pe_int (pa_cons pe_int pa_nil)))))))) (pe_op op_mod (pe_callTy call_int1 (by rfl) (f_int T) (by decide +kernel) (pa_cons (pe_ix ix_list (pv 0) pe_int (fun _ _ => rfl)) pa_nil)) pe_int) (fun _ _ => rfl)))
    (pss_cons (ps_set (i := 4) sc_draw.nd rfl (by first | exact Or.inl rfl | exact Or.inr rfl) (pe_op op_mod (pe_callTy call_int1 (by rfl) (f_int T) (by decide +kernel) (pa_cons (pe_op op_pow (pe_op op_add (pe_op op_add (pe_ix ix_list (pv 0) pe_int (fun _ _ => rfl)) (pe_op op_mul pe_int (pe_ix ix_list (pv 0) pe_int (fun _ _ => rfl)))) pe_int) pe_int) pa_nil)) (pv 3)))
    (pss_cons (ps_set (i := 4) sc_draw.nd rfl (by first | exact Or.inl rfl | exact Or.inr rfl) (pe_op op_mod (pe_callTy call_int1 (by rfl) (f_int T) (by decide +kernel) (pa_cons (pe_op op_mul (pe_op op_add (pv 4) (pe_ix ix_list (pv 0) pe_int (fun _ _ => rfl))) (pe_op op_add (pe_op op_fdivW (pv 4) pe_int) pe_int)) pa_nil)) (pv 3)))
    (pss_one (ps_ret (pe_op op_mod (pe_callTy call_int1 (by rfl) (f_int T) (by decide +kernel) (pa_cons (pe_op op_fdivW (pv 4) pe_int) pa_nil)) (pv 1))))))))), ?_⟩
  refine ⟨_, rfl, a, _, _, _, rfl, rfl, SqL.of ea, atI_nat (j := 0) rfl, _, _, rfl, rfl, _, rfl, ?_⟩
  refine ite2 (fun h0 => ?_) (fun h0 => ?_)
  · refine ⟨_, rfl, a, _, _, _, rfl, rfl, SqL.of ea, atI_nat (j := 0) rfl, .inl ⟨_, rfl, _, rfl, _, _, rfl, rfl, hm, ?_⟩⟩
    refine ⟨_, rfl, a, _, _, _, rfl, rfl, SqL.of ea, atI_nat (j := 0) rfl, _, rfl, _, _, rfl, rfl, ⟨hm, hm9⟩, ?_⟩
    refine ⟨_, rfl, a, _, _, 0, rfl, rfl, ea, rfl, ?_⟩
    refine ⟨_, rfl, k _ _ (Int.emod_nonneg _ (by omega)) (Int.emod_lt_of_pos _ hm) ⟨⟨_, y, c, upd_same, Int.ediv_nonneg hx (by omega), hy, hy2, hc, by omega⟩, (Wk.refl a H).set⟩⟩
  · refine ⟨_, rfl, a, _, _, _, rfl, rfl, SqL.of ea, atI_nat (j := 2) rfl, _, _, rfl, rfl, ?_⟩
    refine ⟨_, rfl, a, _, _, 2, rfl, rfl, ea, rfl, ?_⟩
    refine ⟨(by show 7 ≤ sizeLine; decide), fun p hp => ?_⟩
    have npa : a ≠ p := ne_of_none upd_same hp
    have ea2 : (upd (upd H a (.lst [.int x, .int y, .int (c + 1)])) p (.lst [.int 2147483647, .int 2147483629, .int 2147483587, .int 2147483579, .int 2147483563, .int 2147483549, .int 2147483543])) a = some (.lst [.int x, .int y, .int (c + 1)]) := by
      rw [upd_ne npa, upd_same]
    have hpr : ∃ q : Int, atI [V.int 2147483647, .int 2147483629, .int 2147483587, .int 2147483579, .int 2147483563, .int 2147483549, .int 2147483543] ((c + 1) % 7) = some (.int q) ∧ 2147483543 ≤ q ∧ q ≤ 2147483647 := by
      have h7 : (c + 1) % 7 = 0 ∨ (c + 1) % 7 = 1 ∨ (c + 1) % 7 = 2 ∨ (c + 1) % 7 = 3 ∨ (c + 1) % 7 = 4 ∨ (c + 1) % 7 = 5 ∨ (c + 1) % 7 = 6 := by omega
      rcases h7 with e | e | e | e | e | e | e <;> rw [e] <;> exact ⟨_, rfl, by decide, by decide⟩
    obtain ⟨q, hq, q1, q2⟩ := hpr
    refine ⟨_, rfl, a, _, _, _, rfl, rfl, SqL.of ea2, atI_nat (j := 2) rfl, .inl ⟨_, rfl, _, _, rfl, rfl, (by show (0 : Int) < 7; decide), ?_⟩⟩
    refine ⟨p, _, _, _, rfl, rfl, SqL.of upd_same, hq, ?_⟩
    refine ⟨_, rfl, a, _, _, _, rfl, rfl, SqL.of ea2, atI_nat (j := 1) rfl, _, rfl, a, _, _, _, rfl, rfl, SqL.of ea2, atI_nat (j := 2) rfl, _, _, rfl, rfl, .inl ⟨by decide, by decide⟩, _, _, rfl, rfl, _, _, rfl, rfl, _, _, rfl, rfl, ⟨by decide, by decide, ?_⟩, .inl ⟨_, rfl, ?_⟩⟩
    · show (y + 7919 * (c + 1) + 1).natAbs < 2 ^ 64
      omega
    refine ⟨_, rfl, _, _, rfl, rfl, (by show (0 : Int) < q; omega), ?_⟩
    have hz1 := Int.emod_nonneg ((y + 7919 * (c + 1) + 1) ^ (5 : Int).toNat) (show q ≠ 0 by omega)
    have hz2 := Int.emod_lt_of_pos ((y + 7919 * (c + 1) + 1) ^ (5 : Int).toNat) (show 0 < q by omega)
    generalize hzz : (y + 7919 * (c + 1) + 1) ^ (5 : Int).toNat % q = z at hz1 hz2
    refine ⟨_, rfl, _, rfl, a, _, _, _, rfl, rfl, SqL.of ea2, atI_nat (j := 2) rfl, _, _, rfl, rfl, _, rfl, _, _, rfl, rfl, ⟨by decide, by decide +kernel⟩, _, _, rfl, rfl, _, _, rfl, rfl, .inl ?_, .inl ⟨_, rfl, ?_⟩⟩
    · show -(2 ^ 64) < _ + (c + 1) ∧ _ + (c + 1) < 2 ^ 64
      rw [hzz]
      omega
    refine ⟨_, rfl, _, _, rfl, rfl, (by show (0 : Int) < q; omega), ?_⟩
    refine ⟨_, rfl, _, _, rfl, rfl, ⟨by decide, by decide +kernel⟩, .inl ⟨_, rfl, _, rfl, _, _, rfl, rfl, hm, ?_⟩⟩
    exact k _ _ (Int.emod_nonneg _ (by omega)) (Int.emod_lt_of_pos _ hm) ⟨⟨x, y, c + 1, ea2, hx, hy, hy2, by omega, by omega⟩, ((Wk.refl a H).set).new hp⟩

theorem ok_one (T : TX w K mg) : Gt P w K mg base CX0 2 "_law_one" ["_law_source", "_law_some"] (spOne K) := by
  refine gt_mk (D_one T) (g_one T) sc_one rfl (fun _ _ _ _ _ _ us hl => match us, hl with | [_, _], _ => rfl) (fun vs H Q E h => ?_) (fun f cdv A outer s H vs Q E hr h => ?_)
  · obtain ⟨a, l, n, xs, rfl, _⟩ := h
    rfl
  obtain ⟨a, l, n, xs, rfl, wl, hn, hs, nla, h0, hz, k⟩ := h
  refine ⟨_, (pss_one (ps_ret (pe_ix ix_list (pv 1) ((ok_draw T).pe (hr.mono (by decide)) (pa_cons (pv 0) (pa_cons (pe_callB call_len_seq (by rfl) (f_len T) (by decide +kernel) (pa_cons (pv 1) pa_nil)) pa_nil))) (fun _ _ => rfl)))), ?_⟩
  refine ⟨_, rfl, _, rfl, _, rfl, l, xs, rfl, .inl hs, a, n, _, rfl, wl, hn, (by show (0 : Int) < (xs.length : Int); omega), ?_, fun d H' d0 d1 dn => ?_⟩
  · exact log2_small_of (show ((xs.length : Nat) : Int).natAbs < 2 ^ 64 by omega)
  have hd : d.toNat < xs.length := by
    have : d < (xs.length : Int) := d1
    omega
  have e : atI xs d = some xs[d.toNat] := at_of (j := d.toNat) (by omega) (by simp [hd])
  exact ⟨l, xs, d, _, rfl, rfl, dn.sql hs nla, e, k _ H' (List.getElem_mem hd) dn⟩

theorem ok_law_name (T : TX w K mg) : Gt P w K mg base CX0 3 "_law_name" ["_law_source"] (spDr K 10 990000 GName) := by
  refine gt_mk (D_law_name T) (g_law_name T) sc_law_name rfl (fun _ _ _ _ _ _ us hl => match us, hl with | [_], _ => rfl) (fun vs H Q E h => ?_) (fun f cdv A outer s H vs Q E hr h => ?_)
  · obtain ⟨w, n, rfl, _⟩ := h
    rfl
  obtain ⟨w, n, rfl, wl, hn, k⟩ := h
  refine ⟨_, (pss_cons (ps_if (pt_cmpR op_eq ((ok_draw T).pe (hr.mono (by decide)) (pa_cons (pv 0) (pa_cons pe_int pa_nil))) pe_int (nomark _))
      (pss_one (ps_ret ((ok_one T).pe (hr.mono (by decide)) (pa_cons (pv 0) (pa_cons (pe_lst (pa_cons pe_str (pa_cons pe_str (pa_cons pe_str (pa_cons pe_str (pa_cons pe_str (pa_cons pe_str (pa_cons pe_str (pa_cons pe_str pa_nil))))))))) pa_nil)))))
      pss_nil)
    (pss_cons (ps_set (i := 1) sc_law_name.nd rfl (by first | exact Or.inl rfl | exact Or.inr rfl) pe_str)
    (pss_one (ps_ret (pe_bm PySem.F.plainAttrs_str PySem.F.slot_str_join PySem.F.type_str_join mt_join pe_str (pa_cons (pe_lc (own := [("_law_k", 2)]) (g := gName 2) (tt := tYes) rfl sc_law_name.nd (pi_range1 (by rfl) (f_range T) (pa_cons (pe_op op_add pe_int ((ok_draw T).pe (hr.mono (by decide)) (pa_cons (pv 0) (pa_cons pe_int pa_nil)))) pa_nil)) (blkOk_by (N := ["_law_source", "_law_letters", "_law_k"]) (sc := defScope s_law_name) (by decide +kernel)) (fun _ _ _ _ _ => (pg_name (i := 2) sc_law_name.nd rfl (by first | exact Or.inl rfl | exact Or.inr rfl))) (fun _ _ _ _ _ => pts_nil) (fun _ _ _ _ _ => (pe_ix ix_str (pv 1) ((ok_draw T).pe (hr.mono (by decide)) (pa_cons (pv 0) (pa_cons pe_int pa_nil))) (fun _ _ => rfl)))) pa_nil)))))), ?_⟩
  refine ⟨_, rfl, w, n, 6, rfl, wl, by omega, by decide, by decide +kernel, fun d H1 d0 d6 D1 => ?_⟩
  refine ⟨rfl, _, rfl, ite2 (fun e => ?_) (fun e => ?_)⟩
  · refine ⟨_, rfl, (by show 8 ≤ sizeLine; decide), fun p hp => ⟨w, p, n + 1, _, rfl, D1.wl.new hp, by omega, SqL.of upd_same, D1.wl.nep hp, (by show 0 < 8; decide), (by show 8 ≤ 1000000; decide), fun v H2 hv D2 => ?_⟩⟩
    have hz : ∃ z, v = V.str z ∧ NmP z := by
      have hall : ∀ v ∈ (["house", "posted", "kept", "plain", "bins", "rule", "from", "zzzzzzzz"].map fun s => (V.str (Str.ofString s))), ∃ z, v = V.str z ∧ NmP z := by
        intro v hv
        obtain ⟨s, hs, rfl⟩ := List.mem_map.mp hv
        refine ⟨_, rfl, isNm_iff.mp ?_⟩
        have hd : ∀ s ∈ ["house", "posted", "kept", "plain", "bins", "rule", "from", "zzzzzzzz"], isNm (Str.ofString s) = true := by decide +kernel
        exact hd s hs
      exact hall v hv
    obtain ⟨z, rfl, hz⟩ := hz
    exact k _ _ H2 ⟨z, rfl, hz⟩ (.str z) ⟨D2.wl.mono (by omega), (D1.k.new hp).trans D2.k⟩
  · try unfold tNil
    refine ⟨rfl, _, rfl, w, n + 1, 8, rfl, D1.wl, by omega, by decide, by decide +kernel, fun mo H2 mo0 mo1 D2 => ⟨_, _, rfl, rfl, _, rfl, (by show -(2 ^ 62) ≤ 1 + mo; omega), (by show 1 + mo < 2 ^ 62; omega), fun D hD => ?_⟩⟩
    have D02 : Dn w (n + 2) H H2 := ⟨D2.wl, D1.k.trans D2.k⟩
    obtain ⟨mn, rfl⟩ := Int.eq_ofNat_of_zero_le mo0
    have mn8 : mn < 8 := by omega
    have nDw : D ≠ w := D02.wl.nep hD
    have tn : (1 + (mn : Int)).toNat = mn + 1 := by omega
    refine lc_acc (walk_range (lo := 0) (n := (1 + (mn : Int)).toNat)) (fun i acc H' => Dn w (n + 2 + i) H2 H' ∧ ∃ cs : List Nat, acc = (cs.map fun c => V.str ⟨#[c]⟩) ∧ cs.length = i ∧ ∀ c ∈ cs, c ∈ LT.cps.toList) hD (by omega)
      (fun i acc H' q => by obtain ⟨_, cs, rfl, h, _⟩ := q; rw [List.length_map]; omega) ⟨⟨D02.wl, Wk.refl _ _⟩, [], rfl, rfl, fun c h => nomatch h⟩ (fun _ _ _ _ _ => trivial) (fun i x H4 H5 acc C N hi hD4 hI hy hc _ => ?_) (fun H4 acc hD4 hI => ?_)
    · obtain ⟨rfl, rfl⟩ := hy
      obtain ⟨D4, cs, rfl, hcl, hcs⟩ := hI
      refine ⟨rfl, yes_ok ⟨_, rfl, _, rfl, w, n + 2 + i, 26, rfl, Ex.wl hid_ex D4.wl, by omega, by decide, by decide +kernel, fun d H6 d0 d1 D6 => ?_⟩⟩
      have dl : d.toNat < 26 := by omega
      refine ⟨LT, d, 97 + d.toNat, rfl, rfl, by decide +kernel, atC_of (j := d.toNat) (by omega) (LT_at dl), hc _ _ (D6.k _ _ nDw hD4) ⟨⟨D6.wl.hid (Ne.symm nDw), D4.k.trans (Wk.hid D6.k)⟩, cs ++ [97 + d.toNat], by rw [List.map_append]; rfl, by rw [List.length_append, hcl]; rfl, fun c hcm => ?_⟩⟩
      rcases List.mem_append.mp hcm with z | z
      · exact hcs c z
      · obtain rfl : c = 97 + d.toNat := by simpa using z
        exact LT_mem.mpr (by omega)
    obtain ⟨D4, cs, rfl, hcl, hcs⟩ := hI
    rw [tn] at hcl
    have eyv : (cs.map fun c => V.str ⟨#[c]⟩) = (cs.map fun c => (⟨#[c]⟩ : Str)).map V.str := by rw [List.map_map]; rfl
    rw [eyv] at hD4
    have bl : ((cs.map fun c => (⟨#[c]⟩ : Str)).map (·.length)).sum + (cs.map fun c => (⟨#[c]⟩ : Str)).length * ("" : Str).length ≤ 16777216 := by
      have e1 : ((cs.map fun c => (⟨#[c]⟩ : Str)).map (·.length)) = cs.map fun _ => 1 := by rw [List.map_map]; rfl
      have e2 : ∀ l : List Nat, (l.map fun _ => 1).sum = l.length := fun l => by
        induction l with
        | nil => rfl
        | cons _ l ih => rw [List.map_cons, List.sum_cons, ih, List.length_cons]; omega
      rw [e1, e2, List.length_map, show ("" : Str).length = 0 from rfl]
      omega
    refine ⟨"", D, _, rfl, rfl, .inl (SqL.of hD4), bl, ?_⟩
    have bc := join_codes cs
    generalize Txt.join "" (cs.map fun c => (⟨#[c]⟩ : Str)) = base at bc ⊢
    have D4' : Dn w (n + 10) H H4 := ⟨(Ex.wl hid_ex D4.wl).mono (by omega), D02.k.trans (D4.k.trans (Ex.wk w hid_ex))⟩
    have b7 : base.length = mn + 1 := by rw [strLen, bc]; exact hcl
    have bs : ∀ c ∈ base.cps.toList, c ∈ LT.cps.toList := by rw [bc]; exact hcs
    exact k _ _ H4 ⟨base, rfl, ⟨by omega, by omega, bs⟩⟩ (.str base) D4'
theorem ok_law_number (T : TX w K mg) : Gt P w K mg base CX0 3 "_law_number" ["_law_source"] (spDr K 4 990000 GNum) := by
  refine gt_mk (D_law_number T) (g_law_number T) sc_law_number rfl (fun _ _ _ _ _ _ us hl => match us, hl with | [_], _ => rfl) (fun vs H Q E h => ?_) (fun f cdv A outer s H vs Q E hr h => ?_)
  · obtain ⟨w, n, rfl, _⟩ := h
    rfl
  obtain ⟨w, n, rfl, wl, hn, k⟩ := h
  refine ⟨_, (pss_one (ps_ret ((ok_one T).pe (hr.mono (by decide)) (pa_cons (pv 0) (pa_cons (pe_lst (pa_cons pe_int (pa_cons pe_int (pa_cons ((ok_draw T).pe (hr.mono (by decide)) (pa_cons (pv 0) (pa_cons pe_int pa_nil))) (pa_cons ((ok_draw T).pe (hr.mono (by decide)) (pa_cons (pv 0) (pa_cons pe_int pa_nil))) (pa_cons ((ok_draw T).pe (hr.mono (by decide)) (pa_cons (pv 0) (pa_cons (pe_op op_pow pe_int pe_int) pa_nil))) pa_nil)))))) pa_nil))))), ?_⟩
  refine ⟨_, rfl, _, rfl, w, n, 9, rfl, wl, by omega, by decide, by decide +kernel, fun a H1 a0 a1 D1 => ?_⟩
  refine ⟨_, rfl, w, n + 1, 1000, rfl, D1.wl, by omega, by decide, by decide +kernel, fun b H2 b0 b1 D2 => ?_⟩
  have p29 : (10 : Int) ^ (29 : Int).toNat = 10 ^ 29 := by decide +kernel
  have c29 : CPow 10 29 := ⟨by decide, by decide, by decide +kernel⟩
  refine ⟨_, rfl, _, _, rfl, rfl, c29, ?_⟩
  refine ⟨w, n + 2, 10 ^ 29, congrArg (fun z => [V.ref w, V.int z]) p29, D2.wl, by omega, by decide +kernel, by decide +kernel, fun c H3 c0 c1 D3 => ?_⟩
  refine ⟨(by show 5 ≤ sizeLine; decide), fun p hp => ?_⟩
  have D03 : Dn w (n + 3) H H3 := D1.trans (D2.trans D3)
  refine ⟨w, p, n + 3, _, rfl, D03.wl.new hp, by omega, SqL.of upd_same, D03.wl.nep hp, (by show 0 < 5; decide), (by show 5 ≤ 1000000; decide), fun v H4 hv D4 => ?_⟩
  have p3 : (1000 : Int) ≤ 10 ^ 29 := by decide +kernel
  obtain ⟨i, rfl, i0, i1⟩ : ∃ i : Int, v = .int i ∧ 0 ≤ i ∧ i < 10 ^ 29 := by
    simp only [List.mem_cons, List.not_mem_nil, or_false] at hv
    rcases hv with rfl | rfl | rfl | rfl | rfl
    · exact ⟨0, rfl, by decide, by decide +kernel⟩
    · exact ⟨1, rfl, by decide, by decide +kernel⟩
    · exact ⟨a, rfl, a0, by omega⟩
    · exact ⟨b, rfl, b0, by omega⟩
    · exact ⟨c, rfl, c0, c1⟩
  exact k _ _ H4 ⟨i, rfl, i0, i1⟩ (.int i) ⟨D4.wl, (D03.k.new hp).trans D4.k⟩
theorem ok_law_mark (T : TX w K mg) : Gt P w K mg base CX0 4 "_law_mark" ["_law_source"] (spDr K 14 980000 GMark) := by
  refine gt_mk (D_law_mark T) (g_law_mark T) sc_law_mark rfl (fun _ _ _ _ _ _ us hl => match us, hl with | [_], _ => rfl) (fun vs H Q E h => ?_) (fun f cdv A outer s H vs Q E hr h => ?_)
  · obtain ⟨w, n, rfl, _⟩ := h
    rfl
  obtain ⟨w, n, rfl, wl, hn, k⟩ := h
  refine ⟨_, (pss_one (ps_ret (pe_tup (pa_cons ((ok_law_name T).pe (hr.mono (by decide)) (pa_cons (pv 0) pa_nil)) (pa_cons ((ok_law_number T).pe (hr.mono (by decide)) (pa_cons (pv 0) pa_nil)) pa_nil))))), ?_⟩
  refine ⟨_, rfl, w, n, rfl, wl, by omega, fun v1 d1 H1 g1 r1 D1 => ?_⟩
  refine ⟨_, rfl, w, n + 10, rfl, D1.wl, by omega, fun v2 d2 H2 g2 r2 D2 => ?_⟩
  obtain ⟨z, rfl, hz⟩ := g1
  obtain ⟨i, rfl, i0, i1⟩ := g2
  cases r1
  cases r2
  refine ⟨(by show 2 ≤ sizeLine; decide), fun p hp => ?_⟩
  have D02 : Dn w (n + 14) H H2 := D1.trans D2
  exact k _ _ _ ⟨z, i, rfl, hz, i0, i1⟩ (.tup (SqT.of (nw_put (D02.free hp))) (.cons (.str z) (.cons (.int i) .nil))) (D02.new hp)
theorem ok_law_address (T : TX w K mg) : Gt P w K mg base CX0 4 "_law_address" ["_law_source"] (spDr K 20 980000 GAddr) := by
  refine gt_mk (D_law_address T) (g_law_address T) sc_law_address rfl (fun _ _ _ _ _ _ us hl => match us, hl with | [_], _ => rfl) (fun vs H Q E h => ?_) (fun f cdv A outer s H vs Q E hr h => ?_)
  · obtain ⟨w, n, rfl, _⟩ := h
    rfl
  obtain ⟨w, n, rfl, wl, hn, k⟩ := h
  refine ⟨_, (pss_one (ps_ret (pe_tup (pa_cons ((ok_law_name T).pe (hr.mono (by decide)) (pa_cons (pv 0) pa_nil)) (pa_cons ((ok_law_name T).pe (hr.mono (by decide)) (pa_cons (pv 0) pa_nil)) pa_nil))))), ?_⟩
  refine ⟨_, rfl, w, n, rfl, wl, by omega, fun v1 d1 H1 g1 r1 D1 => ?_⟩
  refine ⟨_, rfl, w, n + 10, rfl, D1.wl, by omega, fun v2 d2 H2 g2 r2 D2 => ?_⟩
  obtain ⟨z, rfl, hz⟩ := g1
  obtain ⟨y, rfl, hy⟩ := g2
  cases r1
  cases r2
  refine ⟨(by show 2 ≤ sizeLine; decide), fun p hp => ?_⟩
  have D02 : Dn w (n + 20) H H2 := D1.trans D2
  exact k _ _ _ ⟨z, y, rfl, hz, hy⟩ (.tup (SqT.of (nw_put (D02.free hp))) (.cons (.str z) (.cons (.str y) .nil))) (D02.new hp)
theorem ok_law_bags (T : TX w K mg) : Gt P w K mg base CX0 5 "_law_bags" ["_law_source", "_law_most"] (spBags K) := by
  refine gt_mk (D_law_bags T) (g_law_bags T) sc_law_bags rfl (fun _ _ _ _ _ _ us hl => match us, hl with | [_, _], _ => rfl) (fun vs H Q E h => ?_) (fun f cdv A outer s H vs Q E hr h => ?_)
  · obtain ⟨w, n, m, rfl, _⟩ := h
    rfl
  obtain ⟨w, n, m, rfl, wl, hn, m1, m3, k⟩ := h
  refine ⟨_, (pss_one (ps_ret (pe_callTy call_tuple_of (by rfl) (f_tuple T) (by decide +kernel) (pa_cons (pe_callB (cr_sortK rfl hr.units) (by rfl) (f_sorted T) (by decide +kernel) (pa_cons (pe_callTy (cr_setK rfl hr.units) (by rfl) (f_set T) (by decide +kernel) (pa_cons (pe_lc (own := [("_law_k", 2)]) (g := gName 2) (tt := tYes) rfl sc_law_bags.nd (pi_range1 (by rfl) (f_range T) (pa_cons (pe_op op_add pe_int ((ok_draw T).pe (hr.mono (by decide)) (pa_cons (pv 0) (pa_cons (pv 1) pa_nil)))) pa_nil)) (blkOk_by (N := ["_law_source", "_law_most", "_law_k"]) (sc := defScope s_law_bags) (by decide +kernel)) (fun _ _ _ _ _ => (pg_name (i := 2) sc_law_bags.nd rfl (by first | exact Or.inl rfl | exact Or.inr rfl))) (fun _ _ _ _ _ => pts_nil) (fun _ _ _ _ _ => ((ok_law_mark T).pe (hr.mono (by decide)) (pa_cons (pv 0) pa_nil)))) pa_nil)) pa_nil)) pa_nil)))), ?_⟩
  refine ⟨_, rfl, _, rfl, w, n, m, rfl, wl, by omega, by omega, log2_small_of (by omega), fun a H1 a0 a1 D1 => ⟨_, _, rfl, rfl, _, rfl, (by show -(2 ^ 62) ≤ 1 + a; omega), (by show 1 + a < 2 ^ 62; omega), fun D hD => ?_⟩⟩
  obtain ⟨an, rfl⟩ := Int.eq_ofNat_of_zero_le a0
  have tn : (1 + (an : Int)).toNat = an + 1 := by omega
  refine lc_dr (K := K) (walk_range (lo := 0) (n := (1 + (an : Int)).toNat)) (n + 1) 14 (fun _ d => GMark d) D1.wl hD (by omega) (fun _ _ _ => trivial) (fun i x HA HB C N hi dA hy hc => ?_) (fun H2 acc ds D2 gD da dl dm => ?_)
  · obtain ⟨rfl, rfl⟩ := hy
    refine ⟨rfl, yes_ok ⟨_, rfl, w, n + 1 + i * 14, rfl, dA.wl, by omega, fun v d HC g r dC => hc v d HC g r (dC.mono (by omega))⟩⟩
  rw [tn] at dl D2
  have dm' : ∀ d ∈ ds, GMark d := fun d hd => by
    obtain ⟨j, hj⟩ := List.mem_iff_getElem?.mp hd
    exact dm j d hj
  have D02 : Dn w (n + 50) H H2 := (D1.trans D2).mono (by omega)
  obtain ⟨bs, rfl, sb, rfl⟩ := keys_of (DrAll.ex (nw_later D1) _ _ da) fun d hd => by
    obtain ⟨z, i, e, _⟩ := mark_key (dm' d hd)
    exact ⟨_, e⟩
  rw [List.length_map] at dl
  have mk : ∀ p ∈ bs, ∃ z i, p.2 = [.inr z, .inl i] := fun p hp => by
    obtain ⟨z, i, e, _⟩ := dm' (encK p.2) (List.mem_map.mpr ⟨p, hp, rfl⟩)
    exact ⟨z, i, encK_inj e⟩
  try unfold tNil
  refine ⟨D, bs, rfl, SqL.of gD, fun p hp => sqt_ex (sb p hp) nw_ex, by omega, fun sa L hsa has nd => ?_⟩
  generalize hH_ : upd H2 sa _ = H3
  have x3 : Evl.Ex H2 H3 := (by rw [← hH_]; exact Evl.Ex.new hsa)
  have g3 := (congrFun hH_ sa).symm
  rw [upd_same] at g3
  clear hH_
  have Lm : ∀ p ∈ L, p ∈ bs := has.1
  try unfold tNil
  refine ⟨sa, L, rfl, g3, fun p hp => sqt_ex (sqt_ex (sb p (Lm p hp)) nw_ex) x3, fun p hp q hq => ?_, fun p hp e => ?_, fun L' lp pm pw hlp => ?_⟩
  · obtain ⟨z, i, e⟩ := mk p (Lm p hp)
    obtain ⟨z', i', e'⟩ := mk q (Lm q hq)
    rw [e, e']
    rfl
  · obtain ⟨z, i, e'⟩ := mk p (Lm p hp)
    rw [e] at e'
    cases e'
  generalize hH_ : upd H3 lp _ = H4
  have x4 : Evl.Ex H3 H4 := (by rw [← hH_]; exact Evl.Ex.new hlp)
  have g4 := (congrFun hH_ lp).symm
  rw [upd_same] at g4
  clear hH_
  try unfold tNil
  refine ⟨lp, _, rfl, .inl ⟨SqL.of g4, fun t ht => ?_⟩⟩
  generalize hH_ : upd H4 t _ = H5
  have x5 : Evl.Ex H4 H5 := (by rw [← hH_]; exact Evl.Ex.new ht)
  have g5 := (congrFun hH_ t).symm
  rw [upd_same] at g5
  clear hH_
  have x25 := x3.trans (x4.trans x5)
  have ht0 : H t = none := D02.free (Ex.free x3 (Ex.free x4 ht))
  have Lb : ∀ p ∈ L', p ∈ bs := fun p hp => Lm p (pm.mem_iff.mp hp)
  have pl := pm.length_eq
  have hl3 := has.2.2
  have Lne : 0 < L.length := by
    rcases Nat.eq_zero_or_pos L.length with z | z
    · exfalso
      obtain ⟨b0, hb0⟩ : ∃ b, b ∈ bs := by
        cases bs with
        | nil => cases dl
        | cons b _ => exact ⟨b, List.mem_cons_self⟩
      have := has.2.1 b0 hb0
      rw [List.length_eq_zero_iff.mp z] at this
      cases this
    · exact z
  refine k (.ref t) (.tuple (L'.map fun p => encK p.2)) H5 ⟨_, rfl, by rw [List.length_map]; omega, by rw [List.length_map]; omega, fun b hb => ?_, sorted_rising (fun p hp q hq => ?_) pw ?_⟩ (.tup (SqT.of (nw_of ht0 g5)) (keys_dr fun p hp => sqt_ex (sb p (Lb p hp)) (nw_ex2 x25))) (D02.ex x25)
  · obtain ⟨p, hp, rfl⟩ := List.mem_map.mp hb
    exact dm' _ (List.mem_map.mpr ⟨p, Lb p hp, rfl⟩)
  · obtain ⟨z, i, e⟩ := mk p (Lb p hp)
    obtain ⟨z', i', e'⟩ := mk q (Lb q hq)
    rw [e, e']
    exact tot_mark z z' i i'
  · exact (pm.map (·.2)).nodup_iff.mpr nd
theorem ok_law_loads (T : TX w K mg) : Gt P w K mg base CX0 6 "_law_loads" ["_law_source", "_law_many"] (spLoads K) := by
  refine gt_mk (D_law_loads T) (g_law_loads T) sc_law_loads rfl (fun _ _ _ _ _ _ us hl => match us, hl with | [_, _], _ => rfl) (fun vs H Q E h => ?_) (fun f cdv A outer s H vs Q E hr h => ?_)
  · obtain ⟨w, n, m, rfl, _⟩ := h
    rfl
  obtain ⟨w, n, m, rfl, wl, hn, m0, m3, k⟩ := h
  refine ⟨_, (pss_cons (ps_set (i := 2) sc_law_loads.nd rfl (by first | exact Or.inl rfl | exact Or.inr rfl) (pe_callB (cr_sortK rfl hr.units) (by rfl) (f_sorted T) (by decide +kernel) (pa_cons (pe_callTy (cr_setK rfl hr.units) (by rfl) (f_set T) (by decide +kernel) (pa_cons (pe_lc (own := [("_law_k", 3)]) (g := gName 3) (tt := tYes) rfl sc_law_loads.nd (pi_range1 (by rfl) (f_range T) (pa_cons (pv 1) pa_nil)) (blkOk_by (N := ["_law_source", "_law_many", "_law_spots", "_law_k", "_law_spot"]) (sc := defScope s_law_loads) (by decide +kernel)) (fun _ _ _ _ _ => (pg_name (i := 3) sc_law_loads.nd rfl (by first | exact Or.inl rfl | exact Or.inr rfl))) (fun _ _ _ _ _ => pts_nil) (fun _ _ _ _ _ => (pe_tup (pa_cons ((ok_draw T).pe (hr.mono (by decide)) (pa_cons (pv 0) (pa_cons pe_int pa_nil))) (pa_cons ((ok_one T).pe (hr.mono (by decide)) (pa_cons (pv 0) (pa_cons (pe_lst (pa_cons ((ok_draw T).pe (hr.mono (by decide)) (pa_cons (pv 0) (pa_cons pe_int pa_nil))) (pa_cons pe_int (pa_cons pe_int pa_nil)))) pa_nil))) pa_nil))))) pa_nil)) pa_nil)))
    (pss_one (ps_ret (pe_callTy call_tuple_of (by rfl) (f_tuple T) (by decide +kernel) (pa_cons (pe_lc (own := [("_law_spot", 4)]) (g := gName 4) (tt := tYes) rfl sc_law_loads.nd (pi_list (pv 2)) (blkOk_by (N := ["_law_source", "_law_many", "_law_spots", "_law_k", "_law_spot"]) (sc := defScope s_law_loads) (by decide +kernel)) (fun _ _ _ _ _ => (pg_name (i := 4) sc_law_loads.nd rfl (by first | exact Or.inl rfl | exact Or.inr rfl))) (fun _ _ _ _ _ => pts_nil) (fun _ _ _ _ _ => (pe_op (show OpR _ _ (rCatA K) from op_catA) (pv 4) (pe_tup (pa_cons ((ok_law_bags T).pe (hr.mono (by decide)) (pa_cons (pv 0) (pa_cons pe_int pa_nil))) pa_nil))))) pa_nil))))), ?_⟩
  obtain ⟨mn, rfl⟩ := Int.eq_ofNat_of_zero_le m0
  refine ⟨_, rfl, _, rfl, (by show -(2 ^ 62) ≤ (mn : Int); omega), (by show (mn : Int) < 2 ^ 62; omega), fun D hD => ?_⟩
  have tn : ((mn : Int)).toNat = mn := rfl
  refine lc_dr (K := K) (walk_range (lo := 0) (n := ((mn : Int)).toNat)) n 3 (fun _ d => ∃ r l : Int, d = encK [.inl r, .inl l] ∧ 0 ≤ r ∧ r < 4 ∧ 0 ≤ l ∧ l ≤ 10) wl hD (by omega) (fun _ _ _ => trivial) (fun i x HA HB C N hi dA hy hc => ?_) (fun H2 acc ds D2 gD da dl dm => ?_)
  · obtain ⟨rfl, rfl⟩ := hy
    refine ⟨rfl, yes_ok ⟨_, rfl, w, n + i * 3, 4, rfl, dA.wl, by omega, by decide, by decide +kernel, fun r H3 r0 r1 D3 => ?_⟩⟩
    refine ⟨_, rfl, _, rfl, w, n + i * 3 + 1, 5, rfl, D3.wl, by omega, by decide, by decide +kernel, fun l H4 l0 l1 D4 => ⟨(by show 3 ≤ sizeLine; decide), fun p hp => ?_⟩⟩
    refine ⟨w, p, n + i * 3 + 2, _, rfl, D4.wl.new hp, by omega, SqL.of upd_same, D4.wl.nep hp, (by show 0 < 3; decide), (by show 3 ≤ 1000000; decide), fun v H5 hv D5 => ?_⟩
    obtain ⟨l', rfl, l0', l1'⟩ : ∃ i : Int, v = .int i ∧ 0 ≤ i ∧ i ≤ 10 := by
      simp only [List.mem_cons, List.not_mem_nil, or_false] at hv
      rcases hv with rfl | rfl | rfl
      · exact ⟨l, rfl, l0, by omega⟩
      · exact ⟨9, rfl, by decide, by decide⟩
      · exact ⟨10, rfl, by decide, by decide⟩
    refine ⟨(by show 2 ≤ sizeLine; decide), fun t ht => ?_⟩
    have DD : Dn w (n + i * 3 + 3) HB H5 := ⟨D5.wl, D3.k.trans ((D4.k.new hp).trans D5.k)⟩
    exact hc (.ref t) _ _ ⟨r, l', rfl, r0, r1, l0', l1'⟩ (.tup (SqT.of (nw_put (DD.free ht))) (.cons (.int r) (.cons (.int l') .nil))) ((DD.new ht).mono (by omega))
  rw [tn] at dl D2
  have dm' : ∀ d ∈ ds, ∃ r l : Int, d = encK [.inl r, .inl l] ∧ 0 ≤ r ∧ r < 4 ∧ 0 ≤ l ∧ l ≤ 10 := fun d hd => by
    obtain ⟨j, hj⟩ := List.mem_iff_getElem?.mp hd
    exact dm j d hj
  have D02 : Dn w (n + 9) H H2 := D2.mono (by omega)
  obtain ⟨bs, rfl, sb, rfl⟩ := keys_of da fun d hd => by
    obtain ⟨r, l, e, _⟩ := dm' d hd
    exact ⟨_, e⟩
  rw [List.length_map] at dl
  have mk : ∀ p ∈ bs, ∃ r l : Int, p.2 = [.inl r, .inl l] ∧ 0 ≤ r ∧ r < 4 ∧ 0 ≤ l ∧ l ≤ 10 := fun p hp => by
    obtain ⟨r, l, e, q⟩ := dm' (encK p.2) (List.mem_map.mpr ⟨p, hp, rfl⟩)
    exact ⟨r, l, encK_inj e, q⟩
  try unfold tNil
  refine ⟨D, bs, rfl, SqL.of gD, fun p hp => sqt_ex (sb p hp) nw_ex, by omega, fun sa L hsa has nd => ?_⟩
  generalize hH_ : upd H2 sa _ = H3
  have x3 : Evl.Ex H2 H3 := (by rw [← hH_]; exact Evl.Ex.new hsa)
  have g3 := (congrFun hH_ sa).symm
  rw [upd_same] at g3
  clear hH_
  have Lm : ∀ p ∈ L, p ∈ bs := has.1
  try unfold tNil
  refine ⟨sa, L, rfl, g3, fun p hp => sqt_ex (sqt_ex (sb p (Lm p hp)) nw_ex) x3, fun p hp q hq => ?_, fun p hp e => ?_, fun L' lp pm pw hlp => ?_⟩
  · obtain ⟨z, i, e, _⟩ := mk p (Lm p hp)
    obtain ⟨z', i', e', _⟩ := mk q (Lm q hq)
    rw [e, e']
    rfl
  · obtain ⟨z, i, e', _⟩ := mk p (Lm p hp)
    rw [e] at e'
    cases e'
  generalize hH_ : upd H3 lp _ = H4
  have x4 : Evl.Ex H3 H4 := (by rw [← hH_]; exact Evl.Ex.new hlp)
  have g4 := (congrFun hH_ lp).symm
  rw [upd_same] at g4
  clear hH_
  have x24 := x3.trans x4
  have D04 := D02.ex x24
  have nlp : lp ≠ w := (D02.ex x3).wl.nep hlp
  have Lb : ∀ p ∈ L', p ∈ bs := fun p hp => Lm p (pm.mem_iff.mp hp)
  have pl := pm.length_eq
  have hl3 := has.2.2
  have sbn : ∀ p ∈ L', SqT K (nw H H4) p.1 (p.2.map kV) := fun p hp => sqt_ex (sb p (Lb p hp)) (nw_ex2 x24)
  have Lne : 0 < mn → 0 < L.length := fun q => by
    rcases Nat.eq_zero_or_pos L.length with z | z
    · exfalso
      obtain ⟨b0, hb0⟩ : ∃ b, b ∈ bs := by
        cases bs with
        | nil => rw [← dl] at q; cases q
        | cons b _ => exact ⟨b, List.mem_cons_self⟩
      have := has.2.1 b0 hb0
      rw [List.length_eq_zero_iff.mp z] at this
      cases this
    · exact z
  first | refine nrmG (σ' := [_, _, _, _, _]) rfl ?_ | refine nrm (σ' := [_, _, _, _, _]) rfl ?_
  refine ⟨_, rfl, lp, rfl, ⟨_, SqL.of g4⟩, fun E hE => ?_⟩
  have ll : (L'.map fun q => V.ref q.1).length = L'.length := List.length_map ..
  refine lc_dr (K := K) (walk_list (K := K) (a := lp) (xs := L'.map fun q => V.ref q.1)) (n + 9) 50 (fun i d => ∃ p r l b, L'[i]? = some p ∧ p.2 = [.inl r, .inl l] ∧ d = .tuple [.int r, .int l, b] ∧ GBags b) D04.wl hE (by omega) (fun _ _ dd => dd.sql (SqL.of g4) nlp) (fun i x HA HB C N hi dA hy hc => ?_) (fun H5 acc es D5 gE de el em => ?_)
  · obtain ⟨rfl, hv⟩ := hy
    obtain ⟨p, hp, rfl⟩ := map_at hv
    have pmem := List.mem_of_getElem? hp
    obtain ⟨r, l, ep, _⟩ := mk p (Lb p pmem)
    have hi : i < L'.length := by rw [ll] at hi; exact hi
    refine ⟨rfl, yes_ok ⟨_, rfl, _, rfl, w, n + 9 + i * 50, 3, rfl, dA.wl, by omega, by decide, by decide, fun v d H6 g r6 D6 => ⟨(by show 1 ≤ sizeLine; decide), fun t ht => ?_⟩⟩⟩
    have sp : SqT K HB p.1 [.int r, .int l] := by
      have := sqt_ex (sbn p pmem) (nw_dn wl dA)
      rw [ep] at this
      exact sqt_ex this nw_ex
    have ht0 : HB t = none := D6.free ht
    generalize hH_ : upd H6 t _ = H7
    have x7 : Evl.Ex H6 H7 := (by rw [← hH_]; exact Evl.Ex.new ht)
    have g7 := (congrFun hH_ t).symm
    rw [upd_same] at g7
    clear hH_
    refine ⟨p.1, t, [.int r, .int l], [v], rfl, rfl, sqt_ex (D6.sq dA.wl sp) x7, SqT.of g7, (by show 2 + 1 ≤ sizeLine; decide), (fun q => nomatch q), (fun _ q => nomatch q), fun _ _ q hq => ?_⟩
    have hq0 : HB q = none := D6.free (Ex.free x7 hq)
    generalize hH_ : upd H7 q _ = H8
    have x8 : Evl.Ex H7 H8 := (by rw [← hH_]; exact Evl.Ex.new hq)
    have g8 := (congrFun hH_ q).symm
    rw [upd_same] at g8
    clear hH_
    exact hc (.ref q) (.tuple [.int r, .int l, d]) H8 ⟨p, r, l, d, hp, ep, rfl, g⟩ (.tup (SqT.of (nw_of hq0 g8)) (.cons (.int r) (.cons (.int l) (.cons (Dr.ex (nw_ex2 (x7.trans x8)) _ _ r6) .nil)))) ((D6.ex (x7.trans x8)).mono (by omega))
  rw [ll] at el D5
  try unfold tNil
  refine ⟨E, acc, rfl, .inl ⟨SqL.of gE, fun t ht => ?_⟩⟩
  have D05 : Dn w (n + 200) H H5 := (D04.trans D5).mono (by omega)
  have ht0 : H t = none := D05.free ht
  generalize hH_ : upd H5 t _ = H6
  have x6 : Evl.Ex H5 H6 := (by rw [← hH_]; exact Evl.Ex.new ht)
  have g6 := (congrFun hH_ t).symm
  rw [upd_same] at g6
  clear hH_
  have fr : es.map front2 = L'.map fun p => encK p.2 := by
    refine List.ext_getElem? fun i => ?_
    rw [List.getElem?_map, List.getElem?_map]
    cases q : es[i]? with
    | none =>
      have : L'[i]? = none := List.getElem?_eq_none (by have := List.getElem?_eq_none_iff.mp q; omega)
      rw [this]
      rfl
    | some d =>
      obtain ⟨p, r, l, b, h1, h2, rfl, _⟩ := em i d q
      rw [h1]
      show some (front2 (.tuple [.int r, .int l, b])) = some (encK p.2)
      rw [h2]
      rfl
  refine k (.ref t) (.tuple es) H6 ⟨es, rfl, by omega, fun z => ?_, fun z => ?_, fun l hl => ?_, ?_⟩ (.tup (SqT.of (nw_of ht0 g6)) (DrAll.ex ((nw_later D04).trans (nw_ex2 x6)) _ _ de)) (D05.ex x6)
  · exact List.length_eq_zero_iff.mp (by omega)
  · have := Lne (by omega)
    omega
  · obtain ⟨i, hi⟩ := List.mem_iff_getElem?.mp hl
    obtain ⟨p, r, l', b, h1, h2, rfl, gb⟩ := em i l hi
    obtain ⟨r', l'', e2, b1, b2, b3, b4⟩ := mk p (Lb p (List.mem_of_getElem? h1))
    rw [h2] at e2
    injection e2 with e3 e4
    injection e4 with e4 _
    injection e3 with e3
    injection e4 with e4
    subst e3 e4
    exact ⟨r, l', b, rfl, b1, b2, b3, b4, gb⟩
  · rw [fr]
    refine sorted_rising (fun p hp q hq => ?_) pw ((pm.map (·.2)).nodup_iff.mpr nd)
    obtain ⟨z, i, e, _⟩ := mk p (Lb p hp)
    obtain ⟨z', i', e', _⟩ := mk q (Lb q hq)
    rw [e, e']
    exact tot_pair z z' i i'
theorem ok_law_things (T : TX w K mg) : Gt P w K mg base CX0 7 "_law_things" ["_law_source", "_law_word"] (spThings23 K) := by
  refine gt_mk (D_law_things T) (g_law_things T) sc_law_things rfl (fun _ _ _ _ _ _ us hl => match us, hl with | [_, _], _ => rfl) (fun vs H Q E h => ?_) (fun f cdv A outer s H vs Q E hr h => ?_)
  · obtain ⟨w, n, wd, rfl, _⟩ := h
    rfl
  obtain ⟨w, n, wd, rfl, wl, hn, hw, k⟩ := h
  refine ⟨_, (pss_cons (ps_if (pt_cmpR op_eq (pv 1) pe_str (nomark _))
      (pss_cons (ps_set (i := 2) sc_law_things.nd rfl (by first | exact Or.inl rfl | exact Or.inr rfl) (pe_cmpR op_eq ((ok_draw T).pe (hr.mono (by decide)) (pa_cons (pv 0) (pa_cons pe_int pa_nil))) pe_int (nomark _)))
    (pss_cons (ps_set (i := 3) sc_law_things.nd rfl (by first | exact Or.inl rfl | exact Or.inr rfl) ((ok_one T).pe (hr.mono (by decide)) (pa_cons (pv 0) (pa_cons (pe_lst (pa_cons pe_int (pa_cons pe_int (pa_cons pe_int (pa_cons (pe_op op_add pe_int ((ok_draw T).pe (hr.mono (by decide)) (pa_cons (pv 0) (pa_cons pe_int pa_nil)))) pa_nil))))) pa_nil))))
    (pss_one (ps_ret (pe_tup (pa_cons ((ok_law_mark T).pe (hr.mono (by decide)) (pa_cons (pv 0) pa_nil)) (pa_cons ((ok_law_address T).pe (hr.mono (by decide)) (pa_cons (pv 0) pa_nil)) (pa_cons ((ok_law_address T).pe (hr.mono (by decide)) (pa_cons (pv 0) pa_nil)) (pa_cons (pv 3) (pa_cons (pv 2) (pa_cons ((ok_law_number T).pe (hr.mono (by decide)) (pa_cons (pv 0) pa_nil)) pa_nil)))))))))))
      pss_nil)
    (pss_cons (ps_if (pt_cmpR op_eq (pv 1) pe_str (nomark _))
      (pss_cons (ps_set (i := 4) sc_law_things.nd rfl (by first | exact Or.inl rfl | exact Or.inr rfl) (pe_callTy call_tuple_of (by rfl) (f_tuple T) (by decide +kernel) (pa_cons (pe_lc (own := [("_law_k", 5)]) (g := gName 5) (tt := tYes) rfl sc_law_things.nd (pi_range1 (by rfl) (f_range T) (pa_cons ((ok_one T).pe (hr.mono (by decide)) (pa_cons (pv 0) (pa_cons (pe_lst (pa_cons pe_int (pa_cons pe_int (pa_cons pe_int (pa_cons pe_int pa_nil))))) pa_nil))) pa_nil)) (blkOk_by (N := ["_law_source", "_law_word", "_law_kept", "_law_weight", "_law_some", "_law_k", "_law_last", "_law_many"]) (sc := defScope s_law_things) (by decide +kernel)) (fun _ _ _ _ _ => (pg_name (i := 5) sc_law_things.nd rfl (by first | exact Or.inl rfl | exact Or.inr rfl))) (fun _ _ _ _ _ => pts_nil) (fun _ _ _ _ _ => ((ok_law_mark T).pe (hr.mono (by decide)) (pa_cons (pv 0) pa_nil)))) pa_nil)))
    (pss_one (ps_ret (pe_tup (pa_cons ((ok_law_mark T).pe (hr.mono (by decide)) (pa_cons (pv 0) pa_nil)) (pa_cons ((ok_draw T).pe (hr.mono (by decide)) (pa_cons (pv 0) (pa_cons pe_int pa_nil))) (pa_cons ((ok_law_number T).pe (hr.mono (by decide)) (pa_cons (pv 0) pa_nil)) (pa_cons (pv 4) pa_nil))))))))
      pss_nil)
    (pss_cons (ps_if (pt_cmpR op_eq (pv 1) pe_str (nomark _))
      (pss_one (ps_ret (pe_tup (pa_cons ((ok_law_mark T).pe (hr.mono (by decide)) (pa_cons (pv 0) pa_nil)) pa_nil))))
      pss_nil)
    (pss_cons (ps_if (pt_cmpR op_eq (pv 1) pe_str (nomark _))
      (pss_one (ps_ret (pe_tup (pa_cons ((ok_draw T).pe (hr.mono (by decide)) (pa_cons (pv 0) (pa_cons pe_int pa_nil))) (pa_cons ((ok_law_number T).pe (hr.mono (by decide)) (pa_cons (pv 0) pa_nil)) pa_nil)))))
      pss_nil)
    (pss_cons (ps_if (pt_cmpR op_eq (pv 1) pe_str (nomark _))
      (pss_one (ps_ret (pe_tup (pa_cons ((ok_draw T).pe (hr.mono (by decide)) (pa_cons (pv 0) (pa_cons pe_int pa_nil))) (pa_cons ((ok_law_number T).pe (hr.mono (by decide)) (pa_cons (pv 0) pa_nil)) (pa_cons (pe_op op_add pe_int ((ok_law_number T).pe (hr.mono (by decide)) (pa_cons (pv 0) pa_nil))) pa_nil))))))
      pss_nil)
    (pss_cons (ps_if (pt_cmpR op_eq (pv 1) pe_str (nomark _))
      (pss_cons (ps_set (i := 6) sc_law_things.nd rfl (by first | exact Or.inl rfl | exact Or.inr rfl) ((ok_one T).pe (hr.mono (by decide)) (pa_cons (pv 0) (pa_cons (pe_lst (pa_cons pe_non (pa_cons ((ok_law_number T).pe (hr.mono (by decide)) (pa_cons (pv 0) pa_nil)) pa_nil))) pa_nil))))
    (pss_one (ps_ret (pe_tup (pa_cons ((ok_law_name T).pe (hr.mono (by decide)) (pa_cons (pv 0) pa_nil)) (pa_cons ((ok_law_name T).pe (hr.mono (by decide)) (pa_cons (pv 0) pa_nil)) (pa_cons ((ok_law_name T).pe (hr.mono (by decide)) (pa_cons (pv 0) pa_nil)) (pa_cons ((ok_law_number T).pe (hr.mono (by decide)) (pa_cons (pv 0) pa_nil)) (pa_cons (pv 6) pa_nil)))))))))
      pss_nil)
    (pss_cons (ps_if (pt_cmpR op_eq (pv 1) pe_str (nomark _))
      (pss_one (ps_ret (pe_tup (pa_cons ((ok_law_mark T).pe (hr.mono (by decide)) (pa_cons (pv 0) pa_nil)) (pa_cons ((ok_law_number T).pe (hr.mono (by decide)) (pa_cons (pv 0) pa_nil)) pa_nil)))))
      pss_nil)
    (pss_cons (ps_if (pt_cmpR op_eq (pv 1) pe_str (nomark _))
      (pss_one (ps_ret (pe_tup (pa_cons ((ok_law_mark T).pe (hr.mono (by decide)) (pa_cons (pv 0) pa_nil)) (pa_cons ((ok_law_name T).pe (hr.mono (by decide)) (pa_cons (pv 0) pa_nil)) pa_nil)))))
      pss_nil)
    (pss_cons (ps_if (pt_cmpR op_eq (pv 1) pe_str (nomark _))
      (pss_cons (ps_set (i := 7) sc_law_things.nd rfl (by first | exact Or.inl rfl | exact Or.inr rfl) ((ok_one T).pe (hr.mono (by decide)) (pa_cons (pv 0) (pa_cons (pe_lst (pa_cons pe_int (pa_cons pe_int (pa_cons pe_int (pa_cons pe_int pa_nil))))) pa_nil))))
    (pss_one (ps_ret (pe_tup (pa_cons ((ok_law_loads T).pe (hr.mono (by decide)) (pa_cons (pv 0) (pa_cons (pv 7) pa_nil))) (pa_cons ((ok_law_loads T).pe (hr.mono (by decide)) (pa_cons (pv 0) (pa_cons (pe_op op_add ((ok_one T).pe (hr.mono (by decide)) (pa_cons (pv 0) (pa_cons (pe_lst (pa_cons pe_int (pa_cons pe_int pa_nil))) pa_nil))) (pe_callTy call_int1 (by rfl) (f_int T) (by decide +kernel) (pa_cons (pe_cmpR op_eq (pv 7) pe_int (nomark _)) pa_nil))) pa_nil))) pa_nil))))))
      pss_nil)
    (pss_one (ps_ret (pe_tup (pa_cons ((ok_law_mark T).pe (hr.mono (by decide)) (pa_cons (pv 0) pa_nil)) (pa_cons ((ok_one T).pe (hr.mono (by decide)) (pa_cons (pv 0) (pa_cons (pe_lst (pa_cons pe_str (pa_cons pe_str pa_nil))) pa_nil))) pa_nil)))))))))))))), ?_⟩
  have D0 : Dn w (n + 0) H H := ⟨wl, Wk.refl _ _⟩
  simp only [LK, List.map_cons, List.map_nil, List.mem_cons, List.not_mem_nil, or_false] at hw
  rcases hw with rfl | rfl | rfl | rfl | rfl | rfl | rfl | rfl | rfl | rfl | rfl
  · -- posted
    refine ⟨_, rfl, rfl, _, rfl, iteT' (by decide +kernel) ?_⟩
    refine ⟨_, rfl, w, n, 2, rfl, wl, by omega, by decide, by decide +kernel, fun a H1 a0 a1 D1 => ⟨rfl, ?_⟩⟩
    refine ⟨_, rfl, _, rfl, w, n + 1, 99, rfl, D1.wl, by omega, by decide, by decide +kernel, fun b H2 b0 b1 D2 => ⟨_, _, rfl, rfl, (by show 4 ≤ sizeLine; decide), fun p hp => ?_⟩⟩
    generalize hH_ : upd H2 p _ = H3
    have x3 : Evl.Ex H2 H3 := (by rw [← hH_]; exact Evl.Ex.new hp)
    have g3 := (congrFun hH_ p).symm
    rw [upd_same] at g3
    clear hH_
    refine ⟨w, p, n + 2, _, rfl, D2.wl.ex x3, by omega, SqL.of g3, D2.wl.nep hp, (by show 0 < 4; decide), (by show 4 ≤ 1000000; decide), fun v H4 hv D4 => ?_⟩
    obtain ⟨wt, rfl, w1, w99⟩ : ∃ i : Int, v = .int i ∧ 1 ≤ i ∧ i ≤ 99 := by
      simp only [List.mem_cons, List.not_mem_nil, or_false] at hv
      rcases hv with rfl | rfl | rfl | rfl
      · exact ⟨1, rfl, by decide, by decide⟩
      · exact ⟨2, rfl, by decide, by decide⟩
      · exact ⟨99, rfl, by decide, by decide⟩
      · exact ⟨1 + b, rfl, by omega, by omega⟩
    have B0 : Dn w (n + 3) H H4 := ⟨D4.wl, D1.k.trans (D2.k.trans ((Ex.wk w x3).trans D4.k))⟩
    refine ⟨_, rfl, w, n + 3, rfl, B0.wl, by omega, fun y1 z1 X1 g1 r1 E1 => ?_⟩
    refine ⟨_, rfl, w, n + 17, rfl, E1.wl, by omega, fun y2 z2 X2 g2 r2 E2 => ?_⟩
    refine ⟨_, rfl, w, n + 37, rfl, E2.wl, by omega, fun y3 z3 X3 g3_ r3 E3 => ?_⟩
    refine ⟨_, rfl, _, rfl, _, rfl, w, n + 57, rfl, E3.wl, by omega, fun y4 z4 X4 g4 r4 E4 => ?_⟩
    have A_ : Dn w _ H X4 := (((B0.trans E1).trans E2).trans E3).trans E4
    refine ⟨(by show 6 ≤ sizeLine; decide), fun t ht => ?_⟩
    have A4 : Dn w (n + 500) H X4 := A_.mono (by omega)
    generalize hH_ : upd X4 t _ = HF
    have xF : Evl.Ex X4 HF := (by rw [← hH_]; exact Evl.Ex.new ht)
    have gF := (congrFun hH_ t).symm
    rw [upd_same] at gF
    clear hH_
    have up : ∀ {Hi Hj : Hp} {a c : Nat}, Dn w a H Hi → Dn w c Hj X4 → Evl.Ex (nw Hi Hj) (nw H HF) := fun d1 d3 => (nw_later d1).trans (nw_dn wl (d3.ex xF))
    exact k (.ref t) _ HF (GT.posted g1 g2 g3_ w1 w99 g4) (.tup (SqT.of (nw_of (A4.free ht) gF)) (.cons (Dr.ex (up B0 (((E2).trans E3).trans E4)) _ _ r1) (.cons (Dr.ex (up (B0.trans E1) ((E3).trans E4)) _ _ r2) (.cons (Dr.ex (up ((B0.trans E1).trans E2) (E4)) _ _ r3) (.cons (.int wt) (.cons (.bl _) (.cons (Dr.ex (up (((B0.trans E1).trans E2).trans E3) (⟨E4.wl, Wk.refl _ _⟩)) _ _ r4) .nil))))))) (A4.ex xF)
  · -- bagged
    refine ⟨_, rfl, rfl, _, rfl, iteF' (by decide +kernel) ?_⟩
    refine ⟨_, rfl, rfl, _, rfl, iteT' (by decide +kernel) ?_⟩
    refine ⟨_, rfl, (by show 4 ≤ sizeLine; decide), fun p hp => ?_⟩
    generalize hH_ : upd H p _ = H1
    have x1 : Evl.Ex H H1 := (by rw [← hH_]; exact Evl.Ex.new hp)
    have g1_ := (congrFun hH_ p).symm
    rw [upd_same] at g1_
    clear hH_
    refine ⟨w, p, n, _, rfl, wl.ex x1, by omega, SqL.of g1_, wl.nep hp, (by show 0 < 4; decide), (by show 4 ≤ 1000000; decide), fun v H2 hv D2 => ?_⟩
    obtain ⟨mn, rfl, m1, m9⟩ : ∃ i : Nat, v = .int (i : Int) ∧ 1 ≤ i ∧ i ≤ 9 := by
      simp only [List.mem_cons, List.not_mem_nil, or_false] at hv
      rcases hv with rfl | rfl | rfl | rfl
      · exact ⟨1, rfl, by decide, by decide⟩
      · exact ⟨2, rfl, by decide, by decide⟩
      · exact ⟨3, rfl, by decide, by decide⟩
      · exact ⟨9, rfl, by decide, by decide⟩
    have D02 : Dn w (n + 1) H H2 := ⟨D2.wl, (Ex.wk w x1).trans D2.k⟩
    refine ⟨_, rfl, (by show -(2 ^ 62) ≤ (mn : Int); omega), (by show (mn : Int) < 2 ^ 62; omega), fun D hD => ?_⟩
    refine lc_dr (K := K) (walk_range (lo := 0) (n := ((mn : Int)).toNat)) (n + 1) 14 (fun _ d => GMark d) D02.wl hD (by show mn < 1000000; omega) (fun _ _ _ => trivial) (fun i x HA HB C N hi dA hy hc => ?_) (fun H3 acc ps D3 gD da dl dm => ?_)
    · obtain ⟨rfl, rfl⟩ := hy
      have hi : i < mn := hi
      refine ⟨rfl, yes_ok ⟨_, rfl, w, n + 1 + i * 14, rfl, dA.wl, by omega, fun v d HC g r dC => hc v d HC g r (dC.mono (by omega))⟩⟩
    have dl : ps.length = mn := dl
    have D3 : Dn w (n + 1 + mn * 14) H2 H3 := D3
    try unfold tNil
    refine ⟨D, acc, rfl, .inl ⟨SqL.of gD, fun tp htp => ?_⟩⟩
    have D03 : Dn w (n + 200) H H3 := (D02.trans D3).mono (by omega)
    generalize hH_ : upd H3 tp _ = H4
    have x4 : Evl.Ex H3 H4 := (by rw [← hH_]; exact Evl.Ex.new htp)
    have g4_ := (congrFun hH_ tp).symm
    rw [upd_same] at g4_
    clear hH_
    have B0 : Dn w (n + 200) H H4 := D03.ex x4
    have r0 : Dr K (nw H H4) (.ref tp) (.tuple ps) := .tup (SqT.of (nw_of (D03.free htp) g4_)) (DrAll.ex ((nw_later D02).trans (nw_ex2 x4)) _ _ da)
    have pm : ∀ d ∈ ps, GMark d := fun d hd => by
      obtain ⟨j, hj⟩ := List.mem_iff_getElem?.mp hd
      exact dm j d hj
    first | refine nrmG (σ' := [_, _, _, _, _, _, _, _]) rfl ?_ | refine nrm (σ' := [_, _, _, _, _, _, _, _]) rfl ?_
    refine ⟨_, rfl, w, n + 200, rfl, B0.wl, by omega, fun y1 z1 X1 g1 r1 E1 => ?_⟩
    refine ⟨_, rfl, w, n + 214, 16, rfl, E1.wl, by omega, by decide, by decide +kernel, fun y2 X2 y20 y21 E2 => ?_⟩
    refine ⟨_, rfl, w, n + 215, rfl, E2.wl, by omega, fun y3 z3 X3 g3 r3 E3 => ?_⟩
    refine ⟨_, rfl, ?_⟩
    have A_ : Dn w _ H X3 := ((B0.trans E1).trans E2).trans E3
    refine ⟨(by show 4 ≤ sizeLine; decide), fun t ht => ?_⟩
    have A3 : Dn w (n + 500) H X3 := A_.mono (by omega)
    generalize hH_ : upd X3 t _ = HF
    have xF : Evl.Ex X3 HF := (by rw [← hH_]; exact Evl.Ex.new ht)
    have gF := (congrFun hH_ t).symm
    rw [upd_same] at gF
    clear hH_
    have up : ∀ {Hi Hj : Hp} {a c : Nat}, Dn w a H Hi → Dn w c Hj X3 → Evl.Ex (nw Hi Hj) (nw H HF) := fun d1 d3 => (nw_later d1).trans (nw_dn wl (d3.ex xF))
    exact k (.ref t) _ HF (GT.bagged g1 y20 y21 g3 (by omega) (by omega) pm) (.tup (SqT.of (nw_of (A3.free ht) gF)) (.cons (Dr.ex (up B0 ((E2).trans E3)) _ _ r1) (.cons (.int y2) (.cons (Dr.ex (up ((B0.trans E1).trans E2) (⟨E3.wl, Wk.refl _ _⟩)) _ _ r3) (.cons (Dr.ex (nw_dn wl ((E1.trans E2).trans E3|>.ex xF)) _ _ r0) .nil))))) (A3.ex xF)
  · -- opened
    refine ⟨_, rfl, rfl, _, rfl, iteF' (by decide +kernel) ?_⟩
    refine ⟨_, rfl, rfl, _, rfl, iteF' (by decide +kernel) ?_⟩
    refine ⟨_, rfl, rfl, _, rfl, iteT' (by decide +kernel) ?_⟩
    refine ⟨_, rfl, w, n + 0, rfl, D0.wl, by omega, fun y1 z1 X1 g1 r1 E1 => ?_⟩
    have A_ : Dn w _ H X1 := E1
    refine ⟨(by show 1 ≤ sizeLine; decide), fun t ht => ?_⟩
    have A1 : Dn w (n + 500) H X1 := A_.mono (by omega)
    generalize hH_ : upd X1 t _ = HF
    have xF : Evl.Ex X1 HF := (by rw [← hH_]; exact Evl.Ex.new ht)
    have gF := (congrFun hH_ t).symm
    rw [upd_same] at gF
    clear hH_
    have up : ∀ {Hi Hj : Hp} {a c : Nat}, Dn w a H Hi → Dn w c Hj X1 → Evl.Ex (nw Hi Hj) (nw H HF) := fun d1 d3 => (nw_later d1).trans (nw_dn wl (d3.ex xF))
    exact k (.ref t) _ HF (GT.opened g1) (.tup (SqT.of (nw_of (A1.free ht) gF)) (.cons (Dr.ex (up D0 (⟨E1.wl, Wk.refl _ _⟩)) _ _ r1) .nil)) (A1.ex xF)
  · -- shut
    refine ⟨_, rfl, rfl, _, rfl, iteF' (by decide +kernel) ?_⟩
    refine ⟨_, rfl, rfl, _, rfl, iteF' (by decide +kernel) ?_⟩
    refine ⟨_, rfl, rfl, _, rfl, iteF' (by decide +kernel) ?_⟩
    refine ⟨_, rfl, rfl, _, rfl, iteT' (by decide +kernel) ?_⟩
    refine ⟨_, rfl, w, n + 0, 16, rfl, D0.wl, by omega, by decide, by decide +kernel, fun y1 X1 y10 y11 E1 => ?_⟩
    refine ⟨_, rfl, w, n + 1, rfl, E1.wl, by omega, fun y2 z2 X2 g2 r2 E2 => ?_⟩
    have A_ : Dn w _ H X2 := (E1).trans E2
    refine ⟨(by show 2 ≤ sizeLine; decide), fun t ht => ?_⟩
    have A2 : Dn w (n + 500) H X2 := A_.mono (by omega)
    generalize hH_ : upd X2 t _ = HF
    have xF : Evl.Ex X2 HF := (by rw [← hH_]; exact Evl.Ex.new ht)
    have gF := (congrFun hH_ t).symm
    rw [upd_same] at gF
    clear hH_
    have up : ∀ {Hi Hj : Hp} {a c : Nat}, Dn w a H Hi → Dn w c Hj X2 → Evl.Ex (nw Hi Hj) (nw H HF) := fun d1 d3 => (nw_later d1).trans (nw_dn wl (d3.ex xF))
    exact k (.ref t) _ HF (GT.shut y10 y11 g2) (.tup (SqT.of (nw_of (A2.free ht) gF)) (.cons (.int y1) (.cons (Dr.ex (up (E1) (⟨E2.wl, Wk.refl _ _⟩)) _ _ r2) .nil))) (A2.ex xF)
  · -- late
    refine ⟨_, rfl, rfl, _, rfl, iteF' (by decide +kernel) ?_⟩
    refine ⟨_, rfl, rfl, _, rfl, iteF' (by decide +kernel) ?_⟩
    refine ⟨_, rfl, rfl, _, rfl, iteF' (by decide +kernel) ?_⟩
    refine ⟨_, rfl, rfl, _, rfl, iteF' (by decide +kernel) ?_⟩
    refine ⟨_, rfl, rfl, _, rfl, iteT' (by decide +kernel) ?_⟩
    refine ⟨_, rfl, w, n + 0, 16, rfl, D0.wl, by omega, by decide, by decide +kernel, fun y1 X1 y10 y11 E1 => ?_⟩
    refine ⟨_, rfl, w, n + 1, rfl, E1.wl, by omega, fun y2 z2 X2 g2 r2 E2 => ?_⟩
    refine ⟨_, rfl, w, n + 5, rfl, E2.wl, by omega, fun y3 z3 X3 g3 r3 E3 => ?_⟩
    obtain ⟨t3, rfl, t30, t31⟩ := g3
    cases r3
    refine ⟨_, _, rfl, rfl, ?_⟩
    have A_ : Dn w _ H X3 := ((E1).trans E2).trans E3
    refine ⟨(by show 3 ≤ sizeLine; decide), fun t ht => ?_⟩
    have A3 : Dn w (n + 500) H X3 := A_.mono (by omega)
    generalize hH_ : upd X3 t _ = HF
    have xF : Evl.Ex X3 HF := (by rw [← hH_]; exact Evl.Ex.new ht)
    have gF := (congrFun hH_ t).symm
    rw [upd_same] at gF
    clear hH_
    have up : ∀ {Hi Hj : Hp} {a c : Nat}, Dn w a H Hi → Dn w c Hj X3 → Evl.Ex (nw Hi Hj) (nw H HF) := fun d1 d3 => (nw_later d1).trans (nw_dn wl (d3.ex xF))
    exact k (.ref t) _ HF (GT.late y10 y11 g2 (by omega) (by omega)) (.tup (SqT.of (nw_of (A3.free ht) gF)) (.cons (.int y1) (.cons (Dr.ex (up (E1) (E3)) _ _ r2) (.cons (.int (1 + t3)) .nil)))) (A3.ex xF)
  · -- moved
    refine ⟨_, rfl, rfl, _, rfl, iteF' (by decide +kernel) ?_⟩
    refine ⟨_, rfl, rfl, _, rfl, iteF' (by decide +kernel) ?_⟩
    refine ⟨_, rfl, rfl, _, rfl, iteF' (by decide +kernel) ?_⟩
    refine ⟨_, rfl, rfl, _, rfl, iteF' (by decide +kernel) ?_⟩
    refine ⟨_, rfl, rfl, _, rfl, iteF' (by decide +kernel) ?_⟩
    refine ⟨_, rfl, rfl, _, rfl, iteT' (by decide +kernel) ?_⟩
    refine ⟨_, rfl, _, rfl, w, n, rfl, wl, by omega, fun yl dl H1 gl rl D1 => ⟨(by show 2 ≤ sizeLine; decide), fun p hp => ?_⟩⟩
    generalize hH_ : upd H1 p _ = H2
    have x2 : Evl.Ex H1 H2 := (by rw [← hH_]; exact Evl.Ex.new hp)
    have g2_ := (congrFun hH_ p).symm
    rw [upd_same] at g2_
    clear hH_
    refine ⟨w, p, n + 4, _, rfl, D1.wl.ex x2, by omega, SqL.of g2_, D1.wl.nep hp, (by show 0 < 2; decide), (by show 2 ≤ 1000000; decide), fun v H3 hv D3 => ?_⟩
    have B0 : Dn w (n + 5) H H3 := ⟨D3.wl, D1.k.trans ((Ex.wk w x2).trans D3.k)⟩
    obtain ⟨dd, r0, g0⟩ : ∃ dd, Dr K (nw H H3) v dd ∧ (dd = .none ∨ GNum dd) := by
      obtain ⟨i, rfl, i0, i1⟩ := gl
      cases rl
      simp only [List.mem_cons, List.not_mem_nil, or_false] at hv
      rcases hv with rfl | rfl
      · exact ⟨.none, .non, .inl rfl⟩
      · exact ⟨.int i, .int i, .inr ⟨i, rfl, i0, i1⟩⟩
    first | refine nrmG (σ' := [_, _, _, _, _, _, _, _]) rfl ?_ | refine nrm (σ' := [_, _, _, _, _, _, _, _]) rfl ?_
    refine ⟨_, rfl, w, n + 5, rfl, B0.wl, by omega, fun y1 z1 X1 g1 r1 E1 => ?_⟩
    refine ⟨_, rfl, w, n + 15, rfl, E1.wl, by omega, fun y2 z2 X2 g2 r2 E2 => ?_⟩
    refine ⟨_, rfl, w, n + 25, rfl, E2.wl, by omega, fun y3 z3 X3 g3 r3 E3 => ?_⟩
    refine ⟨_, rfl, w, n + 35, rfl, E3.wl, by omega, fun y4 z4 X4 g4 r4 E4 => ?_⟩
    refine ⟨_, rfl, ?_⟩
    have A_ : Dn w _ H X4 := (((B0.trans E1).trans E2).trans E3).trans E4
    refine ⟨(by show 5 ≤ sizeLine; decide), fun t ht => ?_⟩
    have A4 : Dn w (n + 500) H X4 := A_.mono (by omega)
    generalize hH_ : upd X4 t _ = HF
    have xF : Evl.Ex X4 HF := (by rw [← hH_]; exact Evl.Ex.new ht)
    have gF := (congrFun hH_ t).symm
    rw [upd_same] at gF
    clear hH_
    have up : ∀ {Hi Hj : Hp} {a c : Nat}, Dn w a H Hi → Dn w c Hj X4 → Evl.Ex (nw Hi Hj) (nw H HF) := fun d1 d3 => (nw_later d1).trans (nw_dn wl (d3.ex xF))
    exact k (.ref t) _ HF (GT.moved g1 g2 g3 g4 g0) (.tup (SqT.of (nw_of (A4.free ht) gF)) (.cons (Dr.ex (up B0 (((E2).trans E3).trans E4)) _ _ r1) (.cons (Dr.ex (up (B0.trans E1) ((E3).trans E4)) _ _ r2) (.cons (Dr.ex (up ((B0.trans E1).trans E2) (E4)) _ _ r3) (.cons (Dr.ex (up (((B0.trans E1).trans E2).trans E3) (⟨E4.wl, Wk.refl _ _⟩)) _ _ r4) (.cons (Dr.ex (nw_dn wl ((((E1.trans E2).trans E3).trans E4).ex xF)) _ _ r0) .nil)))))) (A4.ex xF)
  · -- handed
    refine ⟨_, rfl, rfl, _, rfl, iteF' (by decide +kernel) ?_⟩
    refine ⟨_, rfl, rfl, _, rfl, iteF' (by decide +kernel) ?_⟩
    refine ⟨_, rfl, rfl, _, rfl, iteF' (by decide +kernel) ?_⟩
    refine ⟨_, rfl, rfl, _, rfl, iteF' (by decide +kernel) ?_⟩
    refine ⟨_, rfl, rfl, _, rfl, iteF' (by decide +kernel) ?_⟩
    refine ⟨_, rfl, rfl, _, rfl, iteF' (by decide +kernel) ?_⟩
    refine ⟨_, rfl, rfl, _, rfl, iteT' (by decide +kernel) ?_⟩
    refine ⟨_, rfl, w, n + 0, rfl, D0.wl, by omega, fun y1 z1 X1 g1 r1 E1 => ?_⟩
    refine ⟨_, rfl, w, n + 14, rfl, E1.wl, by omega, fun y2 z2 X2 g2 r2 E2 => ?_⟩
    have A_ : Dn w _ H X2 := (E1).trans E2
    refine ⟨(by show 2 ≤ sizeLine; decide), fun t ht => ?_⟩
    have A2 : Dn w (n + 500) H X2 := A_.mono (by omega)
    generalize hH_ : upd X2 t _ = HF
    have xF : Evl.Ex X2 HF := (by rw [← hH_]; exact Evl.Ex.new ht)
    have gF := (congrFun hH_ t).symm
    rw [upd_same] at gF
    clear hH_
    have up : ∀ {Hi Hj : Hp} {a c : Nat}, Dn w a H Hi → Dn w c Hj X2 → Evl.Ex (nw Hi Hj) (nw H HF) := fun d1 d3 => (nw_later d1).trans (nw_dn wl (d3.ex xF))
    exact k (.ref t) _ HF (GT.handed g1 g2) (.tup (SqT.of (nw_of (A2.free ht) gF)) (.cons (Dr.ex (up D0 (E2)) _ _ r1) (.cons (Dr.ex (up (E1) (⟨E2.wl, Wk.refl _ _⟩)) _ _ r2) .nil))) (A2.ex xF)
  · -- forwarded
    refine ⟨_, rfl, rfl, _, rfl, iteF' (by decide +kernel) ?_⟩
    refine ⟨_, rfl, rfl, _, rfl, iteF' (by decide +kernel) ?_⟩
    refine ⟨_, rfl, rfl, _, rfl, iteF' (by decide +kernel) ?_⟩
    refine ⟨_, rfl, rfl, _, rfl, iteF' (by decide +kernel) ?_⟩
    refine ⟨_, rfl, rfl, _, rfl, iteF' (by decide +kernel) ?_⟩
    refine ⟨_, rfl, rfl, _, rfl, iteF' (by decide +kernel) ?_⟩
    refine ⟨_, rfl, rfl, _, rfl, iteF' (by decide +kernel) ?_⟩
    refine ⟨_, rfl, rfl, _, rfl, iteT' (by decide +kernel) ?_⟩
    refine ⟨_, rfl, w, n + 0, rfl, D0.wl, by omega, fun y1 z1 X1 g1 r1 E1 => ?_⟩
    refine ⟨_, rfl, w, n + 14, rfl, E1.wl, by omega, fun y2 z2 X2 g2 r2 E2 => ?_⟩
    have A_ : Dn w _ H X2 := (E1).trans E2
    refine ⟨(by show 2 ≤ sizeLine; decide), fun t ht => ?_⟩
    have A2 : Dn w (n + 500) H X2 := A_.mono (by omega)
    generalize hH_ : upd X2 t _ = HF
    have xF : Evl.Ex X2 HF := (by rw [← hH_]; exact Evl.Ex.new ht)
    have gF := (congrFun hH_ t).symm
    rw [upd_same] at gF
    clear hH_
    have up : ∀ {Hi Hj : Hp} {a c : Nat}, Dn w a H Hi → Dn w c Hj X2 → Evl.Ex (nw Hi Hj) (nw H HF) := fun d1 d3 => (nw_later d1).trans (nw_dn wl (d3.ex xF))
    exact k (.ref t) _ HF (GT.forwarded g1 g2) (.tup (SqT.of (nw_of (A2.free ht) gF)) (.cons (Dr.ex (up D0 (E2)) _ _ r1) (.cons (Dr.ex (up (E1) (⟨E2.wl, Wk.refl _ _⟩)) _ _ r2) .nil))) (A2.ex xF)
  · -- sentback
    refine ⟨_, rfl, rfl, _, rfl, iteF' (by decide +kernel) ?_⟩
    refine ⟨_, rfl, rfl, _, rfl, iteF' (by decide +kernel) ?_⟩
    refine ⟨_, rfl, rfl, _, rfl, iteF' (by decide +kernel) ?_⟩
    refine ⟨_, rfl, rfl, _, rfl, iteF' (by decide +kernel) ?_⟩
    refine ⟨_, rfl, rfl, _, rfl, iteF' (by decide +kernel) ?_⟩
    refine ⟨_, rfl, rfl, _, rfl, iteF' (by decide +kernel) ?_⟩
    refine ⟨_, rfl, rfl, _, rfl, iteF' (by decide +kernel) ?_⟩
    refine ⟨_, rfl, rfl, _, rfl, iteF' (by decide +kernel) ?_⟩
    refine ⟨_, rfl, rfl, _, rfl, iteF' (by decide +kernel) ?_⟩
    refine ⟨_, rfl, w, n + 0, rfl, D0.wl, by omega, fun y1 z1 X1 g1 r1 E1 => ?_⟩
    refine ⟨_, rfl, (by show 2 ≤ sizeLine; decide), fun p hp => ?_⟩
    generalize hH_ : upd X1 p _ = X2
    have x2 : Evl.Ex X1 X2 := (by rw [← hH_]; exact Evl.Ex.new hp)
    have g2_ := (congrFun hH_ p).symm
    rw [upd_same] at g2_
    clear hH_
    refine ⟨w, p, n + 14, _, rfl, E1.wl.ex x2, by omega, SqL.of g2_, E1.wl.nep hp, (by show 0 < 2; decide), (by show 2 ≤ 1000000; decide), fun v X3 hv E3 => ?_⟩
    obtain ⟨y, rfl, hy⟩ : ∃ y : Str, v = .str y ∧ (y = "ring" ∨ y = "due") := by
      simp only [List.mem_cons, List.not_mem_nil, or_false] at hv
      rcases hv with rfl | rfl
      · exact ⟨_, rfl, .inl rfl⟩
      · exact ⟨_, rfl, .inr rfl⟩
    have E2 : Dn w (n + 15) X1 X3 := ⟨E3.wl, (Ex.wk w x2).trans E3.k⟩
    have A_ : Dn w _ H X3 := E1.trans E2
    refine ⟨(by show 2 ≤ sizeLine; decide), fun t ht => ?_⟩
    have A3 : Dn w (n + 500) H X3 := A_.mono (by omega)
    generalize hH_ : upd X3 t _ = HF
    have xF : Evl.Ex X3 HF := (by rw [← hH_]; exact Evl.Ex.new ht)
    have gF := (congrFun hH_ t).symm
    rw [upd_same] at gF
    clear hH_
    exact k (.ref t) _ HF (GT.sentback g1 hy) (.tup (SqT.of (nw_of (A3.free ht) gF)) (.cons (Dr.ex (nw_dn wl (E2.ex xF)) _ _ r1) (.cons (.str y) .nil))) (A3.ex xF)
  · -- laid
    refine ⟨_, rfl, rfl, _, rfl, iteF' (by decide +kernel) ?_⟩
    refine ⟨_, rfl, rfl, _, rfl, iteF' (by decide +kernel) ?_⟩
    refine ⟨_, rfl, rfl, _, rfl, iteF' (by decide +kernel) ?_⟩
    refine ⟨_, rfl, rfl, _, rfl, iteF' (by decide +kernel) ?_⟩
    refine ⟨_, rfl, rfl, _, rfl, iteF' (by decide +kernel) ?_⟩
    refine ⟨_, rfl, rfl, _, rfl, iteF' (by decide +kernel) ?_⟩
    refine ⟨_, rfl, rfl, _, rfl, iteF' (by decide +kernel) ?_⟩
    refine ⟨_, rfl, rfl, _, rfl, iteF' (by decide +kernel) ?_⟩
    refine ⟨_, rfl, rfl, _, rfl, iteF' (by decide +kernel) ?_⟩
    refine ⟨_, rfl, w, n + 0, rfl, D0.wl, by omega, fun y1 z1 X1 g1 r1 E1 => ?_⟩
    refine ⟨_, rfl, (by show 2 ≤ sizeLine; decide), fun p hp => ?_⟩
    generalize hH_ : upd X1 p _ = X2
    have x2 : Evl.Ex X1 X2 := (by rw [← hH_]; exact Evl.Ex.new hp)
    have g2_ := (congrFun hH_ p).symm
    rw [upd_same] at g2_
    clear hH_
    refine ⟨w, p, n + 14, _, rfl, E1.wl.ex x2, by omega, SqL.of g2_, E1.wl.nep hp, (by show 0 < 2; decide), (by show 2 ≤ 1000000; decide), fun v X3 hv E3 => ?_⟩
    obtain ⟨y, rfl, hy⟩ : ∃ y : Str, v = .str y ∧ (y = "ring" ∨ y = "due") := by
      simp only [List.mem_cons, List.not_mem_nil, or_false] at hv
      rcases hv with rfl | rfl
      · exact ⟨_, rfl, .inl rfl⟩
      · exact ⟨_, rfl, .inr rfl⟩
    have E2 : Dn w (n + 15) X1 X3 := ⟨E3.wl, (Ex.wk w x2).trans E3.k⟩
    have A_ : Dn w _ H X3 := E1.trans E2
    refine ⟨(by show 2 ≤ sizeLine; decide), fun t ht => ?_⟩
    have A3 : Dn w (n + 500) H X3 := A_.mono (by omega)
    generalize hH_ : upd X3 t _ = HF
    have xF : Evl.Ex X3 HF := (by rw [← hH_]; exact Evl.Ex.new ht)
    have gF := (congrFun hH_ t).symm
    rw [upd_same] at gF
    clear hH_
    exact k (.ref t) _ HF (GT.laid g1 hy) (.tup (SqT.of (nw_of (A3.free ht) gF)) (.cons (Dr.ex (nw_dn wl (E2.ex xF)) _ _ r1) (.cons (.str y) .nil))) (A3.ex xF)
  · -- passed
    refine ⟨_, rfl, rfl, _, rfl, iteF' (by decide +kernel) ?_⟩
    refine ⟨_, rfl, rfl, _, rfl, iteF' (by decide +kernel) ?_⟩
    refine ⟨_, rfl, rfl, _, rfl, iteF' (by decide +kernel) ?_⟩
    refine ⟨_, rfl, rfl, _, rfl, iteF' (by decide +kernel) ?_⟩
    refine ⟨_, rfl, rfl, _, rfl, iteF' (by decide +kernel) ?_⟩
    refine ⟨_, rfl, rfl, _, rfl, iteF' (by decide +kernel) ?_⟩
    refine ⟨_, rfl, rfl, _, rfl, iteF' (by decide +kernel) ?_⟩
    refine ⟨_, rfl, rfl, _, rfl, iteF' (by decide +kernel) ?_⟩
    refine ⟨_, rfl, rfl, _, rfl, iteT' (by decide +kernel) ?_⟩
    refine ⟨_, rfl, (by show 4 ≤ sizeLine; decide), fun p hp => ?_⟩
    generalize hH_ : upd H p _ = H1
    have x1 : Evl.Ex H H1 := (by rw [← hH_]; exact Evl.Ex.new hp)
    have g1_ := (congrFun hH_ p).symm
    rw [upd_same] at g1_
    clear hH_
    refine ⟨w, p, n, _, rfl, wl.ex x1, by omega, SqL.of g1_, wl.nep hp, (by show 0 < 4; decide), (by show 4 ≤ 1000000; decide), fun v H2 hv D2 => ?_⟩
    obtain ⟨m, rfl, m0, m3⟩ : ∃ i : Int, v = .int i ∧ 0 ≤ i ∧ i ≤ 3 := by
      simp only [List.mem_cons, List.not_mem_nil, or_false] at hv
      rcases hv with rfl | rfl | rfl | rfl
      · exact ⟨0, rfl, by decide, by decide⟩
      · exact ⟨1, rfl, by decide, by decide⟩
      · exact ⟨1, rfl, by decide, by decide⟩
      · exact ⟨3, rfl, by decide, by decide⟩
    have B0 : Dn w (n + 1) H H2 := ⟨D2.wl, (Ex.wk w x1).trans D2.k⟩
    first | refine nrmG (σ' := [_, _, _, _, _, _, _, _]) rfl ?_ | refine nrm (σ' := [_, _, _, _, _, _, _, _]) rfl ?_
    refine ⟨_, rfl, _, rfl, w, n + 1, m, rfl, B0.wl, by omega, m0, m3, fun y1 z1 X1 g1 r1 E1 => ?_⟩
    refine ⟨_, rfl, _, rfl, (by show 2 ≤ sizeLine; decide), fun q hq => ?_⟩
    generalize hH_ : upd X1 q _ = Y1
    have xq : Evl.Ex X1 Y1 := (by rw [← hH_]; exact Evl.Ex.new hq)
    have gq := (congrFun hH_ q).symm
    rw [upd_same] at gq
    clear hH_
    refine ⟨w, q, n + 201, _, rfl, E1.wl.ex xq, by omega, SqL.of gq, E1.wl.nep hq, (by show 0 < 2; decide), (by show 2 ≤ 1000000; decide), fun v2 Y2 hv2 E2 => ?_⟩
    obtain ⟨b, rfl, hb⟩ : ∃ i : Int, v2 = .int i ∧ (i = 0 ∨ i = 2) := by
      simp only [List.mem_cons, List.not_mem_nil, or_false] at hv2
      rcases hv2 with rfl | rfl
      · exact ⟨0, rfl, .inl rfl⟩
      · exact ⟨2, rfl, .inr rfl⟩
    have C1 : Dn w (n + 202) X1 Y2 := ⟨E2.wl, (Ex.wk w xq).trans E2.k⟩
    refine ⟨_, rfl, rfl, .inr ⟨_, rfl, ?_⟩⟩
    obtain ⟨nm, hnm, c0, c3, cm⟩ : ∃ nm : Int, nm = b + (if decide (V.int m = V.int 0) = true then 1 else 0) ∧ 0 ≤ nm ∧ nm ≤ 3 ∧ 0 < m + nm := by
      refine ⟨_, rfl, ?_⟩
      by_cases z : m = 0
      · rw [if_pos (decide_eq_true (congrArg V.int z))]
        omega
      · rw [if_neg (fun q => z (by have := of_decide_eq_true q; injection this))]
        omega
    refine ⟨_, _, rfl, rfl, w, n + 202, nm, (by rw [hnm]; rfl), C1.wl, by omega, c0, c3, fun y2 z2 X2 g2 r2 E2' => ⟨(by show 2 ≤ sizeLine; decide), fun t ht => ?_⟩⟩
    have A2 : Dn w (n + 500) H X2 := ((B0.trans E1).trans (C1.trans E2')).mono (by omega)
    generalize hH_ : upd X2 t _ = HF
    have xF : Evl.Ex X2 HF := (by rw [← hH_]; exact Evl.Ex.new ht)
    have gF := (congrFun hH_ t).symm
    rw [upd_same] at gF
    clear hH_
    have u1 : Evl.Ex (nw H2 X1) (nw H HF) := (nw_later B0).trans (nw_dn wl ((C1.trans E2').ex xF))
    have u2 : Evl.Ex (nw Y2 X2) (nw H HF) := (nw_later (B0.trans (E1.trans C1))).trans (nw_ex2 xF)
    exact k (.ref t) _ HF (GT.passed g1 g2 m0 c0 cm) (.tup (SqT.of (nw_of (A2.free ht) gF)) (.cons (Dr.ex u1 _ _ r1) (.cons (Dr.ex u2 _ _ r2) .nil))) (A2.ex xF)
theorem ok_law_drawn (T : TX w K mg) : Gt P w K mg base CX0 8 "_law_drawn" ["_law_source"] (spDrawn K) := by
  refine gt_mk (D_law_drawn T) (g_law_drawn T) sc_law_drawn rfl (fun _ _ _ _ _ _ us hl => match us, hl with | [_], _ => rfl) (fun vs H Q E h => ?_) (fun f cdv A outer s H vs Q E hr h => ?_)
  · obtain ⟨w, n, rfl, _⟩ := h
    rfl
  obtain ⟨w, n, rfl, wl, hn, k⟩ := h
  refine ⟨_, (pss_cons (ps_set (i := 1) sc_law_drawn.nd rfl (by first | exact Or.inl rfl | exact Or.inr rfl) (pe_lst (pa_cons pe_str (pa_cons pe_str (pa_cons pe_str (pa_cons pe_str (pa_cons pe_str (pa_cons pe_str (pa_cons pe_str (pa_cons pe_str (pa_cons pe_str (pa_cons pe_str (pa_cons pe_str pa_nil)))))))))))))
    (pss_cons (ps_set (i := 2) sc_law_drawn.nd rfl (by first | exact Or.inl rfl | exact Or.inr rfl) ((ok_one T).pe (hr.mono (by decide)) (pa_cons (pv 0) (pa_cons (pe_op op_cat (pv 1) (pe_lst (pa_cons pe_str (pa_cons pe_str pa_nil)))) pa_nil))))
    (pss_cons (ps_set (i := 3) sc_law_drawn.nd rfl (by first | exact Or.inl rfl | exact Or.inr rfl) ((ok_law_things T).pe (hr.mono (by decide)) (pa_cons (pv 0) (pa_cons (pv 2) pa_nil))))
    (pss_cons (ps_set (i := 4) sc_law_drawn.nd rfl (by first | exact Or.inl rfl | exact Or.inr rfl) (pe_tup pa_nil))
    (pss_cons (ps_if (pt_cmpR op_eq (pv 2) pe_str (nomark _))
      (pss_one (ps_set (i := 4) sc_law_drawn.nd rfl (by first | exact Or.inl rfl | exact Or.inr rfl) (pe_callTy call_tuple_of (by rfl) (f_tuple T) (by decide +kernel) (pa_cons (pe_lc (own := [("_law_row", 5)]) (g := gName 5) (tt := tYes) rfl sc_law_drawn.nd (pi_tup (pe_ix ix_tup (pv 3) pe_int (fun _ _ => rfl))) (blkOk_by (N := ["_law_source", "_law_some", "_law_word", "_law_things_here", "_law_hangs", "_law_row"]) (sc := defScope s_law_drawn) (by decide +kernel)) (fun _ _ _ _ _ => (pg_name (i := 5) sc_law_drawn.nd rfl (by first | exact Or.inl rfl | exact Or.inr rfl))) (fun _ _ _ _ _ => pts_nil) (fun _ _ _ _ _ => ((ok_law_mark T).pe (hr.mono (by decide)) (pa_cons (pv 0) pa_nil)))) pa_nil))))
      pss_nil)
    (pss_one (ps_ret (pe_lst (pa_cons ((ok_law_name T).pe (hr.mono (by decide)) (pa_cons (pv 0) pa_nil)) (pa_cons ((ok_law_number T).pe (hr.mono (by decide)) (pa_cons (pv 0) pa_nil)) (pa_cons ((ok_law_number T).pe (hr.mono (by decide)) (pa_cons (pv 0) pa_nil)) (pa_cons (pv 2) (pa_cons (pv 3) (pa_cons (pv 4) pa_nil)))))))))))))), ?_⟩
  refine ⟨(by show 11 ≤ sizeLine; decide), fun l1 hl1 => ?_⟩
  generalize hH_ : upd H l1 _ = H1
  have x1 : Evl.Ex H H1 := (by rw [← hH_]; exact Evl.Ex.new hl1)
  have g1 := (congrFun hH_ l1).symm
  rw [upd_same] at g1
  clear hH_
  refine ⟨_, rfl, _, rfl, (by show 2 ≤ sizeLine; decide), fun l2 hl2 => ?_⟩
  generalize hH_ : upd H1 l2 _ = H2
  have x2 : Evl.Ex H1 H2 := (by rw [← hH_]; exact Evl.Ex.new hl2)
  have g2 := (congrFun hH_ l2).symm
  rw [upd_same] at g2
  clear hH_
  refine ⟨l1, l2, _, _, rfl, rfl, x2 _ _ g1, g2, (by show 11 + 2 ≤ sizeLine; decide), fun l3 hl3 => ?_⟩
  generalize hH_ : upd H2 l3 _ = H3
  have x3 : Evl.Ex H2 H3 := (by rw [← hH_]; exact Evl.Ex.new hl3)
  have g3 := (congrFun hH_ l3).symm
  rw [upd_same] at g3
  clear hH_
  have x03 := x1.trans (x2.trans x3)
  refine ⟨w, l3, n, _, rfl, wl.ex x03, by omega, SqL.of g3, ((wl.ex x1).ex x2).nep hl3, (by show 0 < 13; decide), (by show 13 ≤ 1000000; decide), fun v H4 hv D4 => ?_⟩
  obtain ⟨wd, rfl, hw⟩ : ∃ z : Str, v = .str z ∧ z ∈ LK.map (·.w) := by
    simp only [List.mem_cons, List.mem_append, List.not_mem_nil, or_false] at hv
    rcases hv with (rfl | rfl | rfl | rfl | rfl | rfl | rfl | rfl | rfl | rfl | rfl) | rfl | rfl <;> exact ⟨_, rfl, by simp [LK]⟩
  have B0 : Dn w (n + 1) H H4 := ⟨D4.wl, (Ex.wk w x03).trans D4.k⟩
  first | refine nrmG (σ' := [_, _, _, _, _, _]) rfl ?_ | refine nrm (σ' := [_, _, _, _, _, _]) rfl ?_
  refine ⟨_, rfl, _, rfl, w, n + 1, wd, rfl, B0.wl, by omega, hw, fun v4 ds H5 gt r4 D5 => ?_⟩
  have B5 := B0.trans D5
  first | refine nrmG (σ' := [_, _, _, _, _, _]) rfl ?_ | refine nrm (σ' := [_, _, _, _, _, _]) rfl ?_
  refine ⟨(by show 0 ≤ sizeLine; decide), fun e0 he0 => ?_⟩
  generalize hH_ : upd H5 e0 _ = H6
  have x6 : Evl.Ex H5 H6 := (by rw [← hH_]; exact Evl.Ex.new he0)
  have g6 := (congrFun hH_ e0).symm
  rw [upd_same] at g6
  clear hH_
  have B6 := B5.ex x6
  first | refine nrmG (σ' := [_, _, _, _, _, _]) rfl ?_ | refine nrm (σ' := [_, _, _, _, _, _]) rfl ?_
  have r46 : Dr K (nw H H6) v4 (.tuple ds) := Dr.ex ((nw_later B0).trans (nw_ex2 x6)) _ _ r4
  by_cases pp : wd = "passed"
  · subst pp
    have gt' := gt
    cases gt' with
    | passed h1 h2 m0 n0 mn =>
    rename_i m1 n1 c1 l1'
    obtain ⟨ls, rfl, l3, _, _, _⟩ := h1
    have r46' := r46
    cases r46' with
    | tup s4 a4 =>
    cases a4 with
    | cons q1 a4 =>
    cases q1 with
    | tup s1 a1 =>
    rename_i ad4 vs1 ad1 xs1
    have l1 := a1.len
    refine ⟨_, rfl, rfl, _, rfl, iteT' (by decide +kernel) ?_⟩
    refine ⟨_, rfl, _, _, _, _, rfl, rfl, sqt_ex s4 nw_ex, atI_nat (j := 0) rfl, _, rfl, ⟨_, sqt_ex s1 nw_ex⟩, fun D hD => ?_⟩
    refine lc_dr (K := K) (walk_tup (K := K) (a := ad1) (xs := xs1)) (n + 501) 14 (fun _ d => GMark d) B6.wl hD (by omega) (fun _ _ dd => dd.sq B6.wl (sqt_ex s1 nw_ex)) (fun i x HA HB C N hi dA hy hc => ?_) (fun H7 acc cs D7 gD da dl dm => ?_)
    · obtain ⟨rfl, _⟩ := hy
      refine ⟨rfl, yes_ok ⟨_, rfl, w, n + 501 + i * 14, rfl, dA.wl, by omega, fun v d HC g r dC => hc v d HC g r (dC.mono (by omega))⟩⟩
    try unfold tNil
    refine ⟨D, acc, rfl, .inl ⟨SqL.of gD, fun tp htp => ?_⟩⟩
    have B7 : Dn w (n + 550) H H7 := (B6.trans D7).mono (by omega)
    have htp0 := B7.free htp
    generalize hH_ : upd H7 tp _ = H8
    have x8 : Evl.Ex H7 H8 := (by rw [← hH_]; exact Evl.Ex.new htp)
    have g8 := (congrFun hH_ tp).symm
    rw [upd_same] at g8
    clear hH_
    have B8 := B7.ex x8
    have r5 : Dr K (nw H H8) (.ref tp) (.tuple cs) := .tup (SqT.of (nw_of htp0 g8)) (DrAll.ex ((nw_later B6).trans (nw_ex2 x8)) _ _ da)
    have r48 : Dr K (nw H H8) (.ref ad4) (.tuple [.tuple ls, l1']) := Dr.ex (nw_dn wl (D7.ex x8)) _ _ r46
    have lc : cs.length = if ("passed" : Str) = "passed" then (itemsD ([PyData.tuple ls, l1'].getD 0 .none)).length else 0 := by
      rw [if_pos rfl, dl, l1]
      rfl
    have mc : ∀ c ∈ cs, GMark c := fun c hc => by
      obtain ⟨j, hj⟩ := List.mem_iff_getElem?.mp hc
      exact dm j c hj
    first | refine nrmG (σ' := [_, _, _, _, _, _]) rfl ?_ | refine nrm (σ' := [_, _, _, _, _, _]) rfl ?_
    refine ⟨_, rfl, w, n + 550, rfl, B8.wl, by omega, fun v0 d0 X1 p0 r0 E1 => ?_⟩
    refine ⟨_, rfl, w, n + 550 + 10, rfl, E1.wl, by omega, fun v1 d1 X2 p1 r1 E2 => ?_⟩
    refine ⟨_, rfl, w, n + 550 + 14, rfl, E2.wl, by omega, fun v2 d2 X3 p2 r2 E3 => ?_⟩
    refine ⟨_, rfl, _, rfl, _, rfl, (by show 6 ≤ sizeLine; decide), fun q hq => ?_⟩
    have A3 : Dn w (n + 700) H X3 := (B8.trans (E1.trans (E2.trans E3))).mono (by omega)
    generalize hH_ : upd X3 q _ = HF
    have xF : Evl.Ex X3 HF := (by rw [← hH_]; exact Evl.Ex.new hq)
    have gF := (congrFun hH_ q).symm
    rw [upd_same] at gF
    clear hH_
    have up : ∀ {Hi Hj : Hp} {a c : Nat}, Dn w a H Hi → Dn w c Hj X3 → Evl.Ex (nw Hi Hj) (nw H HF) := fun d1 d3 => (nw_later d1).trans (nw_dn wl (d3.ex xF))
    have on : Evl.Ex (nw H H8) (nw H HF) := nw_dn wl ((E1.trans (E2.trans E3)).ex xF)
    exact k q v0 v1 v2 (.ref ad4) _ ("passed" : Str) d0 d1 d2 [PyData.tuple ls, l1'] cs HF ⟨p0, p1, p2, gt, lc, mc⟩ (A3.free hq) gF (Dr.ex (up B8 (E2.trans E3)) _ _ r0) (Dr.ex (up (B8.trans E1) E3) _ _ r1) (Dr.ex (up (B8.trans (E1.trans E2)) ⟨E3.wl, Wk.refl _ _⟩) _ _ r2) (Dr.ex on _ _ r48) (Dr.ex on _ _ r5) (A3.ex xF)
  · refine ⟨_, rfl, rfl, _, rfl, iteF' (decide_eq_false fun h => pp (by injection h)) ?_⟩
    have r5 : Dr K (nw H H6) (.ref e0) (.tuple []) := .tup (SqT.of (nw_of (B5.free he0) g6)) .nil
    have lc : ([] : List PyData).length = if wd = "passed" then (itemsD (ds.getD 0 .none)).length else 0 := by rw [if_neg pp]; rfl
    have mc : ∀ c ∈ ([] : List PyData), GMark c := fun _ z => nomatch z
    have B6' : Dn w (n + 501) H H6 := B6.mono (by omega)
    first | refine nrmG (σ' := [_, _, _, _, _, _]) rfl ?_ | refine nrm (σ' := [_, _, _, _, _, _]) rfl ?_
    refine ⟨_, rfl, w, n + 501, rfl, B6'.wl, by omega, fun v0 d0 X1 p0 r0 E1 => ?_⟩
    refine ⟨_, rfl, w, n + 501 + 10, rfl, E1.wl, by omega, fun v1 d1 X2 p1 r1 E2 => ?_⟩
    refine ⟨_, rfl, w, n + 501 + 14, rfl, E2.wl, by omega, fun v2 d2 X3 p2 r2 E3 => ?_⟩
    refine ⟨_, rfl, _, rfl, _, rfl, (by show 6 ≤ sizeLine; decide), fun q hq => ?_⟩
    have A3 : Dn w (n + 700) H X3 := (B6'.trans (E1.trans (E2.trans E3))).mono (by omega)
    generalize hH_ : upd X3 q _ = HF
    have xF : Evl.Ex X3 HF := (by rw [← hH_]; exact Evl.Ex.new hq)
    have gF := (congrFun hH_ q).symm
    rw [upd_same] at gF
    clear hH_
    have up : ∀ {Hi Hj : Hp} {a c : Nat}, Dn w a H Hi → Dn w c Hj X3 → Evl.Ex (nw Hi Hj) (nw H HF) := fun d1 d3 => (nw_later d1).trans (nw_dn wl (d3.ex xF))
    have on : Evl.Ex (nw H H6) (nw H HF) := nw_dn wl ((E1.trans (E2.trans E3)).ex xF)
    exact k q v0 v1 v2 v4 _ wd d0 d1 d2 ds [] HF ⟨p0, p1, p2, gt, lc, mc⟩ (A3.free hq) gF (Dr.ex (up B6' (E2.trans E3)) _ _ r0) (Dr.ex (up (B6'.trans E1) E3) _ _ r1) (Dr.ex (up (B6'.trans (E1.trans E2)) ⟨E3.wl, Wk.refl _ _⟩) _ _ r2) (Dr.ex on _ _ r46) (Dr.ex on _ _ r5) (A3.ex xF)


end
end Lw

namespace Lw
open PySem PySem.Spec PyProof.Rows L2 TP
section
variable {P : Program} {w : World} {K : PySem.W.Frag} {mg : Str → Option Value} {base : Heap}

theorem ok_law_refused (T : TX w K mg) : Gt P w K mg base CX0 12 "_law_refused" ["_law_parts"] (spRefused24 K) := by
  refine gt_mk (D_law_refused T) (g_law_refused T) sc_law_refused rfl (fun _ _ _ _ _ _ us hl => match us, hl with | [_], _ => rfl) (fun vs H Q E h => ?_) (fun f cdv A outer s H vs Q E hr h => ?_)
  · obtain ⟨p, u0, u1, u2, u3, u4, u5, d0, d1, d2, d3, d4, d5, rfl, _⟩ := h
    rfl
  obtain ⟨p, u0, u1, u2, u3, u4, u5, d0, d1, d2, d3, d4, d5, rfl, hp, da, t0, t4, t5, ow, k⟩ := h
  cases da with
  | cons r0 da => cases da with
  | cons r1 da => cases da with
  | cons r2 da => cases da with
  | cons r3 da => cases da with
  | cons r4 da => cases da with
  | cons r5 da =>
  refine ⟨_, (pss_cons (ps_asg (pv 0) (pg_unl (by rfl) (pgs_cons (pg_name (i := 1) sc_law_refused.nd rfl (by first | exact Or.inl rfl | exact Or.inr rfl)) (pgs_cons (pg_name (i := 2) sc_law_refused.nd rfl (by first | exact Or.inl rfl | exact Or.inr rfl)) (pgs_cons (pg_name (i := 3) sc_law_refused.nd rfl (by first | exact Or.inl rfl | exact Or.inr rfl)) (pgs_cons (pg_name (i := 4) sc_law_refused.nd rfl (by first | exact Or.inl rfl | exact Or.inr rfl)) (pgs_cons (pg_name (i := 5) sc_law_refused.nd rfl (by first | exact Or.inl rfl | exact Or.inr rfl)) (pgs_cons (pg_name (i := 6) sc_law_refused.nd rfl (by first | exact Or.inl rfl | exact Or.inr rfl)) pgs_nil))))))))
    (pss_cons (ps_try_as1 (i := 7) rfl rfl sc_law_refused.nd rfl rfl ⟨rfl, by decide, .inl (g_NoScan T)⟩ (fun W pn xe tk pw => (pss_one (ps_expr (GtF.makeKSL K (ok_Scan_init T) kb_Scan_init_6_causes (mk_Scan T) (g_Scan T) (hr.mono (by decide)) (fun σ => passAt tk σ) (pa_cons (pv 1) (pa_cons (pv 2) (pa_cons (pv 3) (pa_cons (pv 4) (pa_cons (pv 5) pa_nil))))) (pk_cons (pv 6) pk_nil)))))
      (fun a_ oe_ cls_ d_ pn_ hz_ hf_ => (pss_cons (ps_if (PW.pt (pw_or (pt_val (pe_callB (call_isCT hz_ hf_) (by rfl) (f_isinstance T) (by decide +kernel) (pa_cons (pv 7) (pa_cons (pe_tup (pa_cons (pe_gref (g_Clash T)) (pa_cons (pe_gref (g_NoDeed T)) (pa_cons (pe_gref (g_NoText T)) pa_nil)))) pa_nil)))) (pw_or1 (pt_not (pt_val (pe_callB (call_isC hz_ hf_) (by rfl) (f_isinstance T) (by decide +kernel) (pa_cons (pv 7) (pa_cons (pe_gty (n := "ValueError") (f_ValueError T) (by decide +kernel)) pa_nil))))))))
      (pss_one (ps_ret pe_str))
      pss_nil)
    (pss_one (ps_ret (pe_xf (TP.ExcC.xf (xc_NoScan T)) (nf_NoScan_why T) hz_ hf_ (pv 7)))))))
    (pss_one (ps_ret pe_str)))), ?_⟩
  refine ⟨_, rfl, p, _, rfl, SqL.of hp, rfl, _, _, rfl, _, _, rfl, _, _, rfl, _, _, rfl, _, _, rfl, _, _, rfl, rfl, ?_⟩
  first | refine nrmG (σ' := [_, _, _, _, _, _, _, _]) rfl ?_ | refine nrm (σ' := [_, _, _, _, _, _, _, _]) rfl ?_
  refine ⟨_, rfl, _, rfl, _, rfl, _, rfl, _, rfl, _, rfl, rfl, rfl, fun x dx hx hdx ne => ?_⟩
  obtain ⟨H0, hH0⟩ : ∃ H0, H0 = upd (upd H dx (.own x)) x (.ins (He.ga K "Scan") dx []) := ⟨_, rfl⟩
  rw [← hH0]
  have e0 : Evl.Ex H H0 := fun b o hb => by
    rw [hH0, upd_ne (ne_of_none hb hx), upd_ne (ne_of_none hb hdx)]
    exact hb
  have x0 : H0 x = some (.ins (He.ga K "Scan") dx []) := by rw [hH0, upd_same]
  refine ⟨x, dx, _, _, _, _, _, _, d0, d1, d2, d3, d4, d5, rfl, x0, Dr.ex e0 _ _ r0, Dr.ex e0 _ _ r1, Dr.ex e0 _ _ r2, Dr.ex e0 _ _ r3, Dr.ex e0 _ _ r4, Dr.ex e0 _ _ r5, t0, t4, t5, fun w' hw' nw' => ?_, fun am H1 k1 g1 => ?_, fun z am d H1 e1 hd gd => ?_⟩
  · have q := nlk T
    rw [List.all_eq_true] at q
    have m := ow w' hw' nw'
    unfold oddWords at m
    simp only [List.mem_cons, List.not_mem_nil, or_false] at m
    rcases m with rfl | rfl | rfl | rfl
    · exact of_decide_eq_true (q "" (by simp))
    · exact of_decide_eq_true (q "Posted" (by simp))
    · exact of_decide_eq_true (q "lost" (by simp))
    · exact of_decide_eq_true (q "pass" (by simp))
  · refine ⟨rfl, ?_⟩
    have q := k H1 fun b o hb => k1 b o (ne_of_none hb hx) (e0 b o hb)
    rw [am] at q
    exact q
  · refine ⟨exmB2_ok (xt T) (x := "NoScan") (y := "NoScan") (by decide +kernel) (by decide +kernel), fun a' na => ?_⟩
    refine ⟨_, rfl, (by show 3 ≤ sizeLine; decide), fun tp htp => ?_⟩
    generalize hH_ : upd H1 tp _ = H2
    have x2 : Evl.Ex H1 H2 := (by rw [← hH_]; exact Evl.Ex.new htp)
    have g2 := (congrFun hH_ tp).symm
    rw [upd_same] at g2
    clear hH_
    have hd2 := x2 _ _ gd
    have kt' : ∀ y ∈ (["Clash", "NoDeed", "NoText"] : List String), PySem.W.kitOne K (.ref (eC K "NoScan")) (.ref (eC K (Str.ofString y))) = some (ktT "NoScan" (Str.ofString y)) := fun y hy => kitB2_ok (kt T) (by decide +kernel) (by
      have : ∀ y ∈ (["Clash", "NoDeed", "NoText"] : List String), Str.ofString y ∈ EB := by decide +kernel
      exact this y hy)
    refine ⟨_, d, tp, _, _, [_, _, _], false, rfl, rfl, rfl, hd2, g2, .cons (.own _) (.cons (.own _) (.cons (.own _) .nil)), xc_NoScan T, kitAny3 (kt' "Clash" (by simp)) (kt' "NoDeed" (by simp)) (kt' "NoText" (by simp)), _, rfl, iteF ?_⟩
    refine ⟨_, rfl, _, d, _, _, _, true, rfl, rfl, rfl, hd2, .ty "ValueError", xc_NoScan T, of_decide_eq_true (List.all_eq_true.mp (kv T) "NoScan" (by decide +kernel)), _, rfl, iteF ?_⟩
    have q := k H2 (e0.trans (e1.trans x2))
    rw [am] at q
    refine ⟨_, rfl, rfl, rfl, d, _, _, rfl, hd2, rfl, q⟩


end
end Lw

namespace TP
open PySem PySem.Spec PyProof.Rows L2
/-- found[:i] + made[i:i + 1] + found[i + 1:] -/
theorem cut_set {us ws : List V} {i : Nat} {v : V} (h : us.length = 6) (hw : ws.length = 6) (hi : i < 6) (hv : ws[i]? = some v) :
    cutV us none (some (i : Int)) ++ cutV ws (some (i : Int)) (some ((i : Int) + 1)) ++ cutV us (some ((i : Int) + 1)) none = us.set i v := by
  have e : ((i : Int) + 1) = ((i + 1 : Nat) : Int) := by omega
  have c2 : cutV ws (some (i : Int)) (some ((i : Int) + 1)) = [v] := by
    unfold cutV
    rw [e, HT.sIx_nat, HT.sIx_nat, hw, Nat.min_eq_left (by omega), Nat.min_eq_left (by omega), show i + 1 - i = 1 by omega]
    have l : i < ws.length := by omega
    rw [List.drop_eq_getElem_cons l]
    rw [List.getElem?_eq_getElem l] at hv
    rw [Option.some.inj hv]
    rfl
  rw [c2, cutV_take, e, cutV_drop, List.set_eq_take_append_cons_drop, if_pos (by omega)]
  simp
theorem whys_at : ∀ {m : Nat}, m < 6 → ([V.str "house", .str "number", .str "tick", .str "word", .str "things", .str "causes"] : List V)[m]? = some (.str (whysD.getD m ""))
  | 0, _ => rfl
  | 1, _ => rfl
  | 2, _ => rfl
  | 3, _ => rfl
  | 4, _ => rfl
  | 5, _ => rfl
end TP

namespace Lw
open PySem PySem.Spec PyProof.Rows L2 TP
section
variable {P : Program} {w : World} {K : PySem.W.Frag} {mg : Str → Option Value} {base : Heap}

theorem ok_law_other (T : TX w K mg) : Gt P w K mg base CX0 3 "_law_other" ["_law_source", "_law_part"] (spOther K) := by
  refine gt_mk (D_law_other T) (g_law_other T) sc_law_other rfl (fun _ _ _ _ _ _ us hl => match us, hl with | [_, _], _ => rfl) (fun vs H Q E h => ?_) (fun f cdv A outer s H vs Q E hr h => ?_)
  · obtain ⟨w, n, x, d, rfl, _⟩ := h
    rfl
  obtain ⟨w, n, x, d, rfl, hw, hn, hx, k⟩ := h
  refine ⟨_, (pss_cons (ps_set (i := 2) sc_law_other.nd rfl (by first | exact Or.inl rfl | exact Or.inr rfl) (pe_lst (pa_cons (pe_lst pa_nil) (pa_cons (pe_tup pa_nil) (pa_cons (pe_un un_neg pe_int) (pa_cons pe_str (pa_cons (pe_tup (pa_cons pe_str pa_nil)) (pa_cons (pe_tup (pa_cons pe_str (pa_cons (pe_un un_neg pe_int) pa_nil))) (pa_cons (pe_tup (pa_cons pe_str (pa_cons pe_int pa_nil))) (pa_cons (pe_tup (pa_cons pe_str (pa_cons pe_int (pa_cons pe_int pa_nil)))) (pa_cons (pe_lst (pa_cons pe_str (pa_cons pe_int pa_nil))) (pa_cons pe_dnewK (pa_cons (pe_tup (pa_cons pe_str (pa_cons pe_str pa_nil))) (pa_cons (pe_tup (pa_cons pe_int (pa_cons pe_str pa_nil))) pa_nil))))))))))))))
    (pss_cons (ps_if (PW.pt (pw_and (pt_not (pt_val (pe_callB call_isi (by rfl) (f_isinstance T) (by decide +kernel) (pa_cons (pv 1) (pa_cons (pe_gty (n := "bool") (f_bool T) (by decide +kernel)) pa_nil))))) (pw_and1 (pt_cmpR op_notN (pv 1) pe_non (nomark _)))))
      (pss_one (ps_set (i := 2) sc_law_other.nd rfl (by first | exact Or.inl rfl | exact Or.inr rfl) (pe_op op_cat (pv 2) (pe_op op_rep (pe_lst (pa_cons pe_bl pa_nil)) (pe_callTy call_int1 (by rfl) (f_int T) (by decide +kernel) (pa_cons (pe_not (pe_callB call_isi (by rfl) (f_isinstance T) (by decide +kernel) (pa_cons (pv 1) (pa_cons (pe_gty (n := "str") (f_str T) (by decide +kernel)) pa_nil)))) pa_nil))))))
      pss_nil)
    (pss_one (ps_ret ((ok_one T).pe (hr.mono (by decide)) (pa_cons (pv 0) (pa_cons (pv 2) pa_nil))))))), ?_⟩
  have hd := hx
  try unfold tNil
  refine ⟨(by show 0 ≤ sizeLine; decide), fun l1 hl1 => ?_⟩
  generalize hH_ : upd H l1 _ = H1
  have x1 : Evl.Ex H H1 := (by rw [← hH_]; exact Evl.Ex.new hl1)
  have g1 := (congrFun hH_ l1).symm
  rw [upd_same] at g1
  clear hH_
  refine ⟨(by show 0 ≤ sizeLine; decide), fun l2 hl2 => ?_⟩
  generalize hH_ : upd H1 l2 _ = H2
  have x2 : Evl.Ex H1 H2 := (by rw [← hH_]; exact Evl.Ex.new hl2)
  have g2 := (congrFun hH_ l2).symm
  rw [upd_same] at g2
  clear hH_
  refine ⟨_, rfl, ?_⟩
  refine ⟨(by show 1 ≤ sizeLine; decide), fun l3 hl3 => ?_⟩
  generalize hH_ : upd H2 l3 _ = H3
  have x3 : Evl.Ex H2 H3 := (by rw [← hH_]; exact Evl.Ex.new hl3)
  have g3 := (congrFun hH_ l3).symm
  rw [upd_same] at g3
  clear hH_
  refine ⟨_, rfl, ?_⟩
  refine ⟨(by show 2 ≤ sizeLine; decide), fun l4 hl4 => ?_⟩
  generalize hH_ : upd H3 l4 _ = H4
  have x4 : Evl.Ex H3 H4 := (by rw [← hH_]; exact Evl.Ex.new hl4)
  have g4 := (congrFun hH_ l4).symm
  rw [upd_same] at g4
  clear hH_
  refine ⟨(by show 2 ≤ sizeLine; decide), fun l5 hl5 => ?_⟩
  generalize hH_ : upd H4 l5 _ = H5
  have x5 : Evl.Ex H4 H5 := (by rw [← hH_]; exact Evl.Ex.new hl5)
  have g5 := (congrFun hH_ l5).symm
  rw [upd_same] at g5
  clear hH_
  refine ⟨(by show 3 ≤ sizeLine; decide), fun l6 hl6 => ?_⟩
  generalize hH_ : upd H5 l6 _ = H6
  have x6 : Evl.Ex H5 H6 := (by rw [← hH_]; exact Evl.Ex.new hl6)
  have g6 := (congrFun hH_ l6).symm
  rw [upd_same] at g6
  clear hH_
  refine ⟨(by show 2 ≤ sizeLine; decide), fun l7 hl7 => ?_⟩
  generalize hH_ : upd H6 l7 _ = H7
  have x7 : Evl.Ex H6 H7 := (by rw [← hH_]; exact Evl.Ex.new hl7)
  have g7 := (congrFun hH_ l7).symm
  rw [upd_same] at g7
  clear hH_
  refine fun l8 hl8 => ?_
  generalize hH_ : upd H7 l8 _ = H8
  have x8 : Evl.Ex H7 H8 := (by rw [← hH_]; exact Evl.Ex.new hl8)
  have g8 := (congrFun hH_ l8).symm
  rw [upd_same] at g8
  clear hH_
  refine ⟨(by show 2 ≤ sizeLine; decide), fun l9 hl9 => ?_⟩
  generalize hH_ : upd H8 l9 _ = H9
  have x9 : Evl.Ex H8 H9 := (by rw [← hH_]; exact Evl.Ex.new hl9)
  have g9 := (congrFun hH_ l9).symm
  rw [upd_same] at g9
  clear hH_
  refine ⟨(by show 2 ≤ sizeLine; decide), fun l10 hl10 => ?_⟩
  generalize hH_ : upd H9 l10 _ = H10
  have x10 : Evl.Ex H9 H10 := (by rw [← hH_]; exact Evl.Ex.new hl10)
  have g10 := (congrFun hH_ l10).symm
  rw [upd_same] at g10
  clear hH_
  refine ⟨(by show 12 ≤ sizeLine; decide), fun l11 hl11 => ?_⟩
  generalize hH_ : upd H10 l11 _ = H11
  have x11 : Evl.Ex H10 H11 := (by rw [← hH_]; exact Evl.Ex.new hl11)
  have g11 := (congrFun hH_ l11).symm
  rw [upd_same] at g11
  clear hH_
  have f1 := hl1
  have n1 := hw.nep hl1
  have p1 := x1
  have f2 := Ex.free p1 hl2
  have n2 := hw.nep f2
  have p2 := p1.trans x2
  have f3 := Ex.free p2 hl3
  have n3 := hw.nep f3
  have p3 := p2.trans x3
  have f4 := Ex.free p3 hl4
  have n4 := hw.nep f4
  have p4 := p3.trans x4
  have f5 := Ex.free p4 hl5
  have n5 := hw.nep f5
  have p5 := p4.trans x5
  have f6 := Ex.free p5 hl6
  have n6 := hw.nep f6
  have p6 := p5.trans x6
  have f7 := Ex.free p6 hl7
  have n7 := hw.nep f7
  have p7 := p6.trans x7
  have f8 := Ex.free p7 hl8
  have n8 := hw.nep f8
  have p8 := p7.trans x8
  have f9 := Ex.free p8 hl9
  have n9 := hw.nep f9
  have p9 := p8.trans x9
  have f10 := Ex.free p9 hl10
  have n10 := hw.nep f10
  have p10 := p9.trans x10
  have f11 := Ex.free p10 hl11
  have n11 := hw.nep f11
  have p11 := p10.trans x11
  have e10 := x11
  have e9 := x10.trans e10
  have e8 := x9.trans e9
  have e7 := x8.trans e8
  have e6 := x7.trans e7
  have e5 := x6.trans e6
  have e4 := x5.trans e5
  have e3 := x4.trans e4
  have e2 := x3.trans e3
  have e1 := x2.trans e2
  have s1 : Dr K (nw H H11) (.ref l1) (.list []) := .lst (SqL.of (nw_of f1 (e1 _ _ g1))) .nil
  have s2 : Dr K (nw H H11) (.ref l2) (.tuple []) := .tup (SqT.of (nw_of f2 (e2 _ _ g2))) .nil
  have s3 : Dr K (nw H H11) (.ref l3) (.tuple [pS "a"]) := .tup (SqT.of (nw_of f3 (e3 _ _ g3))) (.cons (.str _) .nil)
  have s4 : Dr K (nw H H11) (.ref l4) (.tuple [pS "a", pI (-1)]) := .tup (SqT.of (nw_of f4 (e4 _ _ g4))) (.cons (.str _) (.cons (.int _) .nil))
  have s5 : Dr K (nw H H11) (.ref l5) (.tuple [pS "A", pI 0]) := .tup (SqT.of (nw_of f5 (e5 _ _ g5))) (.cons (.str _) (.cons (.int _) .nil))
  have s6 : Dr K (nw H H11) (.ref l6) (.tuple [pS "a", pI 0, pI 0]) := .tup (SqT.of (nw_of f6 (e6 _ _ g6))) (.cons (.str _) (.cons (.int _) (.cons (.int _) .nil)))
  have s7 : Dr K (nw H H11) (.ref l7) (.list [pS "a", pI 0]) := .lst (SqL.of (nw_of f7 (e7 _ _ g7))) (.cons (.str _) (.cons (.int _) .nil))
  have s8 : Dr K (nw H H11) (.ref l8) (.dict []) := .dct (nw_of f8 (e8 _ _ g8)) .nil
  have s9 : Dr K (nw H H11) (.ref l9) (.tuple [pS "a", pS "0"]) := .tup (SqT.of (nw_of f9 (e9 _ _ g9))) (.cons (.str _) (.cons (.str _) .nil))
  have s10 : Dr K (nw H H11) (.ref l10) (.tuple [pI 0, pS "a"]) := .tup (SqT.of (nw_of f10 (e10 _ _ g10))) (.cons (.int _) (.cons (.str _) .nil))
  have sd : DrAll K (nw H H11) [.ref l1, .ref l2, .int (-1), .str "A b", .ref l3, .ref l4, .ref l5, .ref l6, .ref l7, .ref l8, .ref l9, .ref l10] othersD :=
    .cons s1 (.cons s2 (.cons (.int _) (.cons (.str _) (.cons s3 (.cons s4 (.cons s5 (.cons s6 (.cons s7 (.cons s8 (.cons s9 (.cons s10 .nil)))))))))))
  have nl : l11 ≠ w := n11
  generalize hVS : ([.ref l1, .ref l2, .int (-1), .str "A b", .ref l3, .ref l4, .ref l5, .ref l6, .ref l7, .ref l8, .ref l9, .ref l10] : List V) = VS at sd g11
  have VSl : VS.length = 12 := by rw [← hVS]; rfl
  have pick : ∀ v ∈ VS, ∃ e, e ∈ othersD ∧ Dr K (nw H H11) v e := fun v hv => by
    obtain ⟨i, hi⟩ := List.mem_iff_getElem?.mp hv
    obtain ⟨e, he, q⟩ := DrAll.at sd hi
    exact ⟨e, List.mem_of_getElem? he, q⟩
  have hd' := Dr.ex p11 _ _ hd
  have hw' := hw.ex p11
  clear s1 s2 s3 s4 s5 s6 s7 s8 s9 s10 sd hVS n1 n2 n3 n4 n5 n6 n7 n8 n9 n10 n11 e1 e2 e3 e4 e5 e6 e7 e8 e9 e10 g1 g2 g3 g4 g5 g6 g7 g8 g9 g10 hd
  first | refine nrmG (σ' := [_, _, _]) rfl ?_ | refine nrm (σ' := [_, _, _]) rfl ?_
  refine ⟨_, rfl, x, _, _, _, _, rfl, .ty "bool", hd'.ty, kit_thing d, _, rfl, ?_⟩
  have isb : (!decide (tyN d = "bool")) = true → isBoolD d = false := fun z => by
    cases d <;> first | rfl | (cases z; done)
  have fin : ∀ (v : V) (H' : Hp), v ∈ VS → Dn w (n + 1) H11 H' → Q v H' := fun v H' hv dn => by
    obtain ⟨e, he, q⟩ := pick v hv
    exact k v e H' (.inl he) (Dr.ex (nw_dn hw dn) _ _ q) ⟨dn.wl, fun b o nb hb => dn.k b o nb (p11 b o hb)⟩
  refine ite2 (fun z => ?_) (fun z => iteF' (by simpa using z) ?_)
  · refine ⟨_, rfl, rfl, _, rfl, ite2 (fun z2 => ?_) (fun z2 => ?_)⟩
    · refine ⟨_, rfl, (by show 1 ≤ sizeLine; decide), fun lt hlt => ?_⟩
      generalize hH_ : upd H11 lt _ = H12
      have x12 : Evl.Ex H11 H12 := (by rw [← hH_]; exact Evl.Ex.new hlt)
      have g12 := (congrFun hH_ lt).symm
      rw [upd_same] at g12
      clear hH_
      refine ⟨_, rfl, x, _, _, _, _, rfl, .ty "str", (Dr.ex x12 _ _ hd').ty, kit_thing d, ?_⟩
      refine ⟨_, rfl, .inr ⟨_, rfl, ?_⟩⟩
      obtain ⟨kk, hkk, k01⟩ : ∃ kk : Int, kk = (if (!decide (tyN d = "str")) = true then (1 : Int) else 0) ∧ (kk = 0 ∨ kk = 1) := by
        refine ⟨_, rfl, ?_⟩
        split
        · exact .inr rfl
        · exact .inl rfl
      rw [← hkk]
      have k3 : kk.toNat ≤ 1 := by omega
      refine ⟨lt, _, _, rfl, rfl, g12, by omega, by omega, (by show 1 * kk.toNat ≤ sizeLine; exact Nat.le_trans (by omega) (show 1 ≤ sizeLine by decide)), fun lr hlr => ?_⟩
      rw [List.flatten_replicate_singleton]
      generalize hH_ : upd H12 lr _ = H13
      have x13 : Evl.Ex H12 H13 := (by rw [← hH_]; exact Evl.Ex.new hlr)
      have g13 := (congrFun hH_ lr).symm
      rw [upd_same] at g13
      clear hH_
      have e23 := x12.trans x13
      refine ⟨l11, lr, VS, _, rfl, rfl, e23 _ _ g11, g13, (by rw [VSl, List.length_replicate]; exact Nat.le_trans (show 12 + kk.toNat ≤ 13 by omega) (show 13 ≤ sizeLine by decide)), fun lz hlz => ?_⟩
      generalize hH_ : upd H13 lz _ = H14
      have x14 : Evl.Ex H13 H14 := (by rw [← hH_]; exact Evl.Ex.new hlz)
      have g14 := (congrFun hH_ lz).symm
      rw [upd_same] at g14
      clear hH_
      have e24 := e23.trans x14
      have nz : lz ≠ w := hw'.nep (Ex.free e23 hlz)
      refine ⟨_, rfl, _, rfl, w, lz, n, _, rfl, hw'.ex e24, by omega, SqL.of g14, nz, (by rw [List.length_append, VSl]; omega), (by rw [List.length_append, VSl, List.length_replicate]; omega), fun v H' hv dn => ?_⟩
      have dn' : Dn w (n + 1) H11 H' := ⟨dn.wl, fun b o nb hb => dn.k b o nb (e24 b o hb)⟩
      rcases List.mem_append.mp hv with hv | hv
      · exact fin v H' hv dn'
      · rw [List.eq_of_mem_replicate hv]
        exact k _ _ H' (.inr ⟨rfl, isb z⟩) (.bl true) ⟨dn'.wl, fun b o nb hb => dn'.k b o nb (p11 b o hb)⟩
    · refine ⟨_, rfl, _, rfl, w, l11, n, VS, rfl, hw', by omega, SqL.of g11, nl, by rw [VSl]; decide, by rw [VSl]; decide, fin⟩
  · refine ⟨_, rfl, _, rfl, w, l11, n, VS, rfl, hw', by omega, SqL.of g11, nl, by rw [VSl]; decide, by rw [VSl]; decide, fin⟩

theorem ok_law_odd_loads (T : TX w K mg) : Gt P w K mg base CX0 4 "_law_odd_loads" ["_law_source", "_law_loads_here"] (spOddLoads K) := by
  refine gt_mk (D_law_odd_loads T) (g_law_odd_loads T) sc_law_odd_loads rfl (fun _ _ _ _ _ _ us hl => match us, hl with | [_, _], _ => rfl) (fun vs H Q E h => ?_) (fun f cdv A outer s H vs Q E hr h => ?_)
  · obtain ⟨w, a, b', n, m, ls, rfl, _⟩ := h
    rfl
  obtain ⟨w, a, b', n, m, ls, rfl, hw, hb, hn, gl, hx, k⟩ := h
  obtain ⟨a', xs, ea, st, da⟩ := hx.tupI
  injection ea with ea
  subst ea
  have ln := da.len
  obtain ⟨_, ee, l3, _, _, gg, _⟩ := id gl
  injection ee with ee
  subst ee
  have sz : ∀ {p : Nat}, p ≤ 20 → p ≤ sizeLine := fun h => Nat.le_trans h (show 20 ≤ sizeLine by decide)
  refine ⟨_, (C8.pss_cut (ps_if (PW.pt (pw_and (pt_cmpR op_gt (pe_callB call_len_seq (by rfl) (f_len T) (by decide +kernel) (pa_cons (pv 1) pa_nil)) pe_int (nomark _)) (pw_and1 (pt_cmpR op_eq ((ok_draw T).pe (hr.mono (by decide)) (pa_cons (pv 0) (pa_cons pe_int pa_nil))) pe_int (nomark _)))))
      (pss_one (ps_ret ((ok_one T).pe (hr.mono (by decide)) (pa_cons (pv 0) (pa_cons (pe_lst (pa_cons (pe_revT (pv 1)) (pa_cons (pe_op op_catA (pv 1) (pe_slice sl_tupA (pv 1) (po_some (pe_un un_neg pe_int)) po_none)) pa_nil))) pa_nil)))))
      pss_nil)
    (pss_cons (ps_if (pt_cmpR (op_neR (sysK T) hr.units) (pv 1) (pe_tup pa_nil) (nomark _))
      (pss_cons (ps_asg (pe_ix ix_tup (pv 1) pe_int (fun _ _ => rfl)) (pg_tup (by rfl) (pgs_cons (pg_name (i := 2) sc_law_odd_loads.nd rfl (by first | exact Or.inl rfl | exact Or.inr rfl)) (pgs_cons (pg_name (i := 3) sc_law_odd_loads.nd rfl (by first | exact Or.inl rfl | exact Or.inr rfl)) (pgs_cons (pg_name (i := 4) sc_law_odd_loads.nd rfl (by first | exact Or.inl rfl | exact Or.inr rfl)) pgs_nil)))))
    (pss_cons (ps_set (i := 5) sc_law_odd_loads.nd rfl (by first | exact Or.inl rfl | exact Or.inr rfl) (pe_lst (pa_cons (pe_tup (pa_cons (pe_un un_neg pe_int) (pa_cons (pv 3) (pa_cons (pv 4) pa_nil)))) (pa_cons (pe_tup (pa_cons (pv 2) (pa_cons pe_bl (pa_cons (pv 4) pa_nil)))) (pa_cons (pe_tup (pa_cons (pv 2) (pa_cons (pv 3) (pa_cons (pe_tup pa_nil) pa_nil)))) (pa_cons (pe_tup (pa_cons (pv 2) (pa_cons (pv 3) (pa_cons (pe_op op_catA (pv 4) (pe_slice sl_tupA (pv 4) (po_some (pe_un un_neg pe_int)) po_none)) pa_nil)))) pa_nil))))))
    (pss_cons (ps_set (i := 5) sc_law_odd_loads.nd rfl (by first | exact Or.inl rfl | exact Or.inr rfl) (pe_op op_cat (pv 5) (pe_lst (pa_cons (pe_tup (pa_cons (pv 2) (pa_cons (pv 3) pa_nil))) (pa_cons (pe_tup (pa_cons (pv 2) (pa_cons (pv 3) (pa_cons (pe_callTy call_list_of (by rfl) (f_list T) (by decide +kernel) (pa_cons (pv 4) pa_nil)) pa_nil)))) (pa_cons (pe_lst (pa_cons (pv 2) (pa_cons (pv 3) (pa_cons (pv 4) pa_nil)))) pa_nil))))))
    (pss_one (ps_ret (pe_op op_catA (pe_tup (pa_cons ((ok_one T).pe (hr.mono (by decide)) (pa_cons (pv 0) (pa_cons (pv 5) pa_nil))) pa_nil)) (pe_slice sl_tupA (pv 1) (po_some pe_int) po_none)))))))
      pss_nil)
    (pss_one (ps_ret ((ok_one T).pe (hr.mono (by decide)) (pa_cons (pv 0) (pa_cons (pe_lst (pa_cons (pe_lst pa_nil) (pa_cons pe_non (pa_cons (pe_tup pa_nil) (pa_cons (pe_tup (pa_cons (pe_tup (pa_cons pe_int (pa_cons pe_int (pa_cons (pe_tup pa_nil) pa_nil)))) pa_nil)) (pa_cons pe_int pa_nil)))))) pa_nil))))))), ?_⟩
  refine ⟨fun σ H' => σ = [some (.ref w), some (.ref a), none, none, none, none] ∧ Dn w (n + 1) H H', ?_, ?_⟩
  · refine ⟨_, rfl, _, xs, rfl, .inr (sqt_ex st hd2_ex), _, _, rfl, rfl, _, rfl, ite2 (fun z => ?_) (fun z => iteF' (by simpa using z) ⟨rfl, hw.mono (Nat.le_succ _), Wk.refl _ _⟩)⟩
    have z : 1 < ls.length := by have := of_decide_eq_true z; omega
    refine ⟨_, rfl, w, n, 2, rfl, hw, by omega, by decide, by decide +kernel, fun d H1 d0 d1 D1 => ⟨rfl, _, rfl, ite2 (fun z2 => ?_) (fun z2 => ⟨rfl, D1⟩)⟩⟩
    have st1 := sqt_ex st D1.hd2
    have da1 := DrAll.ex D1.hd2 _ _ da
    have hb1 := D1.live hb
    have wx : ∀ {HX : Hp}, Evl.Ex H1 HX → (∃ o, HX w = some o) ∧ Live b' HX := fun e => ⟨(D1.wl.ex e).some, live_ex hb1 e⟩
    refine ⟨_, rfl, _, rfl, a, xs, rfl, sqt_ex st1 hd2_ex, fun p1 hp1 => ?_⟩
    generalize hH_ : upd H1 p1 _ = H2
    have x2 : Evl.Ex H1 H2 := (by rw [← hH_]; exact Evl.Ex.new hp1)
    have g2 := (congrFun hH_ p1).symm
    rw [upd_same] at g2
    clear hH_
    have np1 : p1 ≠ w ∧ p1 ∉ b' := ⟨D1.wl.nep hp1, live_ne hb1 hp1⟩
    have st2 := sqt_ex st1 (Ex.hd2 x2)
    try unfold tNoPart tNil
    refine ⟨_, rfl, _, rfl, _, rfl, _, rfl, slA_hd2 (wx x2) st2 fun r3 H3 e3 q3 => ?_⟩
    rw [cutV_last] at q3
    refine catA_hd2 (wx (x2.trans e3)) (sqt_ex st2 (Ex.hd2 e3)) q3 (by rw [List.length_drop]; omega) fun r4 H4 e4 q4 => ⟨(by show 2 ≤ sizeLine; decide), fun l5 hl5 => ?_⟩
    generalize hH_ : upd H4 l5 _ = H5
    have x5 : Evl.Ex H4 H5 := (by rw [← hH_]; exact Evl.Ex.new hl5)
    have g5 := (congrFun hH_ l5).symm
    rw [upd_same] at g5
    clear hH_
    have e14 := (x2.trans e3).trans e4
    have e15 := e14.trans x5
    have n5 : l5 ≠ w := (D1.wl.ex e14).nep hl5
    refine ⟨w, l5, n + 1, _, rfl, D1.wl.ex e15, by omega, SqL.of g5, n5, (by show 0 < 2; decide), (by show 2 ≤ 1000000; decide), fun v H6 hv D6 => ?_⟩
    have D06 : Dn w (n + 2) H H6 := (D1.exr e15).trans D6
    have lay1 : ∀ d ∈ ls, Lay 3 d := fun d hd => .ok (gg d hd).ok
    have da6 := DrAll.ex ((Ex.hd2 e15).trans D6.hd2) _ _ da1
    simp only [List.mem_cons, List.not_mem_nil, or_false] at hv
    rcases hv with rfl | rfl
    · exact k _ (.tuple ls.reverse) H6 (.inr (loads_rev gl z)) ((Lay.tup (k := 3) (fun d hd => lay1 d (List.mem_reverse.mp hd)) (by rw [List.length_reverse]; omega)).mono (by decide)) (.tup (SqT.of (D6.hd2 _ _ (hd2_of ((e3.trans (e4.trans x5)) _ _ g2) np1))) (DrAll.rev da6)) D06
    · obtain ⟨ys, y, ely⟩ := last_app (ls := ls) (by rintro rfl; cases z)
      have dl : ls ++ ls.drop (xs.length - 1) = ys ++ [y] ++ [y] := by
        rw [ln, ely, List.length_append, List.length_cons, List.length_nil, Nat.zero_add, Nat.add_sub_cancel, List.drop_left]
      refine k _ (.tuple (ls ++ ls.drop (xs.length - 1))) H6 (.inr (by rw [dl]; exact loads_dup (by rw [← ely]; exact gl))) ((Lay.tup (k := 3) (fun d hd => ?_) (by rw [List.length_append, List.length_drop]; omega)).mono (by decide)) (.tup (sqt_ex q4 ((Ex.hd2 x5).trans D6.hd2)) (DrAll.app da6 (DrAll.drop _ da6))) D06
      rcases List.mem_append.mp hd with hd | hd
      · exact lay1 d hd
      · exact lay1 d (List.mem_of_mem_drop hd)
  rintro σ H1 ⟨rfl, D1⟩
  clear hx
  first | refine nrmG (σ' := [_, _, _, _, _, _]) rfl ?_ | refine nrm (σ' := [_, _, _, _, _, _]) rfl ?_
  refine ⟨_, rfl, (by show 0 ≤ sizeLine; decide), fun t ht => ?_⟩
  generalize hH_ : upd H1 t _ = H2
  have x2 : Evl.Ex H1 H2 := (by rw [← hH_]; exact Evl.Ex.new ht)
  have g2 := (congrFun hH_ t).symm
  rw [upd_same] at g2
  clear hH_
  have D2 := D1.exr x2
  have hb2 := D2.live hb
  have st2 := sqt_ex st D2.hd2
  have da2 := DrAll.ex D2.hd2 _ _ da
  have layL : Lay 4 (.tuple ls) := Lay.tup (k := 3) (fun d hd => .ok (gg d hd).ok) (by omega)
  refine ⟨_, _, .tup (sqt_ex st2 hd2_ex) (DrAll.ex hd2_ex _ _ da2), .tup (SqT.of g2) .nil, layL.l, rfl, Nat.le_trans layL.d (by decide), _, rfl, ?_⟩
  rcases ls with _ | ⟨l0, rest⟩
  · refine iteF' (by rfl) ?_
    try unfold tNil
    refine ⟨_, rfl, (by show 0 ≤ sizeLine; decide), fun p1 h1 => ?_⟩
    generalize hH_ : upd H2 p1 _ = H3
    have x3 : Evl.Ex H2 H3 := (by rw [← hH_]; exact Evl.Ex.new h1)
    have g3 := (congrFun hH_ p1).symm
    rw [upd_same] at g3
    clear hH_
    refine ⟨(by show 0 ≤ sizeLine; decide), fun p2 h2 => ?_⟩
    generalize hH_ : upd H3 p2 _ = H4
    have x4 : Evl.Ex H3 H4 := (by rw [← hH_]; exact Evl.Ex.new h2)
    have g4 := (congrFun hH_ p2).symm
    rw [upd_same] at g4
    clear hH_
    refine ⟨(by show 0 ≤ sizeLine; decide), fun p3 h3 => ?_⟩
    generalize hH_ : upd H4 p3 _ = H5
    have x5 : Evl.Ex H4 H5 := (by rw [← hH_]; exact Evl.Ex.new h3)
    have g5 := (congrFun hH_ p3).symm
    rw [upd_same] at g5
    clear hH_
    refine ⟨(by show 3 ≤ sizeLine; decide), fun p4 h4 => ?_⟩
    generalize hH_ : upd H5 p4 _ = H6
    have x6 : Evl.Ex H5 H6 := (by rw [← hH_]; exact Evl.Ex.new h4)
    have g6 := (congrFun hH_ p4).symm
    rw [upd_same] at g6
    clear hH_
    refine ⟨(by show 1 ≤ sizeLine; decide), fun p5 h5 => ?_⟩
    generalize hH_ : upd H6 p5 _ = H7
    have x7 : Evl.Ex H6 H7 := (by rw [← hH_]; exact Evl.Ex.new h5)
    have g7 := (congrFun hH_ p5).symm
    rw [upd_same] at g7
    clear hH_
    refine ⟨(by show 5 ≤ sizeLine; decide), fun p6 h6 => ?_⟩
    generalize hH_ : upd H7 p6 _ = H8
    have x8 : Evl.Ex H7 H8 := (by rw [← hH_]; exact Evl.Ex.new h6)
    have g8 := (congrFun hH_ p6).symm
    rw [upd_same] at g8
    clear hH_
    have E3 := x4.trans (x5.trans (x6.trans (x7.trans x8)))
    have E4 := x5.trans (x6.trans (x7.trans x8))
    have E5 := x6.trans (x7.trans x8)
    have E6 := x7.trans x8
    have e28 := x3.trans E3
    have nw : ∀ {HX : Hp} {p : Addr}, Evl.Ex H2 HX → HX p = none → p ≠ w ∧ p ∉ b' := fun e hp => ⟨(D2.wl.ex e).nep hp, live_ne (live_ex hb2 e) hp⟩
    have n1 : p1 ≠ w ∧ p1 ∉ b' := nw (Evl.Ex.refl _) h1
    have n2 : p2 ≠ w ∧ p2 ∉ b' := nw x3 h2
    have n3 : p3 ≠ w ∧ p3 ∉ b' := nw (x3.trans x4) h3
    have n4 : p4 ≠ w ∧ p4 ∉ b' := nw (x3.trans (x4.trans x5)) h4
    have n5 : p5 ≠ w ∧ p5 ∉ b' := nw (x3.trans (x4.trans (x5.trans x6))) h5
    have n6 : p6 ≠ w ∧ p6 ∉ b' := nw (x3.trans (x4.trans (x5.trans (x6.trans x7)))) h6
    have bad : ∀ v ∈ [V.ref p1, .non, .ref p2, .ref p5, .int 0], ∃ e, (e = .tuple [] ∨ areLoadsD e = false) ∧ Lay 9 e ∧ Dr K (hd2 w b' H8) v e := fun v hv => by
      simp only [List.mem_cons, List.not_mem_nil, or_false] at hv
      rcases hv with rfl | rfl | rfl | rfl | rfl
      · exact ⟨.list [], .inr rfl, (Lay.lst (k := 1) (by simp) (by simp)).mono (by decide), .lst (SqL.of (hd2_of (E3 _ _ g3) n1)) .nil⟩
      · exact ⟨.none, .inr rfl, Lay.non.mono (by decide), .non⟩
      · exact ⟨.tuple [], .inl rfl, (Lay.tup (k := 1) (by simp) (by simp)).mono (by decide), .tup (SqT.of (hd2_of (E4 _ _ g4) n2)) .nil⟩
      · refine ⟨.tuple [.tuple [.int 0, .int 0, .tuple []]], .inr rfl, (Lay.tup (k := 3) (fun d hd => ?_) (by simp)).mono (by decide), .tup (SqT.of (hd2_of (x8 _ _ g7) n5)) (.cons (.tup (SqT.of (hd2_of (E6 _ _ g6) n4)) (.cons (.int _) (.cons (.int _) (.cons (.tup (SqT.of (hd2_of (E5 _ _ g5) n3)) .nil) .nil)))) .nil)⟩
        simp only [List.mem_cons, List.not_mem_nil, or_false] at hd
        rw [hd]
        refine Lay.tup (k := 2) (fun d hd => ?_) (by simp)
        simp only [List.mem_cons, List.not_mem_nil, or_false] at hd
        rcases hd with rfl | rfl | rfl
        · exact (Lay.int 0).mono (by decide)
        · exact (Lay.int 0).mono (by decide)
        · exact (Lay.tup (k := 1) (by simp) (by simp)).mono (by decide)
      · exact ⟨.int 0, .inr rfl, (Lay.int 0).mono (by decide), .int 0⟩
    refine ⟨w, p6, n + 1, _, rfl, D2.wl.ex e28, by omega, SqL.of g8, n6.1, (by show 0 < 5; decide), (by show 5 ≤ 1000000; decide), fun v H9 hv D9 => ?_⟩
    obtain ⟨e, be, le, de⟩ := bad v hv
    exact k v e H9 be le (Dr.ex D9.hd2 _ _ de) ((D2.exr e28).trans D9)
  refine iteT' (by rfl) ?_
  obtain ⟨r, l, b, rfl, r0, r4, l0', l10, gb⟩ := gg l0 List.mem_cons_self
  obtain ⟨bs, rfl, b1, b3, bm, br⟩ := id gb
  cases da2 with
  | cons q0 qr =>
  rename_i v0 vr
  obtain ⟨a0, ys0, rfl, st0, da0⟩ := q0.tupI
  cases da0 with
  | cons y1 da0 => cases da0 with
  | cons y2 da0 => cases da0 with
  | cons y3 da0 =>
  cases da0
  cases y1
  cases y2
  obtain ⟨ab, bvs, rfl, stb, dab⟩ := y3.tupI
  refine ⟨_, rfl, a, _, 0, .ref a0, rfl, rfl, sqt_ex st2 hd2_ex, atI_nat (j := 0) rfl, ?_⟩
  refine ⟨a0, _, rfl, sqt_ex st0 hd2_ex, rfl, _, _, rfl, _, _, rfl, _, _, rfl, rfl, ?_⟩
  first | refine nrmG (σ' := [_, _, _, _, _, _]) rfl ?_ | refine nrm (σ' := [_, _, _, _, _, _]) rfl ?_
  have wx : ∀ {HX : Hp}, Evl.Ex H2 HX → (∃ o, HX w = some o) ∧ Live b' HX := fun e => ⟨(D2.wl.ex e).some, live_ex hb2 e⟩
  try unfold tNil
  try unfold tNoPart
  refine ⟨_, rfl, _, rfl, _, rfl, (by show 3 ≤ sizeLine; decide), fun p1 h1 => ?_⟩
  generalize hH_ : upd H2 p1 _ = H3
  have x3 : Evl.Ex H2 H3 := (by rw [← hH_]; exact Evl.Ex.new h1)
  have g3 := (congrFun hH_ p1).symm
  rw [upd_same] at g3
  clear hH_
  refine ⟨_, rfl, _, rfl, (by show 3 ≤ sizeLine; decide), fun p2 h2 => ?_⟩
  generalize hH_ : upd H3 p2 _ = H4
  have x4 : Evl.Ex H3 H4 := (by rw [← hH_]; exact Evl.Ex.new h2)
  have g4 := (congrFun hH_ p2).symm
  rw [upd_same] at g4
  clear hH_
  refine ⟨_, rfl, _, rfl, (by show 0 ≤ sizeLine; decide), fun p3 h3 => ?_⟩
  generalize hH_ : upd H4 p3 _ = H5
  have x5 : Evl.Ex H4 H5 := (by rw [← hH_]; exact Evl.Ex.new h3)
  have g5 := (congrFun hH_ p3).symm
  rw [upd_same] at g5
  clear hH_
  refine ⟨(by show 3 ≤ sizeLine; decide), fun p4 h4 => ?_⟩
  generalize hH_ : upd H5 p4 _ = H6
  have x6 : Evl.Ex H5 H6 := (by rw [← hH_]; exact Evl.Ex.new h4)
  have g6 := (congrFun hH_ p4).symm
  rw [upd_same] at g6
  clear hH_
  have e26 := x3.trans (x4.trans (x5.trans x6))
  have stb6 := sqt_ex stb (Ex.hd2 e26)
  refine ⟨_, rfl, _, rfl, _, rfl, _, rfl, _, rfl, _, rfl, slA_hd2 (wx e26) stb6 fun r5 H7 x7 q7 => ?_⟩
  rw [cutV_last] at q7
  refine catA_hd2 (wx (e26.trans x7)) (sqt_ex stb6 (Ex.hd2 x7)) q7 (by rw [List.length_drop]; have := dab.len; omega) fun r6 H8 x8 q8 => ⟨(by show 3 ≤ sizeLine; decide), fun p7 h7 => ?_⟩
  generalize hH_ : upd H8 p7 _ = H9
  have x9 : Evl.Ex H8 H9 := (by rw [← hH_]; exact Evl.Ex.new h7)
  have g9 := (congrFun hH_ p7).symm
  rw [upd_same] at g9
  clear hH_
  refine ⟨(by show 4 ≤ sizeLine; decide), fun p8 h8 => ?_⟩
  generalize hH_ : upd H9 p8 _ = H10
  have x10 : Evl.Ex H9 H10 := (by rw [← hH_]; exact Evl.Ex.new h8)
  have g10 := (congrFun hH_ p8).symm
  rw [upd_same] at g10
  clear hH_
  first | refine nrmG (σ' := [_, _, _, _, _, _]) rfl ?_ | refine nrm (σ' := [_, _, _, _, _, _]) rfl ?_
  refine ⟨_, rfl, _, rfl, _, rfl, (by show 2 ≤ sizeLine; decide), fun p9 h9 => ?_⟩
  generalize hH_ : upd H10 p9 _ = H11
  have x11 : Evl.Ex H10 H11 := (by rw [← hH_]; exact Evl.Ex.new h9)
  have g11 := (congrFun hH_ p9).symm
  rw [upd_same] at g11
  clear hH_
  have e210 := e26.trans (x7.trans (x8.trans (x9.trans x10)))
  have e211 := e210.trans x11
  refine ⟨_, rfl, _, rfl, _, rfl, ab, bvs, rfl, .inr (sqt_ex (sqt_ex stb hd2_ex) e211), fun p10 h10 => ?_⟩
  generalize hH_ : upd H11 p10 _ = H12
  have x12 : Evl.Ex H11 H12 := (by rw [← hH_]; exact Evl.Ex.new h10)
  have g12 := (congrFun hH_ p10).symm
  rw [upd_same] at g12
  clear hH_
  refine ⟨(by show 3 ≤ sizeLine; decide), fun p11 h11 => ?_⟩
  generalize hH_ : upd H12 p11 _ = H13
  have x13 : Evl.Ex H12 H13 := (by rw [← hH_]; exact Evl.Ex.new h11)
  have g13 := (congrFun hH_ p11).symm
  rw [upd_same] at g13
  clear hH_
  refine ⟨_, rfl, _, rfl, _, rfl, (by show 3 ≤ sizeLine; decide), fun p12 h12 => ?_⟩
  generalize hH_ : upd H13 p12 _ = H14
  have x14 : Evl.Ex H13 H14 := (by rw [← hH_]; exact Evl.Ex.new h12)
  have g14 := (congrFun hH_ p12).symm
  rw [upd_same] at g14
  clear hH_
  refine ⟨(by show 3 ≤ sizeLine; decide), fun p13 h13 => ?_⟩
  generalize hH_ : upd H14 p13 _ = H15
  have x15 : Evl.Ex H14 H15 := (by rw [← hH_]; exact Evl.Ex.new h13)
  have g15 := (congrFun hH_ p13).symm
  rw [upd_same] at g15
  clear hH_
  have e10 := x11.trans (x12.trans (x13.trans (x14.trans x15)))
  refine ⟨p8, p13, _, _, rfl, rfl, e10 _ _ g10, g15, (by show 7 ≤ sizeLine; decide), fun p14 h14 => ?_⟩
  generalize hH_ : upd H15 p14 _ = H16
  have x16 : Evl.Ex H15 H16 := (by rw [← hH_]; exact Evl.Ex.new h14)
  have g16 := (congrFun hH_ p14).symm
  rw [upd_same] at g16
  clear hH_
  have e215 := e210.trans e10
  have e216 := e215.trans x16
  have nw : ∀ {HX : Hp} {p : Addr}, Evl.Ex H2 HX → HX p = none → p ≠ w ∧ p ∉ b' := fun e hp => ⟨(D2.wl.ex e).nep hp, live_ne (live_ex hb2 e) hp⟩
  have E3 := x4.trans (x5.trans (x6.trans (x7.trans (x8.trans (x9.trans (x10.trans (e10.trans x16)))))))
  have E4 := x5.trans (x6.trans (x7.trans (x8.trans (x9.trans (x10.trans (e10.trans x16))))))
  have E5 := x6.trans (x7.trans (x8.trans (x9.trans (x10.trans (e10.trans x16)))))
  have E6 := x7.trans (x8.trans (x9.trans (x10.trans (e10.trans x16))))
  have E8 := x9.trans (x10.trans (e10.trans x16))
  have E9 := x10.trans (e10.trans x16)
  have E11 := x12.trans (x13.trans (x14.trans (x15.trans x16)))
  have E12 := x13.trans (x14.trans (x15.trans x16))
  have E13 := x14.trans (x15.trans x16)
  have E14 := x15.trans x16
  have n1 : p1 ≠ w ∧ p1 ∉ b' := nw (Evl.Ex.refl _) h1
  have n2 : p2 ≠ w ∧ p2 ∉ b' := nw x3 h2
  have n3 : p3 ≠ w ∧ p3 ∉ b' := nw (x3.trans x4) h3
  have n4 : p4 ≠ w ∧ p4 ∉ b' := nw (x3.trans (x4.trans x5)) h4
  have n7 : p7 ≠ w ∧ p7 ∉ b' := nw (e26.trans (x7.trans x8)) h7
  have n9 : p9 ≠ w ∧ p9 ∉ b' := nw e210 h9
  have n10 : p10 ≠ w ∧ p10 ∉ b' := nw e211 h10
  have n11 : p11 ≠ w ∧ p11 ∉ b' := nw (e211.trans x12) h11
  have n12 : p12 ≠ w ∧ p12 ∉ b' := nw (e211.trans (x12.trans x13)) h12
  have n14 : p14 ≠ w ∧ p14 ∉ b' := nw e215 h14
  have layB : Lay 2 (.tuple bs) := .ok gb.ok
  have db : Dr K (hd2 w b' H16) (.ref ab) (.tuple bs) := .tup (sqt_ex stb (Ex.hd2 e216)) (DrAll.ex (Ex.hd2 e216) _ _ dab)
  have l2' : ∀ i : Int, Lay 2 (.int i) := fun i => (Lay.int i).mono (by decide)
  have bad : ∀ v ∈ [V.ref p1, .ref p2, .ref p4, .ref p7, .ref p9, .ref p11, .ref p12], ∃ e, isLoadD e = false ∧ Lay 8 e ∧ Dr K (hd2 w b' H16) v e := fun v hv => by
    simp only [List.mem_cons, List.not_mem_nil, or_false] at hv
    rcases hv with rfl | rfl | rfl | rfl | rfl | rfl | rfl
    · exact ⟨.tuple [.int (-1), .int l, .tuple bs], rfl, (Lay.tup (k := 2) (by simp [l2', layB]) (by simp)).mono (by decide), .tup (SqT.of (hd2_of (E3 _ _ g3) n1)) (.cons (.int _) (.cons (.int _) (.cons db .nil)))⟩
    · exact ⟨.tuple [.int r, .bool true, .tuple bs], by show (_ && (false && _)) = false; simp, (Lay.tup (k := 2) (by simp [l2', layB, (Lay.bl true).mono]) (by simp)).mono (by decide), .tup (SqT.of (hd2_of (E4 _ _ g4) n2)) (.cons (.int _) (.cons (.bl _) (.cons db .nil)))⟩
    · exact ⟨.tuple [.int r, .int l, .tuple []], by show (_ && (_ && (false && _))) = false; simp, (Lay.tup (k := 2) (by simp [l2', (Lay.tup (k := 1) (l := []) (by simp) (by simp))]) (by simp)).mono (by decide), .tup (SqT.of (hd2_of (E6 _ _ g6) n4)) (.cons (.int _) (.cons (.int _) (.cons (.tup (SqT.of (hd2_of (E5 _ _ g5) n3)) .nil) .nil)))⟩
    · obtain ⟨ys, y, ely⟩ := last_app (ls := bs) (by rintro rfl; simp at b1)
      have dl : bs ++ bs.drop (bvs.length - 1) = ys ++ [y] ++ [y] := by
        rw [dab.len, ely, List.length_append, List.length_cons, List.length_nil, Nat.zero_add, Nat.add_sub_cancel, List.drop_left]
      have dab16 := DrAll.ex (Ex.hd2 e216) _ _ dab
      refine ⟨.tuple [.int r, .int l, .tuple (bs ++ bs.drop (bvs.length - 1))], by rw [dl]; exact bags_dup (bm y (by rw [ely]; simp)), (Lay.tup (k := 2) (fun d hd => ?_) (by simp)).mono (by decide), .tup (SqT.of (hd2_of (E9 _ _ g9) n7)) (.cons (.int _) (.cons (.int _) (.cons (.tup (sqt_ex q8 (Ex.hd2 E8)) (DrAll.app dab16 (DrAll.drop _ dab16))) .nil)))⟩
      simp only [List.mem_cons, List.not_mem_nil, or_false] at hd
      rcases hd with rfl | rfl | rfl
      · exact l2' _
      · exact l2' _
      · refine Lay.tup (k := 1) (fun d hd => ?_) (by rw [List.length_append, List.length_drop]; omega)
        rcases List.mem_append.mp hd with hd | hd
        · exact .ok (bm d hd).ok
        · exact .ok (bm d (List.mem_of_mem_drop hd)).ok
    · exact ⟨.tuple [.int r, .int l], rfl, (Lay.tup (k := 2) (by simp [l2']) (by simp)).mono (by decide), .tup (SqT.of (hd2_of (E11 _ _ g11) n9)) (.cons (.int _) (.cons (.int _) .nil))⟩
    · exact ⟨.tuple [.int r, .int l, .list bs], by show (_ && (_ && (false && _))) = false; simp, (Lay.tup (k := 2) (by simp [l2', Lay.lst (k := 1) (l := bs) (fun d hd => .ok (bm d hd).ok) (by omega)]) (by simp)).mono (by decide), .tup (SqT.of (hd2_of (E13 _ _ g13) n11)) (.cons (.int _) (.cons (.int _) (.cons (.lst (SqL.of (hd2_of (E12 _ _ g12) n10)) (DrAll.ex (Ex.hd2 e216) _ _ dab)) .nil)))⟩
    · exact ⟨.list [.int r, .int l, .tuple bs], rfl, (Lay.lst (k := 2) (by simp [l2', layB]) (by simp)).mono (by decide), .lst (SqL.of (hd2_of (E14 _ _ g14) n12)) (.cons (.int _) (.cons (.int _) (.cons db .nil)))⟩
  first | refine nrmG (σ' := [_, _, _, _, _, _]) rfl ?_ | refine nrm (σ' := [_, _, _, _, _, _]) rfl ?_
  refine ⟨_, rfl, _, rfl, w, p14, n + 1, _, rfl, D2.wl.ex e216, by omega, SqL.of g16, n14.1, (by show 0 < 7; decide), (by show 7 ≤ 1000000; decide), fun v H17 hv D17 => ⟨(by show 1 ≤ sizeLine; decide), fun p18 h18 => ?_⟩⟩
  obtain ⟨e, be, le, de⟩ := bad v hv
  generalize hH_ : upd H17 p18 _ = H18
  have x18 : Evl.Ex H17 H18 := (by rw [← hH_]; exact Evl.Ex.new h18)
  have g18 := (congrFun hH_ p18).symm
  rw [upd_same] at g18
  clear hH_
  have hb17 := D17.live (wx e216).2
  have n18 : p18 ≠ w ∧ p18 ∉ b' := ⟨D17.wl.nep h18, live_ne hb17 h18⟩
  have w18 : ∀ {HX : Hp}, Evl.Ex H17 HX → (∃ o, HX w = some o) ∧ Live b' HX := fun e => ⟨(D17.wl.ex e).some, live_ex hb17 e⟩
  have c218 := (Ex.hd2 (w := w) (B := b') e216).trans (D17.hd2.trans (Ex.hd2 x18))
  refine ⟨_, rfl, _, rfl, slA_hd2 (w18 x18) (sqt_ex st2 c218) fun r19 H19 x19 q19 => ?_⟩
  have q19 : SqT K (hd2 w b' H19) r19 vr := by
    have q : SqT K (hd2 w b' H19) r19 (cutV (V.ref a0 :: vr) (some ((1 : Nat) : Int)) none) := q19
    rw [cutV_drop] at q
    exact q
  have lr := qr.len
  have l3' : rest.length ≤ 2 := by rw [List.length_cons] at l3; omega
  refine catA_hd2 (w18 (x18.trans x19)) (SqT.of (hd2_of (x19 _ _ g18) n18)) q19 (by rw [lr]; show 1 + rest.length ≤ 100000; omega) fun r20 H20 x20 q20 => ?_
  refine k _ (.tuple (e :: rest)) H20 (.inr (loads_head be)) (Lay.tup (k := 8) (fun d hd => ?_) (by rw [List.length_cons]; omega)) (.tup q20 (.cons (Dr.ex (D17.hd2.trans (Ex.hd2 (x18.trans (x19.trans x20)))) _ _ de) (DrAll.ex (c218.trans (Ex.hd2 (x19.trans x20))) _ _ qr))) (((D2.exr e216).trans D17).exr (x18.trans (x19.trans x20)))
  rcases List.mem_cons.mp hd with rfl | hd
  · exact le
  · exact (Lay.ok (gg d (List.mem_cons_of_mem _ hd)).ok).mono (by decide)


end
end Lw

namespace Lw
open PySem PySem.Spec PyProof.Rows L2 TP
section
variable {P : Program} {w : World} {K : PySem.W.Frag} {mg : Str → Option Value} {base : Heap}

theorem ok_law_odd_things (T : TX w K mg) : Gt P w K mg base CX0 5 "_law_odd_things" ["_law_source", "_law_word", "_law_things_here"] (spOddThings K) := by
  refine gt_mk (D_law_odd_things T) (g_law_odd_things T) sc_law_odd_things rfl (fun _ _ _ _ _ _ us hl => match us, hl with | [_, _, _], _ => rfl) (fun vs H Q E h => ?_) (fun f cdv A outer s H vs Q E hr h => ?_)
  · obtain ⟨w, a, b', n, wd, ds, rfl, _⟩ := h
    rfl
  obtain ⟨w, a, b', n, wd, ds, rfl, hw, hb, hn, gt, hx, k⟩ := h
  obtain ⟨a', xs, ea, st, da⟩ := hx.tupI
  injection ea with ea
  subst ea
  have ln := da.len
  obtain ⟨okd, d6⟩ := gt.ok
  have d1 : 1 ≤ ds.length := by cases gt <;> simp
  have lay : ∀ d ∈ ds, Lay 4 d := fun d hd => .ok (okd d hd)
  refine ⟨_, (pss_cons (ps_set (i := 3) sc_law_odd_things.nd rfl (by first | exact Or.inl rfl | exact Or.inr rfl) ((ok_draw T).pe (hr.mono (by decide)) (pa_cons (pv 0) (pa_cons pe_int pa_nil))))
    (pss_cons (ps_if (pt_cmpR op_eq (pv 3) pe_int (nomark _))
      (pss_one (ps_ret ((ok_one T).pe (hr.mono (by decide)) (pa_cons (pv 0) (pa_cons (pe_lst (pa_cons (pe_callTy call_list_of (by rfl) (f_list T) (by decide +kernel) (pa_cons (pv 2) pa_nil)) (pa_cons (pe_op op_catA (pv 2) (pe_tup (pa_cons pe_int pa_nil))) (pa_cons (pe_slice sl_tupA (pv 2) po_none (po_some (pe_un un_neg pe_int))) (pa_cons pe_non (pa_cons pe_int (pa_cons pe_str pa_nil))))))) pa_nil)))))
      pss_nil)
    (pss_cons (ps_if (pt_cmpR op_eq (pv 1) pe_str (nomark _))
      (pss_cons (ps_if (pt_cmpR op_eq (pv 3) pe_int (nomark _))
      (pss_one (ps_ret (pe_tup (pa_cons (pe_tup pa_nil) (pa_cons (pe_tup pa_nil) pa_nil)))))
      pss_nil)
    (pss_cons (ps_set (i := 4) sc_law_odd_things.nd rfl (by first | exact Or.inl rfl | exact Or.inr rfl) ((ok_draw T).pe (hr.mono (by decide)) (pa_cons (pv 0) (pa_cons pe_int pa_nil))))
    (pss_cons (ps_set (i := 5) sc_law_odd_things.nd rfl (by first | exact Or.inl rfl | exact Or.inr rfl) (pe_lst (pa_cons (pe_ix ix_tup (pv 2) pe_int (fun _ _ => rfl)) (pa_cons (pe_ix ix_tup (pv 2) pe_int (fun _ _ => rfl)) pa_nil))))
    (pss_cons (ps_asg ((ok_law_odd_loads T).pe (hr.mono (by decide)) (pa_cons (pv 0) (pa_cons (pe_ix ix_tup (pv 2) (pv 4) (fun _ _ => rfl)) pa_nil))) (pg_sub (pv 5) (pv 4) set_list))
    (pss_cons (ps_while PassesOwn.never (pt_cmpR (op_eqR (sysK T) hr.units) (pe_ix ix_list (pv 5) (pv 4) (fun _ _ => rfl)) (pe_tup pa_nil) (nomark _))
      (pss_one (ps_asg pe_non (pg_sub (pv 5) (pv 4) set_list))))
    (pss_one (ps_ret (pe_callTy call_tuple_of (by rfl) (f_tuple T) (by decide +kernel) (pa_cons (pv 5) pa_nil)))))))))
      pss_nil)
    (pss_cons (ps_set (i := 4) sc_law_odd_things.nd rfl (by first | exact Or.inl rfl | exact Or.inr rfl) ((ok_draw T).pe (hr.mono (by decide)) (pa_cons (pv 0) (pa_cons (pe_callB call_len_seq (by rfl) (f_len T) (by decide +kernel) (pa_cons (pv 2) pa_nil)) pa_nil))))
    (pss_cons (ps_set (i := 6) sc_law_odd_things.nd rfl (by first | exact Or.inl rfl | exact Or.inr rfl) ((ok_law_other T).pe (hr.mono (by decide)) (pa_cons (pv 0) (pa_cons (pe_ix ix_tup (pv 2) (pv 4) (fun _ _ => rfl)) pa_nil))))
    (C8.pss_cut (ps_if (PW.pt (pw_and (pt_cmpR op_eq (pv 1) pe_str (nomark _)) (pw_and (pt_cmpR op_eq (pv 4) pe_int (nomark _)) (pw_and1 (pt_cmpR op_lt (pv 3) pe_int (nomark _))))))
      (pss_one (ps_set (i := 6) sc_law_odd_things.nd rfl (by first | exact Or.inl rfl | exact Or.inr rfl) (pe_op op_sub (pe_un un_neg pe_int) ((ok_draw T).pe (hr.mono (by decide)) (pa_cons (pv 0) (pa_cons pe_int pa_nil))))))
      pss_nil)
    (C8.pss_cut (ps_if (PW.pt (pw_and (pt_cmpR op_eq (pv 1) pe_str (nomark _)) (pw_and (pt_cmpR op_eq (pv 4) pe_int (nomark _)) (pw_and1 (pt_cmpR op_lt (pv 3) pe_int (nomark _))))))
      (pss_one (ps_set (i := 6) sc_law_odd_things.nd rfl (by first | exact Or.inl rfl | exact Or.inr rfl) ((ok_one T).pe (hr.mono (by decide)) (pa_cons (pv 0) (pa_cons (pe_lst (pa_cons pe_int (pa_cons pe_int (pa_cons (pe_un un_neg pe_int) (pa_cons pe_bl pa_nil))))) pa_nil)))))
      pss_nil)
    (C8.pss_cut (ps_if (PW.pt (pw_and (pt_cmpR op_eq (pv 1) pe_str (nomark _)) (pw_and (pt_cmpR op_eq (pv 4) pe_int (nomark _)) (pw_and1 (pt_cmpR op_lt (pv 3) pe_int (nomark _))))))
      (pss_one (ps_set (i := 6) sc_law_odd_things.nd rfl (by first | exact Or.inl rfl | exact Or.inr rfl) pe_int))
      pss_nil)
    (C8.pss_cut (ps_if (PW.pt (pw_and (pt_cmpR op_eq (pv 1) pe_str (nomark _)) (pw_and (pt_cmpR op_eq (pv 4) pe_int (nomark _)) (pw_and1 (pt_cmpR op_lt (pv 3) pe_int (nomark _))))))
      (pss_one (ps_set (i := 6) sc_law_odd_things.nd rfl (by first | exact Or.inl rfl | exact Or.inr rfl) ((ok_one T).pe (hr.mono (by decide)) (pa_cons (pv 0) (pa_cons (pe_lst (pa_cons (pe_tup pa_nil) (pa_cons (pe_callTy call_list_of (by rfl) (f_list T) (by decide +kernel) (pa_cons (pe_ix ix_tup (pv 2) pe_int (fun _ _ => rfl)) pa_nil)) (pa_cons (pe_op op_catA (pe_ix ix_tup (pv 2) pe_int (fun _ _ => rfl)) (pe_tup (pa_cons (pe_tup (pa_cons pe_str (pa_cons (pe_un un_neg pe_int) pa_nil))) pa_nil))) (pa_cons (pe_op op_catA (pe_ix ix_tup (pv 2) pe_int (fun _ _ => rfl)) (pe_tup (pa_cons pe_str pa_nil))) pa_nil))))) pa_nil)))))
      pss_nil)
    (C8.pss_cut (ps_if (PW.pt (pw_and (pt_cmpR op_in_seq (pv 1) (pe_tup (pa_cons pe_str (pa_cons pe_str pa_nil))) (by rfl)) (pw_and1 (pt_cmpR op_eq (pv 4) pe_int (nomark _)))))
      (pss_one (ps_set (i := 6) sc_law_odd_things.nd rfl (by first | exact Or.inl rfl | exact Or.inr rfl) ((ok_one T).pe (hr.mono (by decide)) (pa_cons (pv 0) (pa_cons (pe_lst (pa_cons pe_str (pa_cons pe_str (pa_cons pe_str (pa_cons pe_non (pa_cons pe_bl (pa_cons pe_str pa_nil))))))) pa_nil)))))
      pss_nil)
    (pss_one (ps_ret (pe_op op_catA (pe_op op_catA (pe_slice sl_tupA (pv 2) po_none (po_some (pv 4))) (pe_tup (pa_cons (pv 6) pa_nil))) (pe_slice sl_tupA (pv 2) (po_some (pe_op op_add (pv 4) pe_int)) po_none)))))))))))))), ?_⟩
  refine ⟨_, rfl, w, n, 6, rfl, hw, by omega, by decide, by decide +kernel, fun kd H1 k0 k6 D1 => ?_⟩
  have hb1 := D1.live hb
  have st1 := sqt_ex st D1.hd2
  have da1 := DrAll.ex D1.hd2 _ _ da
  have w1 : ∀ {HX : Hp}, Evl.Ex H1 HX → (∃ o, HX w = some o) ∧ Live b' HX := fun e => ⟨(D1.wl.ex e).some, live_ex hb1 e⟩
  have nw : ∀ {HX : Hp} {p : Addr}, Evl.Ex H1 HX → HX p = none → p ≠ w ∧ p ∉ b' := fun e hp => ⟨(D1.wl.ex e).nep hp, live_ne (w1 e).2 hp⟩
  first | refine nrmG (σ' := [_, _, _, _, _, _, _]) rfl ?_ | refine nrm (σ' := [_, _, _, _, _, _, _]) rfl ?_
  refine ⟨_, rfl, rfl, _, rfl, ite2 (fun z => ?_) (fun z => ?_)⟩
  · try unfold tNil
    try unfold tNoPart
    refine ⟨_, rfl, _, rfl, a, xs, rfl, .inr (sqt_ex st1 hd2_ex), fun p1 h1 => ?_⟩
    generalize hH_ : upd H1 p1 _ = H2
    have x2 : Evl.Ex H1 H2 := (by rw [← hH_]; exact Evl.Ex.new h1)
    have g2 := (congrFun hH_ p1).symm
    rw [upd_same] at g2
    clear hH_
    refine ⟨_, rfl, (by show 1 ≤ sizeLine; decide), fun p2 h2 => ?_⟩
    generalize hH_ : upd H2 p2 _ = H3
    have x3 : Evl.Ex H2 H3 := (by rw [← hH_]; exact Evl.Ex.new h2)
    have g3 := (congrFun hH_ p2).symm
    rw [upd_same] at g3
    clear hH_
    have e13 := x2.trans x3
    refine catA_hd2 (w1 e13) (sqt_ex st1 (Ex.hd2 e13)) (SqT.of (hd2_of g3 (nw x2 h2))) (by rw [ln]; show ds.length + 1 ≤ 100000; omega) fun r4 H4 x4 q4 => ?_
    have e14 := e13.trans x4
    refine ⟨_, rfl, _, rfl, _, rfl, slA_hd2 (w1 e14) (sqt_ex st1 (Ex.hd2 e14)) fun r5 H5 x5 q5 => ?_⟩
    rw [cutV_init] at q5
    have e15 := e14.trans x5
    refine ⟨(by show 6 ≤ sizeLine; decide), fun p6 h6 => ?_⟩
    generalize hH_ : upd H5 p6 _ = H6
    have x6 : Evl.Ex H5 H6 := (by rw [← hH_]; exact Evl.Ex.new h6)
    have g6 := (congrFun hH_ p6).symm
    rw [upd_same] at g6
    clear hH_
    have e16 := e15.trans x6
    have da6 := DrAll.ex (Ex.hd2 (w := w) (B := b') e16) _ _ da1
    refine ⟨w, p6, n + 1, _, rfl, D1.wl.ex e16, by omega, SqL.of g6, (nw e15 h6).1, (by show 0 < 6; decide), (by show 6 ≤ 1000000; decide), fun v H7 hv D7 => ?_⟩
    have D07 : Dn w (n + 10) H H7 := ⟨((D1.exr e16).trans D7).wl.mono (by omega), ((D1.exr e16).trans D7).k⟩
    simp only [List.mem_cons, List.not_mem_nil, or_false] at hv
    rcases hv with rfl | rfl | rfl | rfl | rfl | rfl
    · exact k _ (.list ds) H7 (badT_nt fun _ z => nomatch z) (Lay.lst lay (by omega)).t (.lst (SqL.of (D7.hd2 _ _ (hd2_of ((x3.trans (x4.trans (x5.trans x6))) _ _ g2) (nw (Evl.Ex.refl _) h1)))) (DrAll.ex D7.hd2 _ _ da6)) D07
    · refine k _ (.tuple (ds ++ [.int 0])) H7 (badT_len gt (by rw [List.length_append]; simp)) (Lay.tup (k := 4) (fun d hd => ?_) (by rw [List.length_append]; simp; omega)).t (.tup (sqt_ex q4 ((Ex.hd2 (x5.trans x6)).trans D7.hd2)) (DrAll.app (DrAll.ex D7.hd2 _ _ da6) (.cons (.int 0) .nil))) D07
      rcases List.mem_append.mp hd with hd | hd
      · exact lay d hd
      · rw [List.mem_singleton.mp hd]
        exact (Lay.int 0).mono (by decide)
    · exact k _ (.tuple (ds.take (xs.length - 1))) H7 (badT_len gt (by rw [List.length_take]; omega)) (Lay.tup (k := 4) (fun d hd => lay d (List.mem_of_mem_take hd)) (by rw [List.length_take]; omega)).t (.tup (sqt_ex q5 ((Ex.hd2 x6).trans D7.hd2)) (DrAll.take _ (DrAll.ex D7.hd2 _ _ da6))) D07
    · exact k _ .none H7 (badT_nt fun _ z => nomatch z) Lay.non.t .non D07
    · exact k _ (.int 7) H7 (badT_nt fun _ z => nomatch z) (Lay.int 7).t (.int 7) D07
    · exact k _ (.str "ab") H7 (badT_nt fun _ z => nomatch z) (Lay.str (by decide +kernel) (by decide +kernel)).t (.str _) D07
  first | refine nrmG (σ' := [_, _, _, _, _, _, _]) rfl ?_ | refine nrm (σ' := [_, _, _, _, _, _, _]) rfl ?_
  refine ⟨_, rfl, rfl, _, rfl, ite2 (fun zp => ?_) (fun zp => ?_)⟩
  · have zp : wd = "passed" := by have := of_decide_eq_true zp; injection this
    subst zp
    cases gt with
    | passed gc gl m0 n0 mn =>
    rename_i mc ml c l
    obtain ⟨v0, v1, rfl, q0, q1⟩ : ∃ v0 v1, xs = [v0, v1] ∧ Dr K (hd2 w b' H1) v0 c ∧ Dr K (hd2 w b' H1) v1 l := by
      cases da1 with
      | cons q0 da1 => cases da1 with
      | cons q1 da1 =>
        cases da1
        exact ⟨_, _, rfl, q0, q1⟩
    have layc := lay c (by simp)
    have layl := lay l (by simp)
    try unfold tNil
    refine ⟨_, rfl, rfl, _, rfl, ite2 (fun z1 => ?_) (fun z1 => ?_)⟩
    · refine ⟨(by show 0 ≤ sizeLine; decide), fun p1 h1 => ?_⟩
      generalize hH_ : upd H1 p1 _ = H2
      have x2 : Evl.Ex H1 H2 := (by rw [← hH_]; exact Evl.Ex.new h1)
      have g2 := (congrFun hH_ p1).symm
      rw [upd_same] at g2
      clear hH_
      refine ⟨(by show 0 ≤ sizeLine; decide), fun p2 h2 => ?_⟩
      generalize hH_ : upd H2 p2 _ = H3
      have x3 : Evl.Ex H2 H3 := (by rw [← hH_]; exact Evl.Ex.new h2)
      have g3 := (congrFun hH_ p2).symm
      rw [upd_same] at g3
      clear hH_
      refine ⟨(by show 2 ≤ sizeLine; decide), fun p3 h3 => ?_⟩
      generalize hH_ : upd H3 p3 _ = H4
      have x4 : Evl.Ex H3 H4 := (by rw [← hH_]; exact Evl.Ex.new h3)
      have g4 := (congrFun hH_ p3).symm
      rw [upd_same] at g4
      clear hH_
      have D4 := D1.exr (x2.trans (x3.trans x4))
      have lu : Lay 2 (.tuple []) := Lay.tup (k := 1) (by simp) (by simp)
      exact k _ (.tuple [.tuple [], .tuple []]) H4 (passed_no (.inr (.inr ⟨rfl, rfl⟩))) (Lay.tup (k := 2) (by simp [lu]) (by simp)).t (.tup (SqT.of (hd2_of g4 (nw (x2.trans x3) h3))) (.cons (.tup (SqT.of (hd2_of ((x3.trans x4) _ _ g2) (nw (Evl.Ex.refl _) h1))) .nil) (.cons (.tup (SqT.of (hd2_of (x4 _ _ g3) (nw x2 h2))) .nil) .nil))) ⟨D4.wl.mono (by omega), D4.k⟩
    first | refine nrmG (σ' := [_, _, _, _, _, _, _]) rfl ?_ | refine nrm (σ' := [_, _, _, _, _, _, _]) rfl ?_
    refine ⟨_, rfl, w, n + 1, 2, rfl, D1.wl, by omega, by decide, by decide +kernel, fun at' H2 a0 a2 D2 => ?_⟩
    have D02 := D1.trans D2
    have st2 := sqt_ex st1 D2.hd2
    have q02 := Dr.ex D2.hd2 _ _ q0
    have q12 := Dr.ex D2.hd2 _ _ q1
    have hb2 := D2.live hb1
    first | refine nrmG (σ' := [_, _, _, _, _, _, _]) rfl ?_ | refine nrm (σ' := [_, _, _, _, _, _, _]) rfl ?_
    refine ⟨_, rfl, a, _, 0, v0, rfl, rfl, sqt_ex st2 hd2_ex, rfl, _, rfl, a, _, 1, v1, rfl, rfl, sqt_ex st2 hd2_ex, rfl, (by show 2 ≤ sizeLine; decide), fun f hf => ?_⟩
    have fw : f ≠ w := D2.wl.nep hf
    have f0 : H f = none := D02.free hf
    have en := hd2_new (w := w) (B := b') (o := .lst [v0, v1]) hf
    obtain ⟨H3, hH3⟩ : ∃ H3, H3 = upd H2 f (.lst [v0, v1]) := ⟨_, rfl⟩
    rw [← hH3] at en ⊢
    have x3 : Evl.Ex H2 H3 := by rw [hH3]; exact Evl.Ex.new hf
    have g3 : H3 f = some (.lst [v0, v1]) := by rw [hH3, upd_same]
    first | refine nrmG (σ' := [_, _, _, _, _, _, _]) rfl ?_ | refine nrm (σ' := [_, _, _, _, _, _, _]) rfl ?_
    have st3 := sqt_ex (sqt_ex st2 hd2_ex) x3
    obtain ⟨j, rfl, j2⟩ : ∃ j : Nat, at' = (j : Int) ∧ j < 2 := ⟨at'.toNat, by omega, by omega⟩
    have pc := Dr.ex en _ _ q02
    have pl := Dr.ex en _ _ q12
    obtain ⟨vj, aj, lj, mj, hv, ej, gj, dj⟩ : ∃ vj aj lj mj, [v0, v1][j]? = some vj ∧ vj = .ref aj ∧ GLoads mj (.tuple lj) ∧ Dr K (hd2 w (f :: b') H3) (.ref aj) (.tuple lj) := by
      match j, j2 with
      | 0, _ =>
        obtain ⟨lc, rfl, _⟩ := id gc
        obtain ⟨ac, _, rfl, _⟩ := pc.tupI
        exact ⟨_, _, _, _, rfl, rfl, gc, pc⟩
      | 1, _ =>
        obtain ⟨lc, rfl, _⟩ := id gl
        obtain ⟨ac, _, rfl, _⟩ := pl.tupI
        exact ⟨_, _, _, _, rfl, rfl, gl, pl⟩
    subst ej
    have hb3 : Live (f :: b') H3 := fun b hm => by
      rcases List.mem_cons.mp hm with rfl | hm
      · exact ⟨_, g3⟩
      · exact live_ex hb2 x3 b hm
    refine ⟨_, rfl, _, rfl, _, rfl, a, _, _, _, rfl, rfl, st3, atI_nat hv, w, aj, f :: b', n + 2, mj, lj, rfl, D2.wl.ex x3, hb3, by omega, gj, dj, fun v e H4 be le de D4 => ?_⟩
    refine ⟨_, rfl, _, rfl, f, [v0, v1], _, j, rfl, rfl, D4.k _ _ fw g3, ixN_ok j2, ?_⟩
    have D34 := (D02.exr x3).trans D4
    have k34 : Evl.Ex (hd2 w (f :: b') H3) (hd2 w (f :: b') H4) := D4.hd2
    obtain ⟨H5, hH5⟩ : ∃ H5, H5 = upd H4 f (.lst ([v0, v1].set j v)) := ⟨_, rfl⟩
    rw [← hH5]
    have same5 : hd2 w (f :: b') H5 = hd2 w (f :: b') H4 := by rw [hH5]; exact hd2_upd List.mem_cons_self
    have D5 : Dn w (n + 4) H H5 := by rw [hH5]; exact Dn.put D34 f0 fw
    have g5 : H5 f = some (.lst ([v0, v1].set j v)) := by rw [hH5, upd_same]
    have hb4 : Live (f :: b') H5 := fun b hm => by
      by_cases z : b = f
      · rw [z]
        exact ⟨_, g5⟩
      · obtain ⟨o, ho⟩ := D4.live hb3 b hm
        exact ⟨o, by rw [hH5, upd_ne z]; exact ho⟩
    refine ⟨fun m σ H' => ∃ v e, σ = [some (.ref w), some (.str "passed"), some (.ref a), some (.int kd), some (.int (j : Int)), some (.ref f), none] ∧ H' f = some (.lst ([v0, v1].set j v)) ∧ Dr K (hd2 w (f :: b') H') v e ∧ Lay 9 e ∧ ((e = .tuple [] ∧ m = 1) ∨ areLoadsD e = false) ∧
      Evl.Ex (hd2 w (f :: b') H3) (hd2 w (f :: b') H') ∧ Live (f :: b') H' ∧ Dn w (n + 4) H H', ⟨1, v, e, rfl, g5, by rw [same5]; exact de, le, (be.imp (fun z => ⟨z, rfl⟩) id), by rw [same5]; exact k34, hb4, D5⟩, ?_⟩
    rintro m σ H6 ⟨v, e, rfl, g6, de, le, be, k6, hb6, D6⟩
    refine ⟨_, rfl, _, rfl, f, _, _, v, rfl, rfl, SqL.of g6, atI_nat (by rw [List.getElem?_set_self (by simpa using j2)]), (by show 0 ≤ sizeLine; decide), fun t ht => ?_⟩
    generalize hH_ : upd H6 t _ = H7
    have x7 : Evl.Ex H6 H7 := (by rw [← hH_]; exact Evl.Ex.new ht)
    have g7 := (congrFun hH_ t).symm
    rw [upd_same] at g7
    clear hH_
    refine ⟨e, .tuple [], Dr.ex (hd2_ex.trans x7) _ _ de, .tup (SqT.of g7) .nil, le.l, rfl, Nat.le_trans le.d (by decide), _, rfl, ite2 (fun q => ?_) (fun q => ?_)⟩
    · have ee := eqv_unit' q
      have m1 : m = 1 := by
        rcases be with ⟨_, z⟩ | z
        · exact z
        · rw [ee] at z
          cases z
      refine ⟨fun σ' H' => ∃ v e, σ' = [some (.ref w), some (.str "passed"), some (.ref a), some (.int kd), some (.int (j : Int)), some (.ref f), none] ∧ H' f = some (.lst ([v0, v1].set j v)) ∧ Dr K (hd2 w (f :: b') H') v e ∧ Lay 9 e ∧ areLoadsD e = false ∧
        Evl.Ex (hd2 w (f :: b') H3) (hd2 w (f :: b') H') ∧ Live (f :: b') H' ∧ Dn w (n + 4) H H', fun σ' H' ⟨v, e, r1, r2, r3, r4, r5, r6, r7, r8⟩ => ⟨0, by omega, v, e, r1, r2, r3, r4, .inr r5, r6, r7, r8⟩, ?_⟩
      refine ⟨_, rfl, _, rfl, f, _, _, j, rfl, rfl, x7 _ _ g6, ixN_ok (by simpa using j2), ?_⟩
      refine ⟨.non, .none, rfl, (by rw [upd_same, List.set_set]), .non, Lay.non.mono (by decide), rfl, ?_, fun b hm => ?_, Dn.put (D6.exr x7) f0 fw⟩
      · rw [hd2_upd List.mem_cons_self]
        exact k6.trans (Ex.hd2 x7)
      · by_cases z : b = f
        · rw [z]
          exact ⟨_, upd_same⟩
        · obtain ⟨o, ho⟩ := hb6 b hm
          exact ⟨o, by rw [upd_ne z]; exact x7 _ _ ho⟩
    have bad : areLoadsD e = false := by
      rcases be with ⟨z, _⟩ | z
      · exfalso
        rw [z] at q
        exact q rfl
      · exact z
    have dn : DrAll K (hd2 w (f :: b') H7) ([v0, v1].set j v) ([c, l].set j e) := DrAll.set j (DrAll.ex (k6.trans (Ex.hd2 x7)) _ _ (.cons pc (.cons pl .nil))) (Dr.ex (Ex.hd2 x7) _ _ de)
    refine ⟨_, rfl, f, _, rfl, .inl ⟨SqL.of (x7 _ _ g6), fun r hr => ?_⟩⟩
    have rb := live_ne (live_ex hb6 x7) hr
    have rw' := (D6.wl.ex x7).nep hr
    generalize hH_ : upd H7 r _ = H8
    have x8 : Evl.Ex H7 H8 := (by rw [← hH_]; exact Evl.Ex.new hr)
    have g8 := (congrFun hH_ r).symm
    rw [upd_same] at g8
    clear hH_
    have D8 := (D6.exr x7).exr x8
    refine k _ (.tuple ([c, l].set j e)) H8 ?_ (Lay.tup (k := 9) (fun d hd => ?_) (by simp)).t (.tup (SqT.of (hd2_of g8 ⟨rw', fun z => rb (List.mem_cons_of_mem _ z)⟩)) (DrAll.ex ((Ex.hd2 x8).trans (hd2_sub fun b hb => List.mem_cons_of_mem _ hb)) _ _ dn)) ⟨D8.wl.mono (by omega), D8.k⟩
    · match j, j2 with
      | 0, _ => exact passed_no (.inl bad)
      | 1, _ => exact passed_no (.inr (.inl bad))
    · match j, j2 with
      | 0, _ =>
        simp only [List.set_cons_zero, List.mem_cons, List.not_mem_nil, or_false] at hd
        rcases hd with rfl | rfl
        · exact le
        · exact layl.mono (by decide)
      | 1, _ =>
        simp only [List.set_cons_zero, List.set_cons_succ, List.mem_cons, List.not_mem_nil, or_false] at hd
        rcases hd with rfl | rfl
        · exact layc.mono (by decide)
        · exact le
  have np : wd ≠ "passed" := fun z => zp (decide_eq_true (by rw [z]))
  clear zp z
  first | refine nrmG (σ' := [_, _, _, _, _, _, _]) rfl ?_ | refine nrm (σ' := [_, _, _, _, _, _, _]) rfl ?_
  have len1 : (1 : Int) ≤ (xs.length : Int) := by omega
  refine ⟨_, rfl, _, rfl, a, xs, rfl, .inr (sqt_ex st1 hd2_ex), w, n + 1, _, rfl, D1.wl, by omega, by omega, (by show (xs.length).log2 < 9000; exact Nat.lt_of_le_of_lt (Nat.log2_le_self _) (by omega)), fun at' H2 a0 a2 D2 => ?_⟩
  obtain ⟨j, rfl, j2⟩ : ∃ j : Nat, at' = (j : Int) ∧ j < xs.length := ⟨at'.toNat, by omega, by omega⟩
  have D02 := D1.trans D2
  have st2 := sqt_ex st1 D2.hd2
  have da2 := DrAll.ex D2.hd2 _ _ da1
  have hb2 := D2.live hb1
  have hv : xs[j]? = some xs[j] := List.getElem?_eq_getElem j2
  obtain ⟨dj, hdj, rj⟩ := DrAll.at da2 hv
  first | refine nrmG (σ' := [_, _, _, _, _, _, _]) rfl ?_ | refine nrm (σ' := [_, _, _, _, _, _, _]) rfl ?_
  refine ⟨_, rfl, _, rfl, _, rfl, a, _, _, _, rfl, rfl, sqt_ex st2 hd2_ex, atI_nat hv, w, n + 2, _, dj, rfl, D2.wl, by omega, Dr.ex hd2_ex _ _ rj, fun v0 e0 H3 od dv D3 => ?_⟩
  first | refine nrmG (σ' := [_, _, _, _, _, _, _]) rfl ?_ | refine nrm (σ' := [_, _, _, _, _, _, _]) rfl ?_
  have jl : j < ds.length := by omega
  have D03 := D02.trans D3
  have oa0 : OddAt wd ds j e0 := .inl ⟨dj, hdj, od⟩
  have dv0 := Dr.ex (nw_hd2 (H := H2) D2.wl.some hb2) _ _ dv
  have te0 := txt_odd od
  refine ⟨fun σ H' => ∃ v e, σ = [some (.ref w), some (.str wd), some (.ref a), some (.int kd), some (.int (j : Int)), none, some v] ∧ OddAt wd ds j e ∧ txt e ∧ Dr K (hd2 w b' H') v e ∧ Dn w (n + 4) H H', ?_, ?_⟩
  · have keep : (fun σ H' => ∃ v e, σ = [some (.ref w), some (.str wd), some (.ref a), some (.int kd), some (.int (j : Int)), none, some v] ∧ OddAt wd ds j e ∧ txt e ∧ Dr K (hd2 w b' H') v e ∧ Dn w (n + 4) H H') [some (.ref w), some (.str wd), some (.ref a), some (.int kd), some (.int (j : Int)), none, some v0] H3 := ⟨v0, e0, rfl, oa0, te0, dv0, ⟨D03.wl.mono (by omega), D03.k⟩⟩
    refine ⟨_, rfl, rfl, _, rfl, ite2 (fun zA => ?_) (fun zA => iteF' (by simpa using zA) keep)⟩
    refine ⟨_, rfl, rfl, _, rfl, ite2 (fun zB => ?_) (fun zB => iteF' (by simpa using zB) keep)⟩
    refine ⟨_, rfl, _, _, rfl, rfl, _, rfl, ite2 (fun zC => ?_) (fun zC => keep)⟩
    have wA : wd = "moved" := by have := of_decide_eq_true zA; injection this
    have jB : j = 4 := by have := of_decide_eq_true zB; injection this with this; omega
    refine ⟨_, rfl, _, rfl, w, n + 3, 9, rfl, D03.wl, by omega, by decide, by decide +kernel, fun d H4 d0 d9 D4 => ?_⟩
    have D04 := D03.trans D4
    exact ⟨_, _, rfl, rfl, _, .int (-1 - d), rfl, .inr (.inl ⟨wA, jB, _, rfl, by omega⟩), (Lay.int _).t, .int _, D04⟩
  clear oa0 dv0 te0 D03 od dv D3
  rintro σ H4 ⟨v1, e1, rfl, oa1, te1, dv1, D4⟩
  refine ⟨fun σ H' => ∃ v e, σ = [some (.ref w), some (.str wd), some (.ref a), some (.int kd), some (.int (j : Int)), none, some v] ∧ OddAt wd ds j e ∧ txt e ∧ Dr K (hd2 w b' H') v e ∧ Dn w (n + 5) H H', ?_, ?_⟩
  · have keep : (fun σ H' => ∃ v e, σ = [some (.ref w), some (.str wd), some (.ref a), some (.int kd), some (.int (j : Int)), none, some v] ∧ OddAt wd ds j e ∧ txt e ∧ Dr K (hd2 w b' H') v e ∧ Dn w (n + 5) H H') [some (.ref w), some (.str wd), some (.ref a), some (.int kd), some (.int (j : Int)), none, some v1] H4 := ⟨v1, e1, rfl, oa1, te1, dv1, ⟨D4.wl.mono (by omega), D4.k⟩⟩
    refine ⟨_, rfl, rfl, _, rfl, ite2 (fun zA => ?_) (fun zA => iteF' (by simpa using zA) keep)⟩
    refine ⟨_, rfl, rfl, _, rfl, ite2 (fun zB => ?_) (fun zB => iteF' (by simpa using zB) keep)⟩
    refine ⟨_, rfl, _, _, rfl, rfl, _, rfl, ite2 (fun zC => ?_) (fun zC => keep)⟩
    have wA : wd = "posted" := by have := of_decide_eq_true zA; injection this
    have jB : j = 3 := by have := of_decide_eq_true zB; injection this with this; omega
    refine ⟨_, rfl, _, rfl, (by show 4 ≤ sizeLine; decide), fun p hp => ?_⟩
    generalize hH_ : upd H4 p _ = H5
    have x5 : Evl.Ex H4 H5 := (by rw [← hH_]; exact Evl.Ex.new hp)
    have g5 := (congrFun hH_ p).symm
    rw [upd_same] at g5
    clear hH_
    refine ⟨w, p, n + 4, _, rfl, D4.wl.ex x5, by omega, SqL.of g5, D4.wl.nep hp, (by show 0 < 4; decide), (by show 4 ≤ 1000000; decide), fun v H6 hv D6 => ?_⟩
    have D06 := (D4.exr x5).trans D6
    have hm : ∃ e, e ∈ [pI 0, pI 100, pI (-1), PyData.bool true] ∧ txt e ∧ Dr K (hd2 w b' H6) v e := by
      simp only [List.mem_cons, List.not_mem_nil, or_false] at hv
      rcases hv with rfl | rfl | rfl | rfl
      · exact ⟨_, by simp, (Lay.int 0).t, .int 0⟩
      · exact ⟨pI 100, by simp, (Lay.int 100).t, .int 100⟩
      · exact ⟨pI (-1), by simp, (Lay.int (-1)).t, .int (-1)⟩
      · exact ⟨.bool true, by simp, (Lay.bl true).t, .bl true⟩
    obtain ⟨e, he, te, de⟩ := hm
    exact ⟨v, e, rfl, .inr (.inr (.inl ⟨wA, jB, he⟩)), te, de, D06⟩
  clear oa1 dv1 te1 D4
  rintro σ H5 ⟨v2, e2, rfl, oa2, te2, dv2, D5⟩
  refine ⟨fun σ H' => ∃ v e, σ = [some (.ref w), some (.str wd), some (.ref a), some (.int kd), some (.int (j : Int)), none, some v] ∧ OddAt wd ds j e ∧ txt e ∧ Dr K (hd2 w b' H') v e ∧ Dn w (n + 5) H H', ?_, ?_⟩
  · have keep : (fun σ H' => ∃ v e, σ = [some (.ref w), some (.str wd), some (.ref a), some (.int kd), some (.int (j : Int)), none, some v] ∧ OddAt wd ds j e ∧ txt e ∧ Dr K (hd2 w b' H') v e ∧ Dn w (n + 5) H H') [some (.ref w), some (.str wd), some (.ref a), some (.int kd), some (.int (j : Int)), none, some v2] H5 := ⟨v2, e2, rfl, oa2, te2, dv2, D5⟩
    refine ⟨_, rfl, rfl, _, rfl, ite2 (fun zA => ?_) (fun zA => iteF' (by simpa using zA) keep)⟩
    refine ⟨_, rfl, rfl, _, rfl, ite2 (fun zB => ?_) (fun zB => iteF' (by simpa using zB) keep)⟩
    refine ⟨_, rfl, _, _, rfl, rfl, _, rfl, ite2 (fun zC => ?_) (fun zC => keep)⟩
    have wA : wd = "late" := by have := of_decide_eq_true zA; injection this
    have jB : j = 2 := by have := of_decide_eq_true zB; injection this with this; omega
    exact ⟨_, .int 0, rfl, .inr (.inr (.inr (.inl ⟨wA, jB, rfl⟩))), (Lay.int 0).t, .int 0, D5⟩
  clear oa2 dv2 te2 D5
  rintro σ H6 ⟨v3, e3, rfl, oa3, te3, dv3, D6⟩
  refine ⟨fun σ H' => ∃ v e, σ = [some (.ref w), some (.str wd), some (.ref a), some (.int kd), some (.int (j : Int)), none, some v] ∧ OddAt wd ds j e ∧ txt e ∧ Dr K (hd2 w b' H') v e ∧ Dn w (n + 6) H H', ?_, ?_⟩
  · have keep : (fun σ H' => ∃ v e, σ = [some (.ref w), some (.str wd), some (.ref a), some (.int kd), some (.int (j : Int)), none, some v] ∧ OddAt wd ds j e ∧ txt e ∧ Dr K (hd2 w b' H') v e ∧ Dn w (n + 6) H H') [some (.ref w), some (.str wd), some (.ref a), some (.int kd), some (.int (j : Int)), none, some v3] H6 := ⟨v3, e3, rfl, oa3, te3, dv3, ⟨D6.wl.mono (by omega), D6.k⟩⟩
    refine ⟨_, rfl, rfl, _, rfl, ite2 (fun zA => ?_) (fun zA => iteF' (by simpa using zA) keep)⟩
    refine ⟨_, rfl, rfl, _, rfl, ite2 (fun zB => ?_) (fun zB => iteF' (by simpa using zB) keep)⟩
    refine ⟨_, rfl, _, _, rfl, rfl, _, rfl, ite2 (fun zC => ?_) (fun zC => keep)⟩
    have wA : wd = "bagged" := by have := of_decide_eq_true zA; injection this
    have jB : j = 3 := by have := of_decide_eq_true zB; injection this with this; omega
    subst wA
    cases gt with
    | bagged ga r0 r16 gl p1 p9 gm =>
    rename_i b l r ps
    obtain ⟨x0, x1, x2, ap, ys, rfl, sp, dp⟩ : ∃ x0 x1 x2 ap ys, xs = [x0, x1, x2, .ref ap] ∧ SqT K (hd2 w b' H) ap ys ∧ DrAll K (hd2 w b' H) ys ps := by
      cases da with
      | cons y0 da => cases da with
      | cons y1 da => cases da with
      | cons y2 da => cases da with
      | cons y3 da =>
        cases da
        obtain ⟨ap, ys, rfl, sp, dp⟩ := y3.tupI
        exact ⟨_, _, _, _, _, rfl, sp, dp⟩
    have lp := dp.len
    have hb6 := D6.live hb
    have w6 : ∀ {HX : Hp}, Evl.Ex H6 HX → (∃ o, HX w = some o) ∧ Live b' HX := fun e => ⟨(D6.wl.ex e).some, live_ex hb6 e⟩
    have nw6 : ∀ {HX : Hp} {p : Addr}, Evl.Ex H6 HX → HX p = none → p ≠ w ∧ p ∉ b' := fun e hp => ⟨(D6.wl.ex e).nep hp, live_ne (live_ex hb6 e) hp⟩
    have st6 := sqt_ex st D6.hd2
    have sp6 := sqt_ex sp D6.hd2
    have dp6 := DrAll.ex D6.hd2 _ _ dp
    try unfold tNil
    refine ⟨_, rfl, (by show 0 ≤ sizeLine; decide), fun p1 h1 => ?_⟩
    generalize hH_ : upd H6 p1 _ = H7
    have x7 : Evl.Ex H6 H7 := (by rw [← hH_]; exact Evl.Ex.new h1)
    have g7 := (congrFun hH_ p1).symm
    rw [upd_same] at g7
    clear hH_
    refine ⟨_, rfl, a, _, 3, .ref ap, rfl, rfl, sqt_ex st6 (hd2_ex.trans x7), rfl, ap, ys, rfl, .inr (sqt_ex sp6 (hd2_ex.trans x7)), fun p2 h2 => ?_⟩
    generalize hH_ : upd H7 p2 _ = H8
    have x8 : Evl.Ex H7 H8 := (by rw [← hH_]; exact Evl.Ex.new h2)
    have g8 := (congrFun hH_ p2).symm
    rw [upd_same] at g8
    clear hH_
    have e68 := x7.trans x8
    refine ⟨_, rfl, a, _, 3, .ref ap, rfl, rfl, sqt_ex st6 (hd2_ex.trans e68), rfl, _, rfl, (by show 2 ≤ sizeLine; decide), fun p3 h3 => ?_⟩
    generalize hH_ : upd H8 p3 _ = H9
    have x9 : Evl.Ex H8 H9 := (by rw [← hH_]; exact Evl.Ex.new h3)
    have g9 := (congrFun hH_ p3).symm
    rw [upd_same] at g9
    clear hH_
    refine ⟨(by show 1 ≤ sizeLine; decide), fun p4 h4 => ?_⟩
    generalize hH_ : upd H9 p4 _ = H10
    have x10 : Evl.Ex H9 H10 := (by rw [← hH_]; exact Evl.Ex.new h4)
    have g10 := (congrFun hH_ p4).symm
    rw [upd_same] at g10
    clear hH_
    have e69 := e68.trans x9
    have e610 := e69.trans x10
    refine catA_hd2 (w6 e610) (sqt_ex sp6 (Ex.hd2 e610)) (SqT.of (hd2_of g10 (nw6 e69 h4))) (by rw [lp]; show ps.length + 1 ≤ 100000; omega) fun r5 H11 x11 q11 => ?_
    have e611 := e610.trans x11
    refine ⟨_, rfl, a, _, 3, .ref ap, rfl, rfl, sqt_ex st6 (hd2_ex.trans e611), rfl, (by show 1 ≤ sizeLine; decide), fun p6 h6 => ?_⟩
    generalize hH_ : upd H11 p6 _ = H12
    have x12 : Evl.Ex H11 H12 := (by rw [← hH_]; exact Evl.Ex.new h6)
    have g12 := (congrFun hH_ p6).symm
    rw [upd_same] at g12
    clear hH_
    have e612 := e611.trans x12
    refine catA_hd2 (w6 e612) (sqt_ex sp6 (Ex.hd2 e612)) (SqT.of (hd2_of g12 (nw6 e611 h6))) (by rw [lp]; show ps.length + 1 ≤ 100000; omega) fun r7 H13 x13 q13 => ⟨(by show 4 ≤ sizeLine; decide), fun p8 h8 => ?_⟩
    have e613 := e612.trans x13
    generalize hH_ : upd H13 p8 _ = H14
    have x14 : Evl.Ex H13 H14 := (by rw [← hH_]; exact Evl.Ex.new h8)
    have g14 := (congrFun hH_ p8).symm
    rw [upd_same] at g14
    clear hH_
    have e614 := e613.trans x14
    refine ⟨w, p8, n + 5, _, rfl, D6.wl.ex e614, by omega, SqL.of g14, (nw6 e613 h8).1, (by show 0 < 4; decide), (by show 4 ≤ 1000000; decide), fun v H15 hv D15 => ?_⟩
    have D615 := (D6.exr e614).trans D15
    have layp : ∀ d ∈ ps, Lay 1 d := fun d hd => .ok (gm d hd).ok
    have sa : Lay 1 (pS "a") := (Lay.str (by decide +kernel) (by decide +kernel)).mono (by decide)
    have dp15 := DrAll.ex ((Ex.hd2 e614).trans D15.hd2) _ _ dp6
    have nomk : ∀ {qs : List PyData} {d : PyData}, isMarkD d = false → areMarksD (.tuple (qs ++ [d])) = false := fun {qs d} h => by
      show (_ && (qs ++ [d]).all isMarkD) = false
      rw [List.all_append]
      simp [h]
    have hm : ∃ e, areMarksD e = false ∧ txt e ∧ Dr K (hd2 w b' H15) v e := by
      simp only [List.mem_cons, List.not_mem_nil, or_false] at hv
      rcases hv with rfl | rfl | rfl | rfl
      · exact ⟨.tuple [], rfl, (Lay.tup (k := 1) (by simp) (by simp)).t, .tup (SqT.of (D15.hd2 _ _ (hd2_of ((x8.trans (x9.trans (x10.trans (x11.trans (x12.trans (x13.trans x14)))))) _ _ g7) (nw6 (Evl.Ex.refl _) h1)))) .nil⟩
      · exact ⟨.list ps, rfl, (Lay.lst layp (by omega)).t, .lst (SqL.of (D15.hd2 _ _ (hd2_of ((x9.trans (x10.trans (x11.trans (x12.trans (x13.trans x14))))) _ _ g8) (nw6 x7 h2)))) dp15⟩
      · refine ⟨.tuple (ps ++ [.tuple [pS "a", pI (-1)]]), nomk rfl, (Lay.tup (k := 2) (fun d hd => ?_) (by rw [List.length_append]; simp; omega)).t, .tup (sqt_ex q11 ((Ex.hd2 (x12.trans (x13.trans x14))).trans D15.hd2)) (DrAll.app dp15 (.cons (.tup (SqT.of (D15.hd2 _ _ (hd2_of ((x10.trans (x11.trans (x12.trans (x13.trans x14)))) _ _ g9) (nw6 e68 h3)))) (.cons (.str _) (.cons (.int _) .nil))) .nil))⟩
        rcases List.mem_append.mp hd with hd | hd
        · exact (layp d hd).mono (by decide)
        · rw [List.mem_singleton.mp hd]
          exact Lay.tup (k := 1) (by simp [sa, (Lay.int (-1)).mono]) (by simp)
      · refine ⟨.tuple (ps ++ [pS "a"]), nomk rfl, (Lay.tup (k := 1) (fun d hd => ?_) (by rw [List.length_append]; simp; omega)).t, .tup (sqt_ex q13 ((Ex.hd2 x14).trans D15.hd2)) (DrAll.app dp15 (.cons (.str _) .nil))⟩
        rcases List.mem_append.mp hd with hd | hd
        · exact layp d hd
        · rw [List.mem_singleton.mp hd]
          exact sa
    obtain ⟨e, he, te, de⟩ := hm
    exact ⟨v, e, rfl, .inr (.inr (.inr (.inr (.inl ⟨rfl, jB, he⟩)))), te, de, D615⟩
  clear oa3 dv3 te3 D6
  rintro σ H7 ⟨v4, e4, rfl, oa4, te4, dv4, D7⟩
  refine ⟨fun σ H' => ∃ v e, σ = [some (.ref w), some (.str wd), some (.ref a), some (.int kd), some (.int (j : Int)), none, some v] ∧ OddAt wd ds j e ∧ txt e ∧ Dr K (hd2 w b' H') v e ∧ Dn w (n + 7) H H', ?_, ?_⟩
  · have keep : (fun σ H' => ∃ v e, σ = [some (.ref w), some (.str wd), some (.ref a), some (.int kd), some (.int (j : Int)), none, some v] ∧ OddAt wd ds j e ∧ txt e ∧ Dr K (hd2 w b' H') v e ∧ Dn w (n + 7) H H') [some (.ref w), some (.str wd), some (.ref a), some (.int kd), some (.int (j : Int)), none, some v4] H7 := ⟨v4, e4, rfl, oa4, te4, dv4, ⟨D7.wl.mono (by omega), D7.k⟩⟩
    try unfold tNil
    refine ⟨_, rfl, (by show 2 ≤ sizeLine; decide), fun t ht => ?_⟩
    generalize hH_ : upd H7 t _ = H8
    have x8 : Evl.Ex H7 H8 := (by rw [← hH_]; exact Evl.Ex.new ht)
    have g8 := (congrFun hH_ t).symm
    rw [upd_same] at g8
    clear hH_
    have D78 := D7.exr x8
    have keep8 : (fun σ H' => ∃ v e, σ = [some (.ref w), some (.str wd), some (.ref a), some (.int kd), some (.int (j : Int)), none, some v] ∧ OddAt wd ds j e ∧ txt e ∧ Dr K (hd2 w b' H') v e ∧ Dn w (n + 7) H H') [some (.ref w), some (.str wd), some (.ref a), some (.int kd), some (.int (j : Int)), none, some v4] H8 := ⟨v4, e4, rfl, oa4, te4, Dr.ex (Ex.hd2 x8) _ _ dv4, ⟨D78.wl.mono (by omega), D78.k⟩⟩
    refine ⟨t, _, rfl, .inr (SqT.of g8), rfl, rfl, _, rfl, ite2 (fun zA => ?_) (fun zA => iteF' (by simpa using zA) keep8)⟩
    refine ⟨_, rfl, rfl, _, rfl, ite2 (fun zB => ?_) (fun zB => keep8)⟩
    have jB : j = 1 := by have := of_decide_eq_true zB; injection this with this; omega
    have wA : wd = "sentback" ∨ wd = "laid" := by
      have q : ∀ b : Str, eqV (.str b) (.str wd) = decide (wd = b) := fun b => by
        by_cases h : wd = b
        · rw [decide_eq_true h, h]
          simp [eqV]
        · rw [decide_eq_false h]
          have h' : ¬ b = wd := fun y => h y.symm
          simp [eqV, h']
      have zA : (eqV (.str "sentback") (.str wd) || (eqV (.str "laid") (.str wd) || false)) = true := zA
      rw [q, q, Bool.or_false, Bool.or_eq_true, decide_eq_true_eq, decide_eq_true_eq] at zA
      exact zA
    refine ⟨_, rfl, (by show 6 ≤ sizeLine; decide), fun p hp => ?_⟩
    generalize hH_ : upd H8 p _ = H9
    have x9 : Evl.Ex H8 H9 := (by rw [← hH_]; exact Evl.Ex.new hp)
    have g9 := (congrFun hH_ p).symm
    rw [upd_same] at g9
    clear hH_
    refine ⟨w, p, n + 6, _, rfl, D78.wl.ex x9, by omega, SqL.of g9, D78.wl.nep hp, (by show 0 < 6; decide), (by show 6 ≤ 1000000; decide), fun v H10 hv D10 => ?_⟩
    have D710 := (D78.exr x9).trans D10
    have hm : ∃ e, isWhyD e = false ∧ txt e ∧ Dr K (hd2 w b' H10) v e := by
      simp only [List.mem_cons, List.not_mem_nil, or_false] at hv
      rcases hv with rfl | rfl | rfl | rfl | rfl | rfl
      · exact ⟨pS "Ring", by decide +kernel, (Lay.str (by decide +kernel) (by decide +kernel)).t, .str _⟩
      · exact ⟨pS "", by decide +kernel, (Lay.str (by decide +kernel) (by decide +kernel)).t, .str _⟩
      · exact ⟨pS "rings", by decide +kernel, (Lay.str (by decide +kernel) (by decide +kernel)).t, .str _⟩
      · exact ⟨.none, rfl, Lay.non.t, .non⟩
      · exact ⟨.bool true, rfl, (Lay.bl true).t, .bl true⟩
      · exact ⟨pS "late", by decide +kernel, (Lay.str (by decide +kernel) (by decide +kernel)).t, .str _⟩
    obtain ⟨e, he, te, de⟩ := hm
    exact ⟨v, e, rfl, .inr (.inr (.inr (.inr (.inr ⟨wA, jB, he⟩)))), te, de, D710⟩
  clear oa4 dv4 te4 D7
  rintro σ H8 ⟨v5, e5, rfl, oa5, te5, dv5, D8⟩
  have hb8 := D8.live hb
  have w8 : ∀ {HX : Hp}, Evl.Ex H8 HX → (∃ o, HX w = some o) ∧ Live b' HX := fun e => ⟨(D8.wl.ex e).some, live_ex hb8 e⟩
  have st8 := sqt_ex st D8.hd2
  have da8 := DrAll.ex D8.hd2 _ _ da
  try unfold tNil
  try unfold tNoPart
  refine ⟨_, rfl, _, rfl, _, rfl, slA_hd2 (w8 (Evl.Ex.refl _)) st8 fun r1 H9 x9 q9 => ⟨_, rfl, (by show 1 ≤ sizeLine; decide), fun p2 h2 => ?_⟩⟩
  generalize hH_ : upd H9 p2 _ = H10
  have x10 : Evl.Ex H9 H10 := (by rw [← hH_]; exact Evl.Ex.new h2)
  have g10 := (congrFun hH_ p2).symm
  rw [upd_same] at g10
  clear hH_
  have ld := da8.len
  have q9' : SqT K (hd2 w b' H9) r1 (xs.take j) := by rw [← cutV_take]; exact q9
  have e810 := x9.trans x10
  have n2 : p2 ≠ w ∧ p2 ∉ b' := ⟨(D8.wl.ex x9).nep h2, live_ne (live_ex hb8 x9) h2⟩
  refine catA_hd2 (w8 e810) (sqt_ex q9' (Ex.hd2 x10)) (SqT.of (hd2_of g10 n2)) (by rw [List.length_take]; show _ + 1 ≤ 100000; omega) fun r3 H11 x11 q11 => ?_
  have e811 := e810.trans x11
  refine ⟨_, rfl, _, rfl, _, _, rfl, rfl, _, rfl, slA_hd2 (w8 e811) (sqt_ex st8 (Ex.hd2 e811)) fun r4 H12 x12 q12 => ?_⟩
  have q12' : SqT K (hd2 w b' H12) r4 (xs.drop (j + 1)) := by rw [← cutV_drop]; exact q12
  have e812 := e811.trans x12
  refine catA_hd2 (w8 e812) (sqt_ex q11 (Ex.hd2 x12)) q12' (by rw [List.length_append, List.length_take, List.length_drop]; show _ + 1 + _ ≤ 100000; omega) fun r5 H13 x13 q13 => ?_
  have e813 := e812.trans x13
  have D813 := D8.exr e813
  have e8 : ds.set j e5 = ds.take j ++ [e5] ++ ds.drop (j + 1) := by
    rw [List.set_eq_take_append_cons_drop, if_pos jl]
    simp
  have da13 := DrAll.ex (Ex.hd2 (w := w) (B := b') e813) _ _ da8
  refine k _ (.tuple (ds.set j e5)) H13 (oa5.bad gt jl np) (txt_mk (fun d hd => ?_) (by rw [List.length_set]; omega)) (.tup q13 ?_) ⟨D813.wl.mono (by omega), D813.k⟩
  · rcases List.mem_or_eq_of_mem_set hd with hd | rfl
    · exact (lay d hd).t
    · exact te5
  · rw [e8]
    exact DrAll.app (DrAll.app (DrAll.take j da13) (.cons (Dr.ex (Ex.hd2 e813) _ _ dv5) .nil)) (DrAll.drop _ da13)


end
end Lw

namespace Lw
open PySem PySem.Spec PyProof.Rows L2 TP
section
variable {P : Program} {w : World} {K : PySem.W.Frag} {mg : Str → Option Value} {base : Heap}

theorem ok_law_spoilt (T : TX w K mg) : Gt P w K mg base CX0 6 "_law_spoilt" ["_law_source", "_law_parts", "_law_at"] (spSpoilt K) := by
  refine gt_mk (D_law_spoilt T) (g_law_spoilt T) sc_law_spoilt rfl (fun _ _ _ _ _ _ us hl => match us, hl with | [_, _, _], _ => rfl) (fun vs H Q E h => ?_) (fun f cdv A outer s H vs Q E hr h => ?_)
  · obtain ⟨w, p, n, i, us, d0, d1, d2, wd, ds, cs, rfl, _⟩ := h
    rfl
  obtain ⟨w, p, n, i, us, d0, d1, d2, wd, ds, cs, rfl, hi, hw, hn, pw, hp, ps, da, k⟩ := h
  obtain ⟨u0, u1, u2, a4, a5, us5, rfl, r4, s5, r5⟩ : ∃ u0 u1 u2 a4 a5 us5, us = [u0, u1, u2, .str wd, .ref a4, .ref a5] ∧ Dr K (hid w H) (.ref a4) (.tuple ds) ∧ SqT K (hid w H) a5 us5 ∧ DrAll K (hid w H) us5 cs := by
    cases da with
    | cons r0 da => cases da with
    | cons r1 da => cases da with
    | cons r2 da => cases da with
    | cons r3 da => cases da with
    | cons r4 da => cases da with
    | cons r5 da =>
      cases da
      cases r3
      obtain ⟨a4, _, rfl, _⟩ := r4.tupI
      obtain ⟨a5, us5, rfl, s5, q5⟩ := r5.tupI
      exact ⟨_, _, _, _, _, _, rfl, r4, s5, q5⟩
  have hint : (i : Int) < 6 := by omega
  refine ⟨_, (pss_cons (ps_set (i := 3) sc_law_spoilt.nd rfl (by first | exact Or.inl rfl | exact Or.inr rfl) (pe_callTy call_list_of (by rfl) (f_list T) (by decide +kernel) (pa_cons (pv 1) pa_nil)))
    (pss_cons (ps_if (pt_cmpR op_lt (pv 2) pe_int (nomark _))
      (pss_cons (ps_set (i := 4) sc_law_spoilt.nd rfl (by first | exact Or.inl rfl | exact Or.inr rfl) (pe_lst (pa_cons pe_str (pa_cons pe_str (pa_cons pe_str (pa_cons pe_str (pa_cons pe_int (pa_cons pe_non (pa_cons pe_bl (pa_cons (pe_tup (pa_cons pe_str pa_nil)) pa_nil))))))))))
    (pss_cons (ps_set (i := 5) sc_law_spoilt.nd rfl (by first | exact Or.inl rfl | exact Or.inr rfl) (pe_lst (pa_cons (pe_un un_neg pe_int) (pa_cons pe_bl (pa_cons pe_str (pa_cons pe_non (pa_cons (pe_tup (pa_cons pe_int pa_nil)) (pa_cons (pe_lst (pa_cons pe_int pa_nil)) pa_nil))))))))
    (pss_cons (ps_set (i := 6) sc_law_spoilt.nd rfl (by first | exact Or.inl rfl | exact Or.inr rfl) (pe_lst (pa_cons pe_str (pa_cons pe_str (pa_cons pe_str (pa_cons pe_str (pa_cons pe_non (pa_cons pe_int (pa_cons (pe_tup (pa_cons pe_str pa_nil)) (pa_cons (pe_lst (pa_cons pe_str pa_nil)) pa_nil))))))))))
    (pss_one (ps_asg ((ok_one T).pe (hr.mono (by decide)) (pa_cons (pv 0) (pa_cons (pe_ix ix_list (pe_lst (pa_cons (pv 4) (pa_cons (pv 5) (pa_cons (pv 5) (pa_cons (pv 6) pa_nil))))) (pv 2) (fun _ _ => rfl)) pa_nil))) (pg_sub (pv 3) (pv 2) set_list))))))
      (pss_one (ps_if (pt_cmpR op_eq (pv 2) pe_int (nomark _))
      (pss_one (ps_asg ((ok_law_odd_things T).pe (hr.mono (by decide)) (pa_cons (pv 0) (pa_cons (pe_ix ix_list (pv 1) pe_int (fun _ _ => rfl)) (pa_cons (pe_ix ix_list (pv 1) pe_int (fun _ _ => rfl)) pa_nil)))) (pg_sub (pv 3) pe_int set_list)))
      (pss_cons (ps_set (i := 7) sc_law_spoilt.nd rfl (by first | exact Or.inl rfl | exact Or.inr rfl) (pe_ix ix_list (pv 1) pe_int (fun _ _ => rfl)))
    (pss_cons (ps_set (i := 8) sc_law_spoilt.nd rfl (by first | exact Or.inl rfl | exact Or.inr rfl) (pe_lst (pa_cons (pe_callTy call_list_of (by rfl) (f_list T) (by decide +kernel) (pa_cons (pv 7) pa_nil)) (pa_cons (pe_op op_catA (pv 7) (pe_tup (pa_cons (pe_tup (pa_cons pe_str (pa_cons pe_int pa_nil))) pa_nil))) (pa_cons pe_non (pa_cons (pe_op op_catA (pv 7) (pe_tup (pa_cons pe_str pa_nil))) (pa_cons (pe_op op_catA (pe_tup (pa_cons (pe_tup (pa_cons pe_str (pa_cons (pe_un un_neg pe_int) pa_nil))) pa_nil)) (pe_slice sl_tupA (pv 7) (po_some pe_int) po_none)) (pa_cons (pe_tup (pa_cons (pe_tup (pa_cons pe_str (pa_cons pe_bl pa_nil))) pa_nil)) pa_nil))))))))
    (pss_one (ps_asg ((ok_one T).pe (hr.mono (by decide)) (pa_cons (pv 0) (pa_cons (pe_op op_cat (pv 8) (pe_op op_rep (pe_lst (pa_cons (pe_slice sl_tupA (pv 7) (po_some pe_int) po_none) pa_nil)) (pe_callTy call_int1 (by rfl) (f_int T) (by decide +kernel) (pa_cons (pe_cmpR (op_neR (sysK T) hr.units) (pv 7) (pe_tup pa_nil) (nomark _)) pa_nil)))) pa_nil))) (pg_sub (pv 3) pe_int set_list))))))))
    (pss_one (ps_ret (pv 3))))), ?_⟩
  refine ⟨_, rfl, p, _, rfl, .inl (SqL.of hp), fun f hf => ?_⟩
  have fw : f ≠ w := hw.nep hf
  have en := hid_hd2 (w := w) (o := .lst [u0, u1, u2, .str wd, .ref a4, .ref a5]) hf
  obtain ⟨H1, hH1⟩ : ∃ H1, H1 = upd H f (.lst [u0, u1, u2, .str wd, .ref a4, .ref a5]) := ⟨_, rfl⟩
  rw [← hH1] at en ⊢
  have x1 : Evl.Ex H H1 := by rw [hH1]; exact Evl.Ex.new hf
  have g1 : H1 f = some (.lst [u0, u1, u2, .str wd, .ref a4, .ref a5]) := by rw [hH1, upd_same]
  have D1 : Dn w n H H1 := Dn.of hw x1
  have hb1 : Live [f] H1 := fun b hm => by rw [List.mem_singleton.mp hm]; exact ⟨_, g1⟩
  have q4 := Dr.ex en _ _ r4
  have t5 := sqt_ex s5 en
  have q5 := DrAll.ex en _ _ r5
  have w1 : ∀ {HX : Hp}, Evl.Ex H1 HX → (∃ o, HX w = some o) ∧ Live [f] HX := fun e => ⟨(D1.wl.ex e).some, live_ex hb1 e⟩
  have nw : ∀ {HX : Hp} {p : Addr}, Evl.Ex H1 HX → HX p = none → p ≠ w ∧ p ∉ [f] := fun e hp => ⟨(D1.wl.ex e).nep hp, live_ne (live_ex hb1 e) hp⟩
  have fin : ∀ (v : V) (e : PyData) (H5 : Hp) (m : Nat), m ≤ n + 20 → Bad wd ds i e → txt e → Dr K (hd2 w [f] H5) v e → Dn w m H H5 → Q (.ref f) (upd H5 f (.lst ([u0, u1, u2, .str wd, .ref a4, .ref a5].set i v))) := fun v e H5 m hm be te de D5 => by
    have D6 := Dn.put (o := .lst ([u0, u1, u2, .str wd, .ref a4, .ref a5].set i v)) D5 hf fw
    refine k f v e _ be te (Dr.ex hd2_hid _ _ (by rw [hd2_upd (List.mem_singleton.mpr rfl)]; exact de)) fw upd_same ⟨D6.wl.mono hm, D6.k⟩
  first | refine nrmG (σ' := [_, _, _, _, _, _, _, _, _]) rfl ?_ | refine nrm (σ' := [_, _, _, _, _, _, _, _, _]) rfl ?_
  refine ⟨_, rfl, _, _, rfl, rfl, _, rfl, ite2 (fun z => ?_) (fun z => ?_)⟩
  · have i4 : i < 4 := by have := of_decide_eq_true z; omega
    try unfold tNil
    refine ⟨(by show 1 ≤ sizeLine; decide), fun p1 h1 => ?_⟩
    generalize hH_ : upd H1 p1 _ = H2
    have x2 : Evl.Ex H1 H2 := (by rw [← hH_]; exact Evl.Ex.new h1)
    have g2 := (congrFun hH_ p1).symm
    rw [upd_same] at g2
    clear hH_
    refine ⟨(by show 8 ≤ sizeLine; decide), fun p2 h2 => ?_⟩
    generalize hH_ : upd H2 p2 _ = H3
    have x3 : Evl.Ex H2 H3 := (by rw [← hH_]; exact Evl.Ex.new h2)
    have g3 := (congrFun hH_ p2).symm
    rw [upd_same] at g3
    clear hH_
    first | refine nrmG (σ' := [_, _, _, _, _, _, _, _, _]) rfl ?_ | refine nrm (σ' := [_, _, _, _, _, _, _, _, _]) rfl ?_
    refine ⟨_, rfl, (by show 1 ≤ sizeLine; decide), fun p3 h3 => ?_⟩
    generalize hH_ : upd H3 p3 _ = H4
    have x4 : Evl.Ex H3 H4 := (by rw [← hH_]; exact Evl.Ex.new h3)
    have g4 := (congrFun hH_ p3).symm
    rw [upd_same] at g4
    clear hH_
    refine ⟨(by show 1 ≤ sizeLine; decide), fun p4 h4 => ?_⟩
    generalize hH_ : upd H4 p4 _ = H5
    have x5 : Evl.Ex H4 H5 := (by rw [← hH_]; exact Evl.Ex.new h4)
    have g5 := (congrFun hH_ p4).symm
    rw [upd_same] at g5
    clear hH_
    refine ⟨(by show 6 ≤ sizeLine; decide), fun p5 h5 => ?_⟩
    generalize hH_ : upd H5 p5 _ = H6
    have x6 : Evl.Ex H5 H6 := (by rw [← hH_]; exact Evl.Ex.new h5)
    have g6 := (congrFun hH_ p5).symm
    rw [upd_same] at g6
    clear hH_
    first | refine nrmG (σ' := [_, _, _, _, _, _, _, _, _]) rfl ?_ | refine nrm (σ' := [_, _, _, _, _, _, _, _, _]) rfl ?_
    refine ⟨(by show 1 ≤ sizeLine; decide), fun p6 h6 => ?_⟩
    generalize hH_ : upd H6 p6 _ = H7
    have x7 : Evl.Ex H6 H7 := (by rw [← hH_]; exact Evl.Ex.new h6)
    have g7 := (congrFun hH_ p6).symm
    rw [upd_same] at g7
    clear hH_
    refine ⟨(by show 1 ≤ sizeLine; decide), fun p7 h7 => ?_⟩
    generalize hH_ : upd H7 p7 _ = H8
    have x8 : Evl.Ex H7 H8 := (by rw [← hH_]; exact Evl.Ex.new h7)
    have g8 := (congrFun hH_ p7).symm
    rw [upd_same] at g8
    clear hH_
    refine ⟨(by show 8 ≤ sizeLine; decide), fun p8 h8 => ?_⟩
    generalize hH_ : upd H8 p8 _ = H9
    have x9 : Evl.Ex H8 H9 := (by rw [← hH_]; exact Evl.Ex.new h8)
    have g9 := (congrFun hH_ p8).symm
    rw [upd_same] at g9
    clear hH_
    first | refine nrmG (σ' := [_, _, _, _, _, _, _, _, _]) rfl ?_ | refine nrm (σ' := [_, _, _, _, _, _, _, _, _]) rfl ?_
    refine ⟨_, rfl, _, rfl, _, rfl, _, rfl, _, rfl, (by show 4 ≤ sizeLine; decide), fun p9 h9 => ?_⟩
    generalize hH_ : upd H9 p9 _ = H10
    have x10 : Evl.Ex H9 H10 := (by rw [← hH_]; exact Evl.Ex.new h9)
    have g10 := (congrFun hH_ p9).symm
    rw [upd_same] at g10
    clear hH_
    have E8 := x9.trans x10
    have E7 := x8.trans E8
    have E6 := x7.trans E7
    have E5 := x6.trans E6
    have E4 := x5.trans E5
    have E3 := x4.trans E4
    have E2 := x3.trans E3
    have E1 := x2.trans E2
    have n1 := nw (Evl.Ex.refl _) h1
    have n2 := nw x2 h2
    have n3 := nw (x2.trans x3) h3
    have n4 := nw (x2.trans (x3.trans x4)) h4
    have n5 := nw (x2.trans (x3.trans (x4.trans x5))) h5
    have n6 := nw (x2.trans (x3.trans (x4.trans (x5.trans x6)))) h6
    have n7 := nw (x2.trans (x3.trans (x4.trans (x5.trans (x6.trans x7))))) h7
    have n8 := nw (x2.trans (x3.trans (x4.trans (x5.trans (x6.trans (x7.trans x8)))))) h8
    have str' : ∀ {y : Str}, PyData.strOk y = true → y.length ≤ 1000000 → txt (.str y) := fun a b => (Lay.str a b).t
    have s1 : ∀ y ∈ (["a", "posted", "passed"] : List String), Lay 1 (.str (Str.ofString y)) := fun y hy => (Lay.str (by
      have : ∀ y ∈ (["a", "posted", "passed"] : List String), PyData.strOk (Str.ofString y) = true := by decide +kernel
      exact this y hy) (by
      have : ∀ y ∈ (["a", "posted", "passed"] : List String), (Str.ofString y).length ≤ 1000000 := by decide +kernel
      exact this y hy)).mono (by decide)
    have names : ∀ v ∈ [V.str "", .str "A", .str "abcdefghi", .str "a1", .int 5, .non, .bl true, .ref p1], ∃ e, isNmD e = false ∧ txt e ∧ Dr K (hd2 w [f] H10) v e := fun v hv => by
      simp only [List.mem_cons, List.not_mem_nil, or_false] at hv
      rcases hv with rfl | rfl | rfl | rfl | rfl | rfl | rfl | rfl
      · exact ⟨_, by decide +kernel, str' (by decide +kernel) (by decide +kernel), .str _⟩
      · exact ⟨_, by decide +kernel, str' (by decide +kernel) (by decide +kernel), .str _⟩
      · exact ⟨_, by decide +kernel, str' (by decide +kernel) (by decide +kernel), .str _⟩
      · exact ⟨_, by decide +kernel, str' (by decide +kernel) (by decide +kernel), .str _⟩
      · exact ⟨_, rfl, (Lay.int 5).t, .int 5⟩
      · exact ⟨_, rfl, Lay.non.t, .non⟩
      · exact ⟨_, rfl, (Lay.bl true).t, .bl true⟩
      · exact ⟨.tuple [.str "a"], rfl, (Lay.tup (k := 1) (by intro d hd; rw [List.mem_singleton.mp hd]; exact s1 "a" (by simp)) (by simp)).t, .tup (SqT.of (hd2_of (E2 _ _ g2) n1)) (.cons (.str _) .nil)⟩
    have nums : ∀ v ∈ [V.int (-1), .bl true, .str "0", .non, .ref p3, .ref p4], ∃ e, isFromD e 0 = false ∧ txt e ∧ Dr K (hd2 w [f] H10) v e := fun v hv => by
      simp only [List.mem_cons, List.not_mem_nil, or_false] at hv
      rcases hv with rfl | rfl | rfl | rfl | rfl | rfl
      · exact ⟨_, by decide, (Lay.int _).t, .int _⟩
      · exact ⟨_, rfl, (Lay.bl true).t, .bl true⟩
      · exact ⟨_, rfl, str' (by decide +kernel) (by decide +kernel), .str _⟩
      · exact ⟨_, rfl, Lay.non.t, .non⟩
      · exact ⟨.tuple [.int 0], rfl, (Lay.tup (k := 1) (by intro d hd; rw [List.mem_singleton.mp hd]; exact (Lay.int 0).mono (by decide)) (by simp)).t, .tup (SqT.of (hd2_of (E4 _ _ g4) n3)) (.cons (.int _) .nil)⟩
      · exact ⟨.list [.int 0], rfl, (Lay.lst (k := 1) (by intro d hd; rw [List.mem_singleton.mp hd]; exact (Lay.int 0).mono (by decide)) (by simp)).t, .lst (SqL.of (hd2_of (E5 _ _ g5) n4)) (.cons (.int _) .nil)⟩
    have words : ∀ v ∈ [V.str "", .str "Posted", .str "lost", .str "pass", .non, .int 7, .ref p6, .ref p7], ∃ e, (∀ y, e = .str y → y ∈ oddWords) ∧ txt e ∧ Dr K (hd2 w [f] H10) v e := fun v hv => by
      have ow : ∀ {y : Str}, y ∈ oddWords → ∀ z, PyData.str y = .str z → z ∈ oddWords := fun h z e => by injection e with e; rw [← e]; exact h
      simp only [List.mem_cons, List.not_mem_nil, or_false] at hv
      rcases hv with rfl | rfl | rfl | rfl | rfl | rfl | rfl | rfl
      · exact ⟨_, ow (by simp [oddWords]), str' (by decide +kernel) (by decide +kernel), .str _⟩
      · exact ⟨_, ow (by simp [oddWords]), str' (by decide +kernel) (by decide +kernel), .str _⟩
      · exact ⟨_, ow (by simp [oddWords]), str' (by decide +kernel) (by decide +kernel), .str _⟩
      · exact ⟨_, ow (by simp [oddWords]), str' (by decide +kernel) (by decide +kernel), .str _⟩
      · exact ⟨.none, (fun _ z => nomatch z), Lay.non.t, .non⟩
      · exact ⟨.int 7, (fun _ z => nomatch z), (Lay.int 7).t, .int 7⟩
      · exact ⟨.tuple [.str "posted"], (fun _ z => nomatch z), (Lay.tup (k := 1) (by intro d hd; rw [List.mem_singleton.mp hd]; exact s1 "posted" (by simp)) (by simp)).t, .tup (SqT.of (hd2_of (E7 _ _ g7) n6)) (.cons (.str _) .nil)⟩
      · exact ⟨.list [.str "passed"], (fun _ z => nomatch z), (Lay.lst (k := 1) (by intro d hd; rw [List.mem_singleton.mp hd]; exact s1 "passed" (by simp)) (by simp)).t, .lst (SqL.of (hd2_of (E8 _ _ g8) n7)) (.cons (.str _) .nil)⟩
    obtain ⟨L, VS, hL, gL, nL, l1, l2, bad⟩ : ∃ L VS, [V.ref p2, .ref p5, .ref p5, .ref p8][i]? = some (.ref L) ∧ H10 L = some (.lst VS) ∧ L ≠ w ∧ 0 < VS.length ∧ VS.length ≤ 1000000 ∧ ∀ v ∈ VS, ∃ e, Bad wd ds i e ∧ txt e ∧ Dr K (hd2 w [f] H10) v e := by
      match i, i4 with
      | 0, _ => exact ⟨p2, _, rfl, E3 _ _ g3, n2.1, by simp, by simp, names⟩
      | 1, _ => exact ⟨p5, _, rfl, E6 _ _ g6, n5.1, by simp, by simp, nums⟩
      | 2, _ => exact ⟨p5, _, rfl, E6 _ _ g6, n5.1, by simp, by simp, nums⟩
      | 3, _ => exact ⟨p8, _, rfl, x10 _ _ g9, n8.1, by simp, by simp, words⟩
    refine ⟨_, rfl, p9, _, _, _, rfl, rfl, SqL.of g10, atI_nat hL, w, L, n, VS, rfl, D1.wl.ex E1, by omega, SqL.of gL, nL, l1, l2, fun v H11 hv D11 => ?_⟩
    obtain ⟨e, be, te, de⟩ := bad v hv
    refine ⟨_, rfl, _, rfl, f, _, _, i, rfl, rfl, D11.k _ _ fw (E1 _ _ g1), ixN_ok hi, ?_⟩
    exact ⟨_, rfl, fin v e H11 (n + 1) (by omega) be te (Dr.ex D11.hd2 _ _ de) ((D1.exr E1).trans D11)⟩
  refine ⟨_, rfl, rfl, _, rfl, ite2 (fun z4 => ?_) (fun z4 => ?_)⟩
  · have i4 : i = 4 := by have := of_decide_eq_true z4; injection this with this; omega
    subst i4
    have hp1 := x1 _ _ hp
    refine ⟨_, rfl, _, rfl, p, _, 3, .str wd, rfl, rfl, SqL.of hp1, rfl, _, rfl, p, _, 4, .ref a4, rfl, rfl, SqL.of hp1, rfl, w, a4, [f], n, wd, ds, rfl, D1.wl, hb1, by omega, ps.g, q4, fun v e H2 be te de D2 => ?_⟩
    refine ⟨_, rfl, f, _, 4, 4, rfl, rfl, D2.k _ _ fw g1, rfl, ?_⟩
    exact ⟨_, rfl, fin v e H2 (n + 10) (by omega) be te de (D1.trans D2)⟩
  have i5 : i = 5 := by
    have a : ¬ (i : Int) < 4 := fun h => z (decide_eq_true h)
    have b : ¬ i = 4 := fun h => z4 (decide_eq_true (by rw [h]; rfl))
    omega
  subst i5
  have c3 := ps.cs3
  have l5 := q5.len
  have layc : ∀ d ∈ cs, Lay 1 d := fun d hd => .ok (ps.m d hd).ok
  have hp1 := x1 _ _ hp
  have sa : Lay 1 (pS "a") := (Lay.str (by decide +kernel) (by decide +kernel)).mono (by decide)
  try unfold tNil
  try unfold tNoPart
  refine ⟨_, rfl, p, _, 5, .ref a5, rfl, rfl, SqL.of hp1, rfl, ?_⟩
  first | refine nrmG (σ' := [_, _, _, _, _, _, _, _, _]) rfl ?_ | refine nrm (σ' := [_, _, _, _, _, _, _, _, _]) rfl ?_
  refine ⟨_, rfl, a5, us5, rfl, .inr (sqt_ex t5 hd2_ex), fun p1 h1 => ?_⟩
  generalize hH_ : upd H1 p1 _ = H2
  have x2 : Evl.Ex H1 H2 := (by rw [← hH_]; exact Evl.Ex.new h1)
  have g2 := (congrFun hH_ p1).symm
  rw [upd_same] at g2
  clear hH_
  refine ⟨_, rfl, (by show 2 ≤ sizeLine; decide), fun p2 h2 => ?_⟩
  generalize hH_ : upd H2 p2 _ = H3
  have x3 : Evl.Ex H2 H3 := (by rw [← hH_]; exact Evl.Ex.new h2)
  have g3 := (congrFun hH_ p2).symm
  rw [upd_same] at g3
  clear hH_
  refine ⟨(by show 1 ≤ sizeLine; decide), fun p3 h3 => ?_⟩
  generalize hH_ : upd H3 p3 _ = H4
  have x4 : Evl.Ex H3 H4 := (by rw [← hH_]; exact Evl.Ex.new h3)
  have g4 := (congrFun hH_ p3).symm
  rw [upd_same] at g4
  clear hH_
  have e13 := x2.trans x3
  have e14 := e13.trans x4
  refine catA_hd2 (w1 e14) (sqt_ex t5 (Ex.hd2 e14)) (SqT.of (hd2_of g4 (nw e13 h3))) (by show us5.length + 1 ≤ 100000; omega) fun r4 H5 x5 q4' => ?_
  have e15 := e14.trans x5
  refine ⟨_, rfl, (by show 1 ≤ sizeLine; decide), fun p6 h6 => ?_⟩
  generalize hH_ : upd H5 p6 _ = H6
  have x6 : Evl.Ex H5 H6 := (by rw [← hH_]; exact Evl.Ex.new h6)
  have g6 := (congrFun hH_ p6).symm
  rw [upd_same] at g6
  clear hH_
  have e16 := e15.trans x6
  refine catA_hd2 (w1 e16) (sqt_ex t5 (Ex.hd2 e16)) (SqT.of (hd2_of g6 (nw e15 h6))) (by show us5.length + 1 ≤ 100000; omega) fun r7 H7 x7 q7 => ?_
  have e17 := e16.trans x7
  refine ⟨_, rfl, (by show 2 ≤ sizeLine; decide), fun p8 h8 => ?_⟩
  generalize hH_ : upd H7 p8 _ = H8
  have x8 : Evl.Ex H7 H8 := (by rw [← hH_]; exact Evl.Ex.new h8)
  have g8 := (congrFun hH_ p8).symm
  rw [upd_same] at g8
  clear hH_
  have e18 := e17.trans x8
  refine ⟨(by show 1 ≤ sizeLine; decide), fun p9 h9 => ?_⟩
  generalize hH_ : upd H8 p9 _ = H9
  have x9 : Evl.Ex H8 H9 := (by rw [← hH_]; exact Evl.Ex.new h9)
  have g9 := (congrFun hH_ p9).symm
  rw [upd_same] at g9
  clear hH_
  have e19 := e18.trans x9
  refine ⟨_, rfl, _, rfl, slA_hd2 (w1 e19) (sqt_ex t5 (Ex.hd2 e19)) fun r10 H10 x10 q10 => ?_⟩
  have q10' : SqT K (hd2 w [f] H10) r10 (us5.drop 1) := by rw [← cutV_drop]; exact q10
  have e110 := e19.trans x10
  refine catA_hd2 (w1 e110) (SqT.of (hd2_of (x10 _ _ g9) (nw e18 h9))) q10' (by rw [List.length_drop]; show 1 + _ ≤ 100000; omega) fun r11 H11 x11 q11 => ?_
  have e111 := e110.trans x11
  refine ⟨(by show 2 ≤ sizeLine; decide), fun p12 h12 => ?_⟩
  generalize hH_ : upd H11 p12 _ = H12
  have x12 : Evl.Ex H11 H12 := (by rw [← hH_]; exact Evl.Ex.new h12)
  have g12 := (congrFun hH_ p12).symm
  rw [upd_same] at g12
  clear hH_
  have e112 := e111.trans x12
  refine ⟨(by show 1 ≤ sizeLine; decide), fun p13 h13 => ?_⟩
  generalize hH_ : upd H12 p13 _ = H13
  have x13 : Evl.Ex H12 H13 := (by rw [← hH_]; exact Evl.Ex.new h13)
  have g13 := (congrFun hH_ p13).symm
  rw [upd_same] at g13
  clear hH_
  have e113 := e112.trans x13
  refine ⟨(by show 6 ≤ sizeLine; decide), fun p14 h14 => ?_⟩
  generalize hH_ : upd H13 p14 _ = H14
  have x14 : Evl.Ex H13 H14 := (by rw [← hH_]; exact Evl.Ex.new h14)
  have g14 := (congrFun hH_ p14).symm
  rw [upd_same] at g14
  clear hH_
  have e114 := e113.trans x14
  have t14 := sqt_ex t5 (Ex.hd2 (w := w) (B := [f]) e114)
  have c14 := DrAll.ex (Ex.hd2 (w := w) (B := [f]) e114) _ _ q5
  have E13 := x14
  have E12 := x13.trans E13
  have E11 := x12.trans E12
  have E10 := x11.trans E11
  have E9 := x10.trans E10
  have E8 := x9.trans E9
  have E7 := x8.trans E8
  have E6 := x7.trans E7
  have E5 := x6.trans E6
  have E4 := x5.trans E5
  have E3 := x4.trans E4
  have E2 := x3.trans E3
  have lm : ∀ i : Int, Lay 2 (.tuple [pS "a", .int i]) := fun i => Lay.tup (k := 1) (by intro d hd; simp only [List.mem_cons, List.not_mem_nil, or_false] at hd; rcases hd with rfl | rfl; exact sa; exact (Lay.int _).mono (by decide)) (by simp)
  have lt : Lay 2 (.tuple [pS "a", .bool true]) := Lay.tup (k := 1) (by intro d hd; simp only [List.mem_cons, List.not_mem_nil, or_false] at hd; rcases hd with rfl | rfl; exact sa; exact (Lay.bl true).mono (by decide)) (by simp)
  have lc2 : ∀ d ∈ cs, Lay 2 d := fun d hd => (layc d hd).mono (by decide)
  have bad : ∀ v ∈ [V.ref p1, .ref r4, .non, .ref r7, .ref r11, .ref p13], ∃ e, causesD wd (.tuple ds) e = false ∧ txt e ∧ Dr K (hd2 w [f] H14) v e := fun v hv => by
    simp only [List.mem_cons, List.not_mem_nil, or_false] at hv
    rcases hv with rfl | rfl | rfl | rfl | rfl | rfl
    · exact ⟨.list cs, rfl, (Lay.lst layc (by omega)).t, .lst (SqL.of (hd2_of (E2 _ _ g2) (nw (Evl.Ex.refl _) h1))) c14⟩
    · refine ⟨.tuple (cs ++ [.tuple [pS "a", .int 0]]), badC_len ps (by rw [List.length_append]; simp), (Lay.tup (k := 2) (fun d hd => ?_) (by rw [List.length_append]; simp; omega)).t, .tup (sqt_ex q4' (Ex.hd2 E5)) (DrAll.app c14 (.cons (.tup (SqT.of (hd2_of (E3 _ _ g3) (nw x2 h2))) (.cons (.str _) (.cons (.int _) .nil))) .nil))⟩
      rcases List.mem_append.mp hd with hd | hd
      · exact lc2 d hd
      · rw [List.mem_singleton.mp hd]; exact lm 0
    · exact ⟨.none, rfl, Lay.non.t, .non⟩
    · refine ⟨.tuple (cs ++ [pS "a"]), badC_mk (e := pS "a") (by simp) rfl, (Lay.tup (k := 1) (fun d hd => ?_) (by rw [List.length_append]; simp; omega)).t, .tup (sqt_ex q7 (Ex.hd2 E7)) (DrAll.app c14 (.cons (.str _) .nil))⟩
      rcases List.mem_append.mp hd with hd | hd
      · exact layc d hd
      · rw [List.mem_singleton.mp hd]; exact sa
    · refine ⟨.tuple ([.tuple [pS "a", .int (-1)]] ++ cs.drop 1), badC_mk (e := .tuple [pS "a", .int (-1)]) (by simp) rfl, (Lay.tup (k := 2) (fun d hd => ?_) (by rw [List.length_append, List.length_drop]; simp; omega)).t, .tup (sqt_ex q11 (Ex.hd2 E11)) (DrAll.app (.cons (.tup (SqT.of (hd2_of (E8 _ _ g8) (nw e17 h8))) (.cons (.str _) (.cons (.int _) .nil))) .nil) (DrAll.drop 1 c14))⟩
      rcases List.mem_append.mp hd with hd | hd
      · rw [List.mem_singleton.mp hd]; exact lm (-1)
      · exact lc2 d (List.mem_of_mem_drop hd)
    · exact ⟨.tuple [.tuple [pS "a", .bool true]], badC_mk (e := .tuple [pS "a", .bool true]) (by simp) rfl, (Lay.tup (k := 2) (by intro d hd; rw [List.mem_singleton.mp hd]; exact lt) (by simp)).t, .tup (SqT.of (hd2_of (E13 _ _ g13) (nw e112 h13))) (.cons (.tup (SqT.of (hd2_of (E12 _ _ g12) (nw e111 h12))) (.cons (.str _) (.cons (.bl _) .nil))) .nil)⟩
  first | refine nrmG (σ' := [_, _, _, _, _, _, _, _, _]) rfl ?_ | refine nrm (σ' := [_, _, _, _, _, _, _, _, _]) rfl ?_
  refine ⟨_, rfl, _, rfl, _, rfl, _, rfl, slA_hd2 (w1 e114) t14 fun r15 H15 x15 q15 => ⟨(by show 1 ≤ sizeLine; decide), fun p16 h16 => ?_⟩⟩
  have q15' : SqT K (hd2 w [f] H15) r15 (us5.drop 1) := by rw [← cutV_drop]; exact q15
  generalize hH_ : upd H15 p16 _ = H16
  have x16 : Evl.Ex H15 H16 := (by rw [← hH_]; exact Evl.Ex.new h16)
  have g16 := (congrFun hH_ p16).symm
  rw [upd_same] at g16
  clear hH_
  refine ⟨_, rfl, (by show 0 ≤ sizeLine; decide), fun p17 h17 => ?_⟩
  generalize hH_ : upd H16 p17 _ = H17
  have x17 : Evl.Ex H16 H17 := (by rw [← hH_]; exact Evl.Ex.new h17)
  have g17 := (congrFun hH_ p17).symm
  rw [upd_same] at g17
  clear hH_
  have e147 := x15.trans (x16.trans x17)
  have layC : Lay 2 (.tuple cs) := Lay.tup layc (by omega)
  refine ⟨.tuple cs, .tuple [], .tup (sqt_ex t14 (hd2_ex.trans e147)) (DrAll.ex (hd2_ex.trans e147) _ _ c14), .tup (SqT.of g17) .nil, layC.l, rfl, Nat.le_trans layC.d (by decide), ?_⟩
  refine .inr ⟨_, rfl, ?_⟩
  obtain ⟨kk, hkk, k01, kne⟩ : ∃ kk : Int, kk = (if (if true = true then !(PyData.tuple cs).eqv (PyData.tuple []) else (PyData.tuple cs).eqv (PyData.tuple [])) = true then (1 : Int) else 0) ∧ (kk = 0 ∨ kk = 1) ∧ (kk = 1 → cs ≠ []) := by
    refine ⟨_, rfl, ?_, fun h e => ?_⟩
    · generalize (PyData.tuple cs).eqv (PyData.tuple []) = q
      cases q <;> simp
    · rw [e] at h
      cases h
  rw [← hkk]
  refine ⟨p16, _, _, rfl, rfl, x17 _ _ g16, by omega, by omega, (by show 1 * kk.toNat ≤ sizeLine; exact Nat.le_trans (by omega) (show 1 ≤ sizeLine by decide)), fun p18 h18 => ?_⟩
  rw [List.flatten_replicate_singleton]
  generalize hH_ : upd H17 p18 _ = H18
  have x18 : Evl.Ex H17 H18 := (by rw [← hH_]; exact Evl.Ex.new h18)
  have g18 := (congrFun hH_ p18).symm
  rw [upd_same] at g18
  clear hH_
  have e148 := e147.trans x18
  refine ⟨p14, p18, _, _, rfl, rfl, e148 _ _ g14, g18, (by rw [List.length_replicate]; show 6 + kk.toNat ≤ sizeLine; exact Nat.le_trans (show 6 + kk.toNat ≤ 7 by omega) (show 7 ≤ sizeLine by decide)), fun p19 h19 => ?_⟩
  generalize hH_ : upd H18 p19 _ = H19
  have x19 : Evl.Ex H18 H19 := (by rw [← hH_]; exact Evl.Ex.new h19)
  have g19 := (congrFun hH_ p19).symm
  rw [upd_same] at g19
  clear hH_
  have e149 := e148.trans x19
  have e119 := e114.trans e149
  refine ⟨w, p19, n, _, rfl, D1.wl.ex e119, by omega, SqL.of g19, (nw (e114.trans e148) h19).1, (by rw [List.length_append]; simp; omega), (by rw [List.length_append, List.length_replicate]; show 6 + kk.toNat ≤ 1000000; omega), fun v H20 hv D20 => ?_⟩
  have hm : ∃ e, causesD wd (.tuple ds) e = false ∧ txt e ∧ Dr K (hd2 w [f] H19) v e := by
    rcases List.mem_append.mp hv with hv | hv
    · obtain ⟨e, b, t, d⟩ := bad v hv
      exact ⟨e, b, t, Dr.ex (Ex.hd2 e149) _ _ d⟩
    · have k1 : kk = 1 := by
        rcases k01 with h | h
        · rw [h] at hv
          cases hv
        · exact h
      rw [List.eq_of_mem_replicate hv]
      have cn : 0 < cs.length := by
        rcases hcs : cs with _ | ⟨c, r⟩
        · exact absurd hcs (kne k1)
        · simp
      exact ⟨.tuple (cs.drop 1), badC_len ps (by rw [List.length_drop]; omega), (Lay.tup (k := 1) (fun d hd => layc d (List.mem_of_mem_drop hd)) (by rw [List.length_drop]; omega)).t, .tup (sqt_ex q15' (Ex.hd2 (x16.trans (x17.trans (x18.trans x19))))) (DrAll.ex (Ex.hd2 e149) _ _ (DrAll.drop 1 c14))⟩
  obtain ⟨e, be, te, de⟩ := hm
  refine ⟨_, rfl, f, _, 5, 5, rfl, rfl, D20.k _ _ fw (e119 _ _ g1), rfl, ?_⟩
  exact ⟨_, rfl, fin v e H20 (n + 1) (by omega) be te (Dr.ex D20.hd2 _ _ de) ((D1.exr e119).trans D20)⟩


end
end Lw

namespace Lw
open PySem PySem.Spec PyProof.Rows L2 TP
section
variable {P : Program} {w : World} {K : PySem.W.Frag} {mg : Str → Option Value} {base : Heap}

theorem body_law (T : TX w K mg) (base : Heap) : BodyOkG P w K mg base 13 ["_law_script", "_law_whys", "_law_cell", "_law_source", "_law_parts", "_law_some", "_law_found", "_law_at", "_law_turn"] d_law (spLaw K) := by
  intro f cdv A outer s H vs Q E hg hr h
  obtain ⟨a, ns, rfl, hS, h63, hbits, k⟩ := h
  refine ⟨_, (pss_cons (ps_set (i := 1) sc_law.nd rfl (by first | exact Or.inl rfl | exact Or.inr rfl) (pe_lst (pa_cons pe_str (pa_cons pe_str (pa_cons pe_str (pa_cons pe_str (pa_cons pe_str (pa_cons pe_str pa_nil))))))))
    (pss_cons (ps_for PassesOwn.never rfl (pi_list (pe_op op_cat (pe_slice sl_list (pv 0) po_none (po_some pe_int)) (pe_lst (pa_cons pe_int (pa_cons pe_int pa_nil))))) (pg_name (i := 2) sc_law.nd rfl (by first | exact Or.inl rfl | exact Or.inr rfl))
      (pss_cons (ps_set (i := 3) sc_law.nd rfl (by first | exact Or.inl rfl | exact Or.inr rfl) ((ok_well T).pe (hr.mono (by decide)) (pa_cons (pv 2) pa_nil)))
    (pss_cons (ps_set (i := 4) sc_law.nd rfl (by first | exact Or.inl rfl | exact Or.inr rfl) ((ok_law_drawn T).pe (hr.mono (by decide)) (pa_cons (pv 3) pa_nil)))
    (pss_cons (ps_set (i := 5) sc_law.nd rfl (by first | exact Or.inl rfl | exact Or.inr rfl) (pe_callB (cr_sortedSet rfl) (by rfl) (f_sorted T) (by decide +kernel) (pa_cons (pe_callTy (cr_setI rfl) (by rfl) (f_set T) (by decide +kernel) (pa_cons (pe_lst (pa_cons ((ok_draw T).pe (hr.mono (by decide)) (pa_cons (pv 3) (pa_cons pe_int pa_nil))) (pa_cons ((ok_one T).pe (hr.mono (by decide)) (pa_cons (pv 3) (pa_cons (pe_lst (pa_cons pe_int (pa_cons pe_int (pa_cons pe_int (pa_cons ((ok_draw T).pe (hr.mono (by decide)) (pa_cons (pv 3) (pa_cons pe_int pa_nil))) pa_nil))))) pa_nil))) pa_nil))) pa_nil)) pa_nil)))
    (C8.pss_cut (ps_if (pt_cmpR op_eq ((ok_draw T).pe (hr.mono (by decide)) (pa_cons (pv 3) (pa_cons pe_int pa_nil))) pe_int (nomark _))
      (pss_one (ps_set (i := 5) sc_law.nd rfl (by first | exact Or.inl rfl | exact Or.inr rfl) (pe_slice sl_list (pv 5) (po_some (pe_un un_neg pe_int)) po_none)))
      pss_nil)
    (pss_cons (ps_set (i := 6) sc_law.nd rfl (by first | exact Or.inl rfl | exact Or.inr rfl) (pv 4))
    (pss_cons (ps_for PassesOwn.never rfl (pi_list (pv 5)) (pg_name (i := 7) sc_law.nd rfl (by first | exact Or.inl rfl | exact Or.inr rfl))
      (pss_one (ps_set (i := 6) sc_law.nd rfl (by first | exact Or.inl rfl | exact Or.inr rfl) (pe_op op_cat (pe_op op_cat (pe_slice sl_list (pv 6) po_none (po_some (pv 7))) (pe_slice sl_list ((ok_law_spoilt T).pe (hr.mono (by decide)) (pa_cons (pv 3) (pa_cons (pv 4) (pa_cons (pv 7) pa_nil)))) (po_some (pv 7)) (po_some (pe_op op_add (pv 7) pe_int)))) (pe_slice sl_list (pv 6) (po_some (pe_op op_add (pv 7) pe_int)) po_none)))))
    (pss_cons (ps_for PassesOwn.never rfl (pi_range1 (by rfl) (f_range T) (pa_cons pe_int pa_nil)) (pg_name (i := 8) sc_law.nd rfl (by first | exact Or.inl rfl | exact Or.inr rfl))
      (pss_one (ps_if (pt_cmpR op_ne ((ok_law_refused T).pe (hr.mono (by decide)) (pa_cons (pv 6) pa_nil)) (pe_ix ix_list (pv 1) (pe_ix ix_list (pv 5) pe_int (fun _ _ => rfl)) (fun _ _ => rfl)) (nomark _))
      (pss_one (ps_ret pe_bl))
      pss_nil)))
    (pss_one (ps_if (pt_cmpR op_ne ((ok_law_refused T).pe (hr.mono (by decide)) (pa_cons (pv 4) pa_nil)) pe_str (nomark _))
      (pss_one (ps_ret pe_bl))
      pss_nil))))))))))
    (pss_one (ps_ret pe_bl)))), ?_⟩
  refine ⟨(by show 6 ≤ sizeLine; decide), fun lw hlw => ?_⟩
  generalize hH_ : upd H lw _ = Ha
  have xa : Evl.Ex H Ha := (by rw [← hH_]; exact Evl.Ex.new hlw)
  have ga := (congrFun hH_ lw).symm
  rw [upd_same] at ga
  clear hH_
  first | refine nrmG (σ' := [_, _, _, _, _, _, _, _, _]) rfl ?_ | refine nrm (σ' := [_, _, _, _, _, _, _, _, _]) rfl ?_
  refine ⟨_, rfl, _, rfl, a, _, rfl, sql_ex hS xa, fun l1 hl1 => ⟨(by show 2 ≤ sizeLine; decide), fun l2 hl2 => ?_⟩⟩
  have n12 : l1 ≠ l2 := ne_of_none upd_same hl2
  have ga1 : upd (upd Ha l1 (.lst (cutV (ns.map V.int) none (some 12)))) l2 (.lst [.int 0, .int 1]) lw = _ := (upd_ne (ne_of_none (Eq.trans (upd_ne (ne_of_none ga hl1)) ga) hl2)).trans ((upd_ne (ne_of_none ga hl1)).trans ga)
  refine ⟨l1, l2, _, _, rfl, rfl, Eq.trans (upd_ne n12) upd_same, upd_same, cells_len h63, fun l hl => ?_⟩
  have gal := (upd_ne (o := .lst (cutV (ns.map V.int) none (some 12) ++ [.int 0, .int 1])) (ne_of_none ga1 hl)).trans ga1
  generalize hWH : [V.str "house", .str "number", .str "tick", .str "word", .str "things", .str "causes"] = WH at ga ga1 gal
  refine ⟨l, rfl, ⟨_, SqL.of upd_same⟩, for_list (K := K) (a := l) (xs := cutV (ns.map V.int) none (some 12) ++ [.int 0, .int 1])
    (fun i σ H' => (∃ v2 v3 v4 v5 v6 v7 v8, σ = [some (.ref a), some (.ref lw), v2, v3, v4, v5, v6, v7, v8]) ∧ H' l = some (.lst (cutV (ns.map V.int) none (some 12) ++ [.int 0, .int 1])) ∧ H' lw = some (.lst WH))
    ⟨⟨_, _, _, _, _, _, _, rfl⟩, upd_same, gal⟩ (fun i σ H' _ q => SqL.of q.2.1) ?_ ?_⟩
  rotate_left
  · rintro σ H' ⟨⟨v2, v3, v4, v5, v6, v7, v8, rfl⟩, _⟩
    exact k H'
  rintro i x σ H0 hx ⟨⟨v2, v3, v4, v5, v6, v7, v8, rfl⟩, hl0, hw0⟩
  obtain ⟨cell, rfl⟩ := cells_int hx
  generalize hcs : (cutV (ns.map V.int) none (some 12) ++ [.int 0, .int 1]) = cs0 at hl0 ⊢
  refine ⟨_, rfl, cell, rfl, fun w1 H1 hw1 W1 e1 => ?_⟩
  have nl : l ≠ w1 := ne_of_none hl0 hw1
  have nlw : lw ≠ w1 := ne_of_none hw0 hw1
  have hl1' := e1 _ _ hl0
  have hw1' := e1 _ _ hw0
  first | refine nrmG (σ' := [_, _, _, _, _, _, _, _, _]) rfl ?_ | refine nrm (σ' := [_, _, _, _, _, _, _, _, _]) rfl ?_
  refine ⟨_, rfl, w1, 0, rfl, W1, by omega, fun p y0 y1 y2 y4 y5 wd d0 d1 d2 ds cs H2 ps hp0 gp r0 r1 r2 r4 r5 D2 => ?_⟩
  have pw : p ≠ w1 := W1.nep hp0
  obtain ⟨o1, ho1⟩ := W1.some
  have en : Evl.Ex (nw H1 H2) (hid w1 H2) := nw_hid nw_ex ho1
  have da : DrAll K (hid w1 H2) [y0, y1, y2, .str wd, y4, y5] [d0, d1, d2, .str wd, .tuple ds, .tuple cs] := .cons (Dr.ex en _ _ r0) (.cons (Dr.ex en _ _ r1) (.cons (Dr.ex en _ _ r2) (.cons (.str wd) (.cons (Dr.ex en _ _ r4) (.cons (Dr.ex en _ _ r5) .nil)))))
  clear r0 r1 r2 r4 r5
  first | refine nrmG (σ' := [_, _, _, _, _, _, _, _, _]) rfl ?_ | refine nrm (σ' := [_, _, _, _, _, _, _, _, _]) rfl ?_
  refine ⟨_, rfl, w1, 700, 6, rfl, D2.wl, by omega, by decide, by decide +kernel, fun i1 H3 a0 a6 D3 => ?_⟩
  refine ⟨_, rfl, _, rfl, w1, 701, 6, rfl, D3.wl, by omega, by decide, by decide +kernel, fun i2 H4 b0 b6 D4 => ⟨(by show 4 ≤ sizeLine; decide), fun q hq => ?_⟩⟩
  generalize hH_ : upd H4 q _ = H5
  have x5 : Evl.Ex H4 H5 := (by rw [← hH_]; exact Evl.Ex.new hq)
  have g5 := (congrFun hH_ q).symm
  rw [upd_same] at g5
  clear hH_
  refine ⟨w1, q, 702, _, rfl, D4.wl.ex x5, by omega, SqL.of g5, D4.wl.nep hq, (by show 0 < 4; decide), (by show 4 ≤ 1000000; decide), fun v H6 hv D6 => ⟨(by show 2 ≤ sizeLine; decide), fun s5 hs5 => ?_⟩⟩
  obtain ⟨i3, rfl, c0, c6⟩ : ∃ i3 : Int, v = .int i3 ∧ 0 ≤ i3 ∧ i3 < 6 := by
    simp only [List.mem_cons, List.not_mem_nil, or_false] at hv
    rcases hv with rfl | rfl | rfl | rfl
    · exact ⟨4, rfl, by decide, by decide⟩
    · exact ⟨4, rfl, by decide, by decide⟩
    · exact ⟨5, rfl, by decide, by decide⟩
    · exact ⟨i2, rfl, b0, b6⟩
  generalize hH_ : upd H6 s5 _ = H7
  have x7 : Evl.Ex H6 H7 := (by rw [← hH_]; exact Evl.Ex.new hs5)
  have g7 := (congrFun hH_ s5).symm
  rw [upd_same] at g7
  clear hH_
  refine ⟨s5, [i1, i3], rfl, SqL.of g7, by simp, fun sa c hsa hc => ?_⟩
  generalize hH_ : upd H7 sa _ = H8
  have x8 : Evl.Ex H7 H8 := (by rw [← hH_]; exact Evl.Ex.new hsa)
  have g8 := (congrFun hH_ sa).symm
  rw [upd_same] at g8
  clear hH_
  refine ⟨sa, _, c, rfl, g8, Nat.lt_of_le_of_lt hc (by simp), fun ss p9 sw mem len hp9 => ?_⟩
  generalize hH_ : upd H8 p9 _ = H9
  have x9 : Evl.Ex H8 H9 := (by rw [← hH_]; exact Evl.Ex.new hp9)
  have g9 := (congrFun hH_ p9).symm
  rw [upd_same] at g9
  clear hH_
  have D9 := ((D3.trans (D4.exr x5)).trans D6).exr (x7.trans (x8.trans x9))
  have n9 : p9 ≠ w1 := (D6.wl.ex (x7.trans x8)).nep hp9
  have mem' : ∀ k : Int, k ∈ ss ↔ (k = i1 ∨ k = i3) := fun k => by rw [mem k]; simp
  have sb : ∀ k ∈ ss, 0 ≤ k ∧ k < 6 := fun k hk => by
    rcases (mem' k).mp hk with rfl | rfl <;> constructor <;> assumption
  have sne : ss ≠ [] := fun z => by
    have := (mem' i1).mpr (.inl rfl)
    rw [z] at this
    cases this
  have sl : ss.length ≤ 2 := by rw [len]; exact hc
  clear mem mem' len g8 g7 D3 D4 D6
  first | refine nrmG (σ' := [_, _, _, _, _, _, _, _, _]) rfl ?_ | refine nrm (σ' := [_, _, _, _, _, _, _, _, _]) rfl ?_
  refine ⟨fun σ H' => ∃ (ss : List Int) (L5 : Addr), σ = [some (.ref a), some (.ref lw), some (.int cell), some (.ref w1), some (.ref p), some (.ref L5), v6, v7, v8] ∧ H' L5 = some (.lst (ss.map V.int)) ∧ L5 ≠ w1 ∧ ss ≠ [] ∧ ss.Pairwise (· < ·) ∧ (∀ k ∈ ss, 0 ≤ k ∧ k < 6) ∧ ss.length ≤ 2 ∧ Dn w1 704 H2 H', ?_, ?_⟩
  · refine ⟨_, rfl, w1, 703, 2, rfl, D9.wl, by omega, by decide, by decide +kernel, fun d H10 _ _ D10 => ⟨rfl, _, rfl, ite2 (fun z => ?_) (fun z => ?_)⟩⟩
    · try unfold tNoPart
      refine ⟨_, rfl, _, rfl, _, rfl, p9, _, rfl, SqL.of (D10.k _ _ n9 g9), fun r hr => ?_⟩
      refine ⟨ss.drop (ss.length - 1), r, rfl, ?_, D10.wl.nep hr, ?_, sw.drop, fun k hk => sb k (List.mem_of_mem_drop hk), by rw [List.length_drop]; omega, (D9.trans D10).exr (Evl.Ex.new hr)⟩
      · rw [upd_same, cutV_last, List.length_map, List.map_drop]
      · intro z
        have := congrArg List.length z
        rw [List.length_drop, List.length_nil] at this
        have : ss.length = 0 := by omega
        exact sne (List.length_eq_zero_iff.mp this)
    · exact ⟨ss, p9, rfl, D10.k _ _ n9 g9, n9, sne, sw, sb, sl, D9.trans D10⟩
  clear sne sb sl sw D9 g9 n9
  rintro σ H10 ⟨ss, L5, rfl, g10, n5, sne, sw, sb, sl, D10⟩
  refine ⟨_, rfl, ?_⟩
  first | refine nrmG (σ' := [_, _, _, _, _, _, _, _, _]) rfl ?_ | refine nrm (σ' := [_, _, _, _, _, _, _, _, _]) rfl ?_
  refine ⟨_, rfl, L5, rfl, ⟨_, SqL.of g10⟩, for_list (K := K) (a := L5) (xs := ss.map V.int)
    (fun i σ H' => ∃ (F : Addr) (us : List V) (fs : List PyData) (v7' : Option V), σ = [some (.ref a), some (.ref lw), some (.int cell), some (.ref w1), some (.ref p), some (.ref L5), some (.ref F), v7', v8] ∧ F ≠ w1 ∧ H' F = some (.lst us) ∧ DrAll K (hid w1 H') us fs ∧ us.length = 6 ∧
      (∀ j : Nat, j < 6 → ((j : Int) ∈ ss.take i → Bad wd ds j (fs.getD j .none) ∧ txt (fs.getD j .none)) ∧ ((j : Int) ∉ ss.take i → fs.getD j .none = [d0, d1, d2, .str wd, .tuple ds, .tuple cs].getD j .none)) ∧ Wk w1 H10 H' ∧ Dn w1 (704 + 20 * i) H2 H')
    ⟨p, _, _, _, rfl, pw, D10.k _ _ pw gp, DrAll.ex D10.k.hx _ _ da, rfl, fun j _ => ⟨(fun z => nomatch z), fun _ => rfl⟩, Wk.refl _ _, D10⟩ (fun i σ H' _ q => by
      obtain ⟨_, _, _, _, _, _, _, _, _, _, kk, _⟩ := q
      exact SqL.of (kk _ _ n5 g10)) ?_ ?_⟩
  · rintro i2 x σ H11 hx2 ⟨F, us, fs, v7', rfl, nF, gF, dF, u6, st, k11, D11⟩
    obtain ⟨kx, hkx, rfl⟩ := map_at hx2
    obtain ⟨kx0, kx6⟩ := sb kx (List.mem_of_getElem? hkx)
    obtain ⟨j, rfl⟩ : ∃ j : Nat, kx = (j : Int) := ⟨kx.toNat, by omega⟩
    have i2b : i2 < ss.length := (List.getElem?_eq_some_iff.mp hkx).1
    have j6 : j < 6 := by omega
    have inn : ∀ m : Nat, (m : Int) ∈ ss.take (i2 + 1) ↔ ((m : Int) ∈ ss.take i2 ∨ m = j) := fun m => by
      rw [List.take_succ, hkx]
      simp only [Option.toList_some, List.mem_append, List.mem_singleton]
      exact or_congr Iff.rfl ⟨fun h => by omega, fun h => by omega⟩
    have pj := D11.k _ _ pw gp
    have daj := DrAll.ex D11.k.hx _ _ da
    first | refine nrmG (σ' := [_, _, _, _, _, _, _, _, _]) rfl ?_ | refine nrm (σ' := [_, _, _, _, _, _, _, _, _]) rfl ?_
    try unfold tNoPart
    refine ⟨_, rfl, _, rfl, _, rfl, F, us, rfl, SqL.of gF, fun r1 h1 => ?_⟩
    generalize hH_ : upd H11 r1 _ = HA
    have xA : Evl.Ex H11 HA := (by rw [← hH_]; exact Evl.Ex.new h1)
    have gA := (congrFun hH_ r1).symm
    rw [upd_same] at gA
    clear hH_
    have DA := D11.exr xA
    refine ⟨_, rfl, _, rfl, _, rfl, w1, p, 704 + 20 * i2, j, _, d0, d1, d2, wd, ds, cs, rfl, j6, D11.wl.ex xA, by omega, pw, xA _ _ pj, ps, DrAll.ex (Ex.hid xA) _ _ daj, fun f v e HB be te de fw gf DB => ?_⟩
    have nr1 : r1 ≠ w1 := D11.wl.nep h1
    have wsl : ([y0, y1, y2, .str wd, y4, y5].set j v).length = 6 := by rw [List.length_set]; rfl
    refine ⟨_, rfl, _, rfl, _, rfl, _, _, rfl, rfl, _, rfl, f, _, rfl, SqL.of gf, fun r2 h2 => ?_⟩
    generalize hH_ : upd HB r2 _ = HC
    have xC : Evl.Ex HB HC := (by rw [← hH_]; exact Evl.Ex.new h2)
    have gC := (congrFun hH_ r2).symm
    rw [upd_same] at gC
    clear hH_
    have l1 := cutV_length us none (some (j : Int))
    have l2 := cutV_length ([y0, y1, y2, .str wd, y4, y5].set j v) (some (j : Int)) (some ((j : Int) + 1))
    have l3 := cutV_length us (some ((j : Int) + 1)) none
    refine ⟨r1, r2, _, _, rfl, rfl, xC _ _ (DB.k _ _ nr1 gA), gC, Nat.le_trans (show _ ≤ 12 by omega) (show 12 ≤ sizeLine by decide), fun r3 h3 => ?_⟩
    generalize hH_ : upd HC r3 _ = HD
    have xD : Evl.Ex HC HD := (by rw [← hH_]; exact Evl.Ex.new h3)
    have gD := (congrFun hH_ r3).symm
    rw [upd_same] at gD
    clear hH_
    have gF' := xD _ _ (xC _ _ (DB.k _ _ nF (xA _ _ gF)))
    refine ⟨_, rfl, _, rfl, _, _, rfl, rfl, _, rfl, F, us, rfl, SqL.of gF', fun r4 h4 => ?_⟩
    generalize hH_ : upd HD r4 _ = HE
    have xE : Evl.Ex HD HE := (by rw [← hH_]; exact Evl.Ex.new h4)
    have gE := (congrFun hH_ r4).symm
    rw [upd_same] at gE
    clear hH_
    refine ⟨r3, r4, _, _, rfl, rfl, xE _ _ gD, gE, Nat.le_trans (show _ ≤ 18 by rw [List.length_append]; omega) (show 18 ≤ sizeLine by decide), fun r5 h5 => ?_⟩
    generalize hH_ : upd HE r5 _ = HF
    have xF : Evl.Ex HE HF := (by rw [← hH_]; exact Evl.Ex.new h5)
    have gF2 := (congrFun hH_ r5).symm
    rw [upd_same] at gF2
    clear hH_
    have xBF := xC.trans (xD.trans (xE.trans xF))
    have DF := (DA.trans DB).exr xBF
    have hv : ([y0, y1, y2, .str wd, y4, y5].set j v)[j]? = some v := List.getElem?_set_self (by simpa using j6)
    rw [cut_set u6 wsl j6 hv] at gF2
    have k1F : Evl.Ex (hid w1 H11) (hid w1 HF) := (Ex.hid xA).trans (DB.k.hx.trans (Ex.hid xBF))
    have fl := dF.len
    refine ⟨r5, us.set j v, fs.set j e, _, rfl, (DB.wl.ex (xC.trans (xD.trans xE))).nep h5, gF2, DrAll.set j (DrAll.ex k1F _ _ dF) (Dr.ex (Ex.hid xBF) _ _ de), by rw [List.length_set]; exact u6, fun m hm => ?_, fun b o nb hb => xBF _ _ (DB.k _ _ nb (xA _ _ (k11 _ _ nb hb))), ⟨DF.wl.mono (by omega), DF.k⟩⟩
    by_cases mj : m = j
    · rw [mj]
      have g : (fs.set j e).getD j .none = e := by
        rw [List.getD_eq_getElem?_getD, List.getElem?_set_self (by omega)]
        rfl
      rw [g]
      exact ⟨fun _ => ⟨be, te⟩, fun z => absurd ((inn j).mpr (.inr rfl)) z⟩
    · have g : (fs.set j e).getD m .none = fs.getD m .none := by
        rw [List.getD_eq_getElem?_getD, List.getD_eq_getElem?_getD, List.getElem?_set_ne (fun z => mj z.symm)]
      rw [g]
      refine ⟨fun z => (st m hm).1 ?_, fun z => (st m hm).2 fun y => z ((inn m).mpr (.inl y))⟩
      rcases (inn m).mp z with y | y
      · exact y
      · exact absurd y mj
  rintro σ H11 ⟨F, us, fs, v7', rfl, nF, gF, dF, u6, st, k11, D11⟩
  rw [List.length_map, List.take_length] at st
  have fl := dF.len
  obtain ⟨s0, rest, rfl⟩ : ∃ s0 rest, ss = s0 :: rest := by
    cases ss with
    | nil => exact absurd rfl sne
    | cons s r => exact ⟨s, r, rfl⟩
  obtain ⟨b0, b6⟩ := sb s0 List.mem_cons_self
  obtain ⟨s, rfl⟩ : ∃ s : Nat, s0 = (s : Int) := ⟨s0.toNat, by omega⟩
  have s6 : s < 6 := by omega
  have low : ∀ m : Nat, m < s → (m : Int) ∉ (s : Int) :: rest := fun m hm z => by
    rcases List.mem_cons.mp z with z | z
    · omega
    · have := (List.pairwise_cons.mp sw).1 _ z
      omega
  have am := amiss_first ps (f := fun j => fs.getD j .none) s6 ((st s s6).1 List.mem_cons_self).1 (fun z => (st 0 (by omega)).2 (low 0 z)) (fun z => (st 1 (by omega)).2 (low 1 z)) (fun z => (st 2 (by omega)).2 (low 2 z)) (fun z => (st 3 (by omega)).2 (low 3 z)) (fun z => (st 4 (by omega)).2 (low 4 z))
  have hwF : H11 lw = some (.lst WH) := D11.k _ _ nlw (D2.k _ _ nlw hw1')
  have hlF : H11 l = some (.lst cs0) := D11.k _ _ nl (D2.k _ _ nl hl1')
  have hpF := D11.k _ _ pw gp
  have h5F := k11 _ _ n5 g10
  have daF := DrAll.ex (D11.k.hx.trans hid_ex) _ _ da
  have txtO : ∀ j : Nat, j < 6 → txt ([d0, d1, d2, .str wd, .tuple ds, .tuple cs].getD j .none) := fun j hj => by
    have ok := ps.ok
    match j, hj with
    | 0, _ => exact (ok d0 (by simp)).t
    | 1, _ => exact (ok d1 (by simp)).t
    | 2, _ => exact (ok d2 (by simp)).t
    | 3, _ => exact (ok (.str wd) (by simp)).t
    | 4, _ => exact (ok (.tuple ds) (by simp)).t
    | 5, _ => exact (ok (.tuple cs) (by simp)).t
  have txF : ∀ j : Nat, j < 6 → txt (fs.getD j .none) := fun j hj => by
    by_cases z : (j : Int) ∈ (s : Int) :: rest
    · exact ((st j hj).1 z).2
    · rw [(st j hj).2 z]
      exact txtO j hj
  have wdk : wd ∈ LK.map (·.w) := by
    obtain ⟨q, fd, _⟩ := ps.g.is
    have := List.find?_some fd
    exact List.mem_map.mpr ⟨q, List.mem_of_find?_eq_some fd, of_decide_eq_true this⟩
  have owF : ∀ y, fs.getD 3 .none = .str y → y ∉ LK.map (·.w) → y ∈ oddWords := fun y hy ny => by
    by_cases z : ((3 : Nat) : Int) ∈ (s : Int) :: rest
    · exact ((st 3 (by omega)).1 z).1 y hy
    · rw [(st 3 (by omega)).2 z] at hy
      have hy : PyData.str wd = .str y := hy
      injection hy with hy
      rw [← hy] at ny
      exact absurd wdk ny
  have fl6 : fs.length = 6 := by omega
  clear st fl low sne sw sl sb
  obtain ⟨t0, t1, t2, t3, t4, t5, rfl⟩ : ∃ a b c d e f, us = [a, b, c, d, e, f] := by
    match us, u6 with
    | [_, _, _, _, _, _], _ => exact ⟨_, _, _, _, _, _, rfl⟩
  obtain ⟨e0, e1', e2, e3, e4, e5, rfl⟩ : ∃ a b c d e f, fs = [a, b, c, d, e, f] := by
    match fs, fl6 with
    | [_, _, _, _, _, _], _ => exact ⟨_, _, _, _, _, _, rfl⟩
  have am' : amissD e0 e1' e2 e3 e4 e5 = some (whysD.getD s "") := am
  have at5 : atI ((((s : Int) :: rest).map V.int)) 0 = some (.int (s : Int)) := atI_nat (j := 0) rfl
  have atw : atI WH (s : Int) = some (.str (whysD.getD s "")) := atI_nat (by
    rw [← hWH]
    exact whys_at s6)
  generalize whysD.getD s "" = why at am' atw
  first | refine nrmG (σ' := [_, _, _, _, _, _, _, _, _]) rfl ?_ | refine nrm (σ' := [_, _, _, _, _, _, _, _, _]) rfl ?_
  refine ⟨_, rfl, by decide, by decide, for_range (lo := 0) (n := 2) (fun j σ H' => (∃ v8', σ = [some (.ref a), some (.ref lw), some (.int cell), some (.ref w1), some (.ref p), some (.ref L5), some (.ref F), v7', v8']) ∧ Evl.Ex H11 H') ⟨⟨_, rfl⟩, Evl.Ex.refl _⟩ ?_ ?_⟩
  · rintro j σ H12 hj ⟨⟨v8', rfl⟩, e12⟩
    first | refine nrmG (σ' := [_, _, _, _, _, _, _, _, _]) rfl ?_ | refine nrm (σ' := [_, _, _, _, _, _, _, _, _]) rfl ?_
    refine ⟨_, rfl, F, t0, t1, t2, t3, t4, t5, e0, e1', e2, e3, e4, e5, rfl, e12 _ _ gF, DrAll.ex (hid_ex.trans e12) _ _ dF, txF 0 (by omega), txF 4 (by omega), txF 5 (by omega), owF, fun H13 e13 => ?_⟩
    rw [am']
    have e113 := e12.trans e13
    refine ⟨_, rfl, _, rfl, L5, _, 0, _, rfl, rfl, SqL.of (e113 _ _ h5F), at5, lw, WH, (s : Int), _, rfl, rfl, SqL.of (e113 _ _ hwF), atw, rfl, _, rfl, iteF' ?_ ⟨⟨_, rfl⟩, e113⟩⟩
    show (!decide (V.str why = V.str why)) = false
    rw [decide_eq_true rfl]
    rfl
  rintro σ H12 ⟨⟨v8', rfl⟩, e12⟩
  first | refine nrmG (σ' := [_, _, _, _, _, _, _, _, _]) rfl ?_ | refine nrm (σ' := [_, _, _, _, _, _, _, _, _]) rfl ?_
  refine ⟨_, rfl, p, y0, y1, y2, .str wd, y4, y5, d0, d1, d2, .str wd, .tuple ds, .tuple cs, rfl, e12 _ _ hpF, DrAll.ex e12 _ _ daF, txtO 0 (by omega), txtO 4 (by omega), txtO 5 (by omega), (fun y hy ny => by injection hy with hy; rw [← hy] at ny; exact absurd wdk ny), fun H13 e13 => ?_⟩
  rw [ps.fine]
  have e113 := e12.trans e13
  refine ⟨rfl, _, rfl, iteF' (by decide +kernel) ⟨⟨_, _, _, _, _, _, _, rfl⟩, e113 _ _ hlF, e113 _ _ hwF⟩⟩
end
theorem law_ok (w : World) (mg : Str → Option Value) (K : PySem.W.Frag) (T : TX w K mg) : ∃ fd : FuncData, mg "law" = some (.ref (He.ga K "law")) ∧ (∀ (s : Shared) (u : Value), BindsTo s fd ⟨[u], []⟩ [("_law_script", u)]) ∧
    ∀ base : Heap, FnG PySem.Challenge.pw_trailpost_k24_scans_refused w K mg base CX0 (13 + 1) (He.ga K "law") fd ["_law_script"] (spLaw K) := by
  obtain ⟨fd, hb, hF⟩ := law_fd (P := PySem.Challenge.pw_trailpost_k24_scans_refused) (w := w) (mg := mg) (sp := spLaw K) (x := "_law_script") (D_law T) sc_law rfl (fun _ _ _ _ _ _ us hl => match us, hl with | [_], _ => rfl) (fun vs H Q E h => by obtain ⟨a, ns, rfl, _⟩ := h; rfl) (fun base => body_law T base)
  exact ⟨fd, g_law T, hb, hF⟩
end Lw
open PySem PySem.W PySem.Calls PyProof.Rows
theorem PySem.Challenge.cw_trailpost_k24_scans_refused_holds : PySem.Challenge.rw_trailpost_k24_scans_refused.Holds := by
  w_on; o_law
  refine HandSHeadRun.head_any (r := OpenLaw.row PySem.Challenge.rw_trailpost_k24_scans_refused) (q := view (OpenLaw.row PySem.Challenge.rw_trailpost_k24_scans_refused).prog [54]) (H := Lw.hk) (ob := Lw.ob) (M := 6000) (loose := Lw.loose) (d := HandSHeadRun.topDef (OpenLaw.row PySem.Challenge.rw_trailpost_k24_scans_refused).prog 54) (kwd := []) Lw.ob_eq
    (by kernel_rfl) (fun s => by kernel_rfl) Lw.run (by kernel_rfl) (by kernel_rfl) (by kernel_rfl) (by rfl) (by first | assumption | decide +kernel) (by decide +kernel) ⟨rfl, rfl, rfl, rfl, rfl, by decide +kernel⟩ ?hw ?hc
  case hw => w_witness2
  case hc => exact TP.walkM (l := PySem.Challenge.rw_trailpost_k24_scans_refused) (x := "_law_script") rfl (by kernel_rfl) ⟨rfl, by decide, by decide⟩ (by kernel_rfl) (fun w mg K T => Lw.law_ok w mg K T)
