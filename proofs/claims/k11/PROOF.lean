import PyProof.Rows.All
import Wide.All
import OpenK.AllK
import Wide.FinOn
import HandS.Base
import HandS.Call
import HandS.List
import HandS.Comp
import HandS.Ends
import HandS.EndBits
import HandS.Dict
import HandS.Iter
import HandS.Text
import HandS.Words
import HandS.Defaults
import HandS.Wide
import HandS.HeadHook1
import HandS.HeadHook2
import PyProof.ReprRoads
import PyProof.ReprLen
import PyProof.ReprBulk
import HandS.Head2
import HandS.HeadEnd
import HandS.HeadHook3
import HandS.IsInst
import HandS.TupLe
import HandS.TupAny
import HandS.Evl
import HandS.Steps
import HandS.WordsList
import HandS.WordsDict
import HandS.Exc
import HandS.WordsExc
import PyProof.StrBlock2
import PyProof.StrLawsRepr
import HandS.Walk
import KE.GoesZip
import KE.GoesMore
import KE.KDictWalk
import HandS.MakeKwOnly
import HandS.More
import HandS.NoneIn
import HandS.Flow
import HandS.ExcInit
import HandS.ExcField
import HandS.ExcIs
import KE.KExcIs
import HandS.ClsMeth
import HandS.TryMany
import HandS.ExcOwn
import HandS.Lambda
import HandS.SuiteRaise
import KE.DataEq
import HandS.Conv
import HandS.Strs
import HandS.SetKeys
import HandS.Style
import KE.GoesEnum
import HandS.DictComp
import HandS.Finally
import HandS.Codes
import HandS.Deep
import PySem.Challenge.RW_trailpost_k11_houses_and_streets_not_the
set_option Elab.async false
set_option linter.all false
set_option maxRecDepth 100000
set_option maxHeartbeats 4000000
namespace TP
open PySem PySem.Spec PyProof.Rows L2

/-! ### defs that are called where no repr is under way -/
structure FnG (P : Program) (w : World) (K : PySem.W.Frag) (mg : Str → Option Value) (base : Heap) (CX : CXT) (k : Nat) (f : Addr) (fd : FuncData) (ps : List Str) (sp : Sp) : Prop where
  len : ∀ vs H Q E, sp vs H Q E → vs.length = ps.length
  run : ∀ (A : Around) (outer : List Env) (s : Shared) (H : Hp) (args : Args) (us : List Value) (vs : List V) (Q : VK) (E : XK), A.guards = some [] → Room k A →
    Env0 P w K mg base A outer s H → BindsTo s fd args (ps.zip us) → Vals vs us → sp vs H Q E → codeAny (model P w) A (.call (.ref f) args) (CR CX outer P w H s Q E) s
theorem FnG.of {P : Program} {w : World} {K : PySem.W.Frag} {mg : Str → Option Value} {base : Heap} {CX : CXT} {k : Nat} {f : Addr} {fd : FuncData} {ps : List Str} {sp : Sp}
    (F : FnOk P w K mg base CX k f fd ps sp) : FnG P w K mg base CX k f fd ps sp :=
  ⟨F.len, fun A outer s H args us vs Q E _ hr => F.run A outer s H args us vs Q E hr⟩

section
variable {P : Program} {w : World} {K : PySem.W.Frag} {mg : Str → Option Value} {base : Heap} {CX : CXT}
/-- a def by its body, called where no repr is under way -/
theorem fnG_of {k : Nat} {f : Addr} {name qual : Str} {params : Arguments} {body : List Stmt} {scope : Scope} {dV kV doc pm cdv ct oc : Value} {an od : Option Addr} {osl : Array (Option Value)} {N ps : List Str} {sp : Sp}
    (lk : K.lookup f = some ⟨oc, od, .func (PySem.W.fnOf name qual params body scope dV kV doc pm an cdv ct), osl⟩)
    (hcd : PySem.W.codeIn K cdv qual = true) (S : FnScope N ps scope) (len : ∀ vs H Q E, sp vs H Q E → vs.length = ps.length)
    (hbody : ∀ (A : Around) (outer : List Env) (s : Shared) (H : Hp) (vs : List V) (Q : VK) (E : XK), A.guards = some [] → Room k (A.deeper (envOfC qual scope s.heap.objs.size f cdv)) → sp vs H Q E →
      ∃ t, PSs (cxOf CX P w K mg base N qual scope f cdv A outer s H E) body t ∧ t { nx := fun _ H' => Q .non H', rt := Q } (start N vs) H) :
    FnG P w K mg base CX (k + 1) f (PySem.W.fnOf name qual params body scope dV kV doc pm an cdv ct) ps sp := by
  refine ⟨len, fun A outer s H args us vs Q E hgd hr e0 hb r hsp => ?_⟩
  have hlen := len _ _ _ _ hsp
  have kx : K.In s.heap := e0.mod.kin.keeps fun b o e => (e0.bs b o e).1
  have lim := e0.mod.nolimit.keeps (h' := s.heap) fun b o e => (e0.bs b o e).1
  have kinds : ∀ y ∈ ps.zip us, scope.names.lookup y.1 = some .local ∨ (scope.names.lookup y.1 = some .cell ∧
      ((cellsFrom (s.heap.objs.size + 1) scope.names []).lookup y.1).isSome = true) := fun ⟨n, v⟩ hy => by
    rcases S.par n (List.of_mem_zip hy).1 with q | q
    · exact .inl q
    · exact .inr ⟨q, PySem.W.cellsFrom_some _ _ _ (.inl q)⟩
  refine codeAny_call_function hr.depth (kx _ _ lk) rfl S.co S.gen rfl (PySem.W.codeRec_of kx hcd) (hb _ _ _ _ ?_)
  refine wpAny_newFunctionEnv_cells S.kind kinds fun env he s1 x => ?_
  subst he
  refine ⟨lim.keeps x.toInCall.keep, codeAny_func ?_⟩
  obtain ⟨t, ht, hq⟩ := hbody A outer s H vs Q E hgd (hr.deeper _) hsp
  have I : Inv (cxOf CX P w K mg base N qual scope f cdv A outer s H E) [] (start N vs) H s1 := inv_start S hr.hd e0 hlen r x
  refine wpAny_mono (ht.run [] s1 (start N vs) H _ I hq) (fun fl s' hs => ?_) fun e s' hs => hs
  cases fl with
  | ret u =>
    obtain ⟨v, σ', H', J, rv, q⟩ := hs
    exact ⟨v, H', J.os, J.bare, J.base, J.hok, rv, q⟩
  | next =>
    obtain ⟨σ', H', J, q⟩ := hs
    exact ⟨V.non, H', J.os, J.bare, J.base, J.hok, rfl, q⟩
  | brk =>
    obtain ⟨_, _, _, q⟩ := hs
    exact q.elim
  | cont =>
    obtain ⟨_, _, _, q⟩ := hs
    exact q.elim
end

section
variable {X : Cx} {CX : CXT} {k : Nat} {f : Addr} {fd : FuncData} {ps : List Str} {sp : Sp} {E : XK} {x : Str} {p pos : Pos} {e : Expr} {es : List Expr} {t : TA}
theorem pe_callG (F : FnG X.prog X.w X.K X.mg X.base CX k f fd ps sp) (hgd : X.A.guards = some []) (hr : Room k X.A) (hg : Gl X x) (hm : X.mg x = some (.ref f))
    (hk : PySem.W.keepIn X.K (.ref f) = true) (hb : Binds X.K fd ps []) (hx : Passes CX X E) (ha : PA X (e :: es) t) (hdb : (x == ("__debug__" : Str)) = false := by decide)
    (he : starEach (e :: es) X.env = (false, eval e X.env) :: starEach es X.env := by rfl) (hpl : (backTo pos (starEach es X.env)).any (·.1) = false := by rfl) :
    PE X (.Call (.Name x p) (e :: es) [] pos) (tCall sp [] E t) := by
  refine ⟨fun pins s σ H Q I h => wpAny_Call_Name_kw (ld_glob I hg hm ?_ hdb)⟩
  refine PySem.W.callWith_K (h₀ := X.base) I.ok.mod.kin hk (thn (ha.run pos pins s σ H _ I h) fun us s1 ⟨vs, H1, I1, r, q⟩ => ⟨I1.kIn, ?_⟩) he hpl
  have q' : sp vs H1 Q E := by
    have q0 : sp (vs ++ []) H1 Q E := q
    rw [List.append_nil] at q0
    exact q0
  have hl : (us ++ []).length = ps.length := by
    rw [List.append_nil, ← r.length]
    exact F.len _ _ _ _ q'
  have hbt := hb s1 us I1.kIn hl
  rw [List.append_nil] at hbt
  refine wpAny_call (codeAny_mono (F.run X.A X.stack s1 H1 ⟨us, []⟩ us vs Q E hgd hr I1.env0 hbt r q') fun r s' hq => ?_)
  cases r with
  | error e => exact hx pins σ H1 s1 e s' I1 hq
  | ok fl =>
    cases fl with
    | ret u => exact I1.after hq
    | next => exact hq.elim
    | brk => exact hq.elim
    | cont => exact hq.elim
end
end TP

namespace TP
open PySem PySem.Spec PyProof.Rows L2

/-! ### data with dicts: what a value shows -/
def kD : Key → PyData
  | .inl i => .int i
  | .inr x => .str x
mutual
inductive Dr (K : PySem.W.Frag) (H : Hp) : V → PyData → Prop
  | non : Dr K H .non .none
  | bl (b : Bool) : Dr K H (.bl b) (.bool b)
  | int (i : Int) : Dr K H (.int i) (.int i)
  | str (x : Str) : Dr K H (.str x) (.str x)
  | lst {a : Addr} {xs : List V} {ds : List PyData} : SqL K H a xs → DrAll K H xs ds → Dr K H (.ref a) (.list ds)
  | tup {a : Addr} {xs : List V} {ds : List PyData} : SqT K H a xs → DrAll K H xs ds → Dr K H (.ref a) (.tuple ds)
  | dct {a : Addr} {kvs : List (Key × V)} {ds : List (PyData × PyData)} : H a = some (.dK kvs) → DrKv K H kvs ds → Dr K H (.ref a) (.dict ds)
inductive DrAll (K : PySem.W.Frag) (H : Hp) : List V → List PyData → Prop
  | nil : DrAll K H [] []
  | cons {v : V} {vs : List V} {d : PyData} {ds : List PyData} : Dr K H v d → DrAll K H vs ds → DrAll K H (v :: vs) (d :: ds)
inductive DrKv (K : PySem.W.Frag) (H : Hp) : List (Key × V) → List (PyData × PyData) → Prop
  | nil : DrKv K H [] []
  | cons {k : Key} {v : V} {vs : List (Key × V)} {d : PyData} {ds : List (PyData × PyData)} : Dr K H v d → DrKv K H vs ds → DrKv K H ((k, v) :: vs) ((kD k, d) :: ds)
end
/-- the modules' dict is known -/
def SysK (K : PySem.W.Frag) : Prop := ∃ o, K.lookup sysModules = some o ∧ o.cls = .type "dict"
theorem keyReads {h : Heap} {k : Key} {u : Value} (e : keyIs k u = true) : Reads h u (kD k) [] := by
  rcases keyIs_shape e with ⟨i, t, rfl, rfl⟩ | ⟨x, t, rfl, rfl⟩
  · exact Reads.int i t
  · exact Reads.str x t
section
variable {X : Cx} {pins : List (Addr × Obj)} {σ : L2.St} {H : Hp} {s : Shared}
theorem sys_ne (hS : SysK X.K) (I : Inv X pins σ H s) {a : Addr} {o : Obj} (ho : s.heap.get? a = some o) (hc : o.cls ≠ .type "dict") : a ≠ sysModules := fun z => by
  obtain ⟨od, hl, hd⟩ := hS
  have q := I.kIn _ _ hl
  rw [← z, ho] at q
  cases q
  exact hc hd
mutual
theorem Dr.reads (hS : SysK X.K) (I : Inv X pins σ H s) : ∀ (d : PyData) (v : V) (u : Value), Dr X.K H v d → RelV v u → ∃ as, Reads s.heap u d as ∧ sysModules ∉ as
  | .none, _, _, h, r => by
    cases h
    cases r
    exact ⟨_, Reads.none, List.not_mem_nil⟩
  | .bool b, _, _, h, r => by
    cases h
    cases r
    exact ⟨_, Reads.bool b, List.not_mem_nil⟩
  | .int i, _, _, h, r => by
    cases h
    obtain ⟨t, rfl⟩ := r
    exact ⟨_, Reads.int i t, List.not_mem_nil⟩
  | .str x, _, _, h, r => by
    cases h
    obtain ⟨t, rfl⟩ := r
    exact ⟨_, Reads.str x t, List.not_mem_nil⟩
  | .list ds, _, _, h, r => by
    cases h with
    | lst hs ha =>
      cases r
      obtain ⟨its, rv, ⟨o, n, ho, hc, _, hd⟩, _⟩ := I.list hs
      obtain ⟨as, hr, hn⟩ := DrAll.reads hS I ds _ its ha rv
      refine ⟨_, Reads.list ho hc hd hr, fun z => ?_⟩
      rcases List.mem_cons.mp z with e | e
      · exact sys_ne hS I ho (by rw [hc]; decide) e.symm
      · exact hn e
  | .tuple ds, _, _, h, r => by
    cases h with
    | tup hs ha =>
      cases r
      obtain ⟨its, rv, ⟨o, ho, hc, n, hd⟩, _⟩ := I.tuple hs
      obtain ⟨as, hr, hn⟩ := DrAll.reads hS I ds _ its ha rv
      exact ⟨_, Reads.tuple ho hc hd hr, hn⟩
  | .dict ds, _, _, h, r => by
    cases h with
    | dct hs ha =>
      cases r
      obtain ⟨_, hy, vs, rel, o, es, ep, ho, hx, hd, _, hp, _⟩ := dk_of I.hok hs
      obtain ⟨bs, h1, h2, hn⟩ := DrKv.reads hS I ds _ vs es.toList ha rel hp
      refine ⟨_, Reads.dict ho hx.1 hd h1 h2, fun z => ?_⟩
      rcases List.mem_cons.mp (show sysModules ∈ _ :: _ from z) with e | e
      · rw [← e] at hy
        exact absurd hy (by decide)
      · exact hn e
theorem DrAll.reads (hS : SysK X.K) (I : Inv X pins σ H s) : ∀ (ds : List PyData) (vs : List V) (us : List Value), DrAll X.K H vs ds → Vals vs us → ∃ as, ReadsAll s.heap us ds as ∧ sysModules ∉ as
  | [], _, _, h, r => by
    cases h
    cases r
    exact ⟨_, ReadsAll.nil, List.not_mem_nil⟩
  | d :: ds, _, _, h, r => by
    cases h with
    | cons h1 h2 =>
      cases r with
      | cons r1 r2 =>
        obtain ⟨as, a1, n1⟩ := Dr.reads hS I d _ _ h1 r1
        obtain ⟨bs, a2, n2⟩ := DrAll.reads hS I ds _ _ h2 r2
        exact ⟨_, ReadsAll.cons a1 a2, fun z => (List.mem_append.mp z).elim n1 n2⟩
theorem DrKv.reads (hS : SysK X.K) (I : Inv X pins σ H s) : ∀ (ds : List (PyData × PyData)) (kvs : List (Key × V)) (vs : List (Key × Value)) (es : List DictEntry), DrKv X.K H kvs ds → KV kvs vs → Pairs (mixKind X.prog X.w) es vs →
    ∃ bs, ReadsAll s.heap (es.map (·.key)) (ds.map (·.1)) [] ∧ ReadsAll s.heap (es.map (·.val)) (ds.map (·.2)) bs ∧ sysModules ∉ bs
  | [], _, _, _, h, r, p => by
    cases h
    cases r
    cases p
    exact ⟨_, ReadsAll.nil, ReadsAll.nil, List.not_mem_nil⟩
  | (a, d) :: ds, _, _, _, h, r, p => by
    cases h with
    | cons h1 h2 =>
      cases r with
      | cons r1 r2 =>
        cases p with
        | cons p1 p2 p3 =>
          obtain ⟨bs, b1, b2, n2⟩ := DrKv.reads hS I ds _ _ _ h2 r2 p3
          obtain ⟨as, a1, n1⟩ := Dr.reads hS I d _ _ h1 r1.2
          refine ⟨as ++ bs, ReadsAll.cons (as := []) (bs := []) (keyReads (by have e := r1.1; dsimp only at e; rw [e]; exact p1)) b1, ReadsAll.cons (by dsimp only; rw [p2]; exact a1) b2, fun z => (List.mem_append.mp z).elim n1 n2⟩
end
/-- repr(x) of data -/
def rRepr (K : PySem.W.Frag) : List V → Hp → VK → Prop := fun xs H Q => ∃ (x : V) (d : PyData), xs = [x] ∧ Dr K H x d ∧ d.showable = true ∧ d.depth ≤ 50 ∧ d.shown.length ≤ sizeLine ∧ Q (.str d.shown) H
theorem call_reprG (hS : SysK X.K) (hg : X.A.guards = some []) (hu : X.A.units + 64 < cLine) : CallR X (.builtin "repr") (rRepr X.K) := by
  intro pins s σ H xs us Q I r h
  obtain ⟨x, d, rfl, hd, sh, dp, sz, q⟩ := h
  obtain ⟨u, rfl, rx⟩ := vals1 r
  cases hd with
  | non =>
    cases rx
    refine PySem.P.repr_of_none ⟨.str _, H, I.tok _, ⟨_, rfl⟩, ?_⟩
    exact q
  | bl b =>
    cases rx
    refine PySem.P.repr_of_bool ⟨.str _, H, I.tok _, ⟨_, rfl⟩, ?_⟩
    rw [PyData.shown_bool] at q
    exact q
  | int i =>
    obtain ⟨t, rfl⟩ := rx
    refine PySem.P.repr_of_int (of_decide_eq_true sh) ⟨.str _, H, I.tok _, ⟨_, rfl⟩, ?_⟩
    rw [PyData.shown_int] at q
    exact q
  | str z =>
    obtain ⟨t, rfl⟩ := rx
    rw [PyData.shown_str] at q sz
    exact PySem.P.repr_of_str ⟨.str _, H, I.tok _, ⟨_, rfl⟩, q⟩ sz
  | lst a b =>
    cases rx
    obtain ⟨as, hr, hn⟩ := Dr.reads hS I _ _ _ (Dr.lst a b) rfl
    exact repr_of_reads' hr sh (fun _ => hn) hg (by omega) (fun _ _ e => e) (fun h' u tk hk => ⟨.str _, H, I.kept (t' := tk) hk, ⟨_, rfl⟩, q⟩) sz
  | tup a b =>
    cases rx
    obtain ⟨as, hr, hn⟩ := Dr.reads hS I _ _ _ (Dr.tup a b) rfl
    exact repr_of_reads' hr sh (fun _ => hn) hg (by omega) (fun _ _ e => e) (fun h' u tk hk => ⟨.str _, H, I.kept (t' := tk) hk, ⟨_, rfl⟩, q⟩) sz
  | dct a b =>
    cases rx
    obtain ⟨as, hr, hn⟩ := Dr.reads hS I _ _ _ (Dr.dct a b) rfl
    exact repr_of_reads' hr sh (fun _ => hn) hg (by omega) (fun _ _ e => e) (fun h' u tk hk => ⟨.str _, H, I.kept (t' := tk) hk, ⟨_, rfl⟩, q⟩) sz
end
end TP

namespace TP
open PySem PySem.Spec PyProof.Rows L2

/-! ### the head: facts by names, one more Bool, the modules' dict among what is known -/
def asM (g : Addr → Option Obj) (n : Nat) : List Addr := cStatics :: sysModules :: He.asD g n
abbrev AlM : Type := He.AlT × Bool
def obsM (n : Nat) (fa : List He.Fa) (fn : List He.DefD) (ts : List He.Tab) (ex : PySem.W.Frag → Bool) (g : Addr → Option Obj) : AlM :=
  (He.obsT fa fn ts (He.frG g (asM g n)), ex (He.frG g (asM g n)))
def hookM (n : Nat) (fa : List He.Fa) (fn : List He.DefD) (ts : List He.Tab) (ex : PySem.W.Frag → Bool) : PySem.W.Hook where
  α := AlM
  obs := fun s => obsM n fa fn ts ex s.heap.get?
  val := fun w => (He.valT fn ts w, true)
  says := fun w h => ∃ K : PySem.W.Frag, K.In h ∧ He.SaysT fa fn ts w K ∧ ex K = true
  of := fun _ _ e => ⟨_, He.frG_in, congrArg (fun z : AlM => z.1) e, congrArg (fun z : AlM => z.2) e⟩
  keeps := fun _ _ _ ⟨K, hK, c⟩ k => ⟨K, PySem.W.Frag.In.keeps hK k, c⟩
theorem obsM_eq {n : Nat} {fa : List He.Fa} {fn : List He.DefD} {ts : List He.Tab} {ex : PySem.W.Frag → Bool} {g : Addr → Option Obj} {s : Shared} (h : ∀ a, g a = s.heap.get? a) :
    obsM n fa fn ts ex g = (hookM n fa fn ts ex).obs s := by
  have e : g = s.heap.get? := funext h
  rw [e] <;> rfl
/-- what is known of the text behind the top -/
structure Tx (fa : List He.Fa) (fn : List He.DefD) (ts : List He.Tab) (ex : PySem.W.Frag → Bool) (w : World) (K : PySem.W.Frag) (mg : Str → Option Value) : Prop where
  t : He.SaysT fa fn ts w K
  ex : ex K = true
  m : ∃ h : Heap, K.In h ∧ h.Ns mainGlobals mg
section
variable {fa : List He.Fa} {fn : List He.DefD} {ts : List He.Tab} {ex : PySem.W.Frag → Bool} {w : World} {K : PySem.W.Frag} {mg : Str → Option Value}
theorem Tx.c (T : Tx fa fn ts ex w K mg) : He.SaysD fa fn K := T.t.d
theorem Tx.glo (T : Tx fa fn ts ex w K mg) {x : Str} (i : Nat) (h : fa[i]? = some (.glo x) := by rfl) : mg x = some (.ref (He.ga K x)) := by
  obtain ⟨_, hk, g⟩ := T.m
  exact He.glo_ok hk g (T.c.fact i h)
theorem Tx.free (T : Tx fa fn ts ex w K mg) {x : Str} (i : Nat) (h : fa[i]? = some (.free x) := by rfl) : mg x = none := by
  obtain ⟨_, hk, g⟩ := T.m
  exact He.free_ok hk g (T.c.fact i h)
theorem Tx.int (T : Tx fa fn ts ex w K mg) {x : Str} {z : Int} (i : Nat) (h : fa[i]? = some (.int x z) := by rfl) : ∃ t, mg x = some (.int z t) := by
  obtain ⟨_, hk, g⟩ := T.m
  exact He.int_ok hk g (T.c.fact i h)
theorem Tx.str (T : Tx fa fn ts ex w K mg) {x z : Str} (i : Nat) (h : fa[i]? = some (.str x z) := by rfl) : ∃ t, mg x = some (.str z t) := by
  obtain ⟨_, hk, g⟩ := T.m
  exact He.str_ok hk g (T.c.fact i h)
/-- a table of the top: its entries, the keys in order -/
theorem Tx.tab (T : Tx fa fn ts ex w K mg) (i : Nat) {t : He.Tab} (h : ts[i]? = some t := by rfl) : ∃ es n, KDict K w (t.1 K) es n ∧ es.toList.map He.keyOf = He.keysIn w.params t.2 := by
  have e : ts.map (fun t => He.dicW K (t.1 K)) = ts.map fun t => some (He.keysIn w.params t.2) := congrArg (fun z : He.AlT => z.2) T.t
  have e2 : (ts.map fun t => He.dicW K (t.1 K))[i]? = (ts.map fun t => some (He.keysIn w.params t.2))[i]? := by rw [e]
  rw [List.getElem?_map, List.getElem?_map, h] at e2
  have e3 : He.dicW K (t.1 K) = some (He.keysIn w.params t.2) := Option.some.inj e2
  obtain ⟨es, n, D⟩ := He.dicW_ok e3
  refine ⟨es, n, D, ?_⟩
  unfold He.dicW at e3
  rw [D.at_] at e3
  have low := D.low
  simp only [low, decide_true, Array.isEmpty_empty, Bool.not_false, Bool.and_true] at e3
  exact Option.some.inj e3
end
def sysB (K : PySem.W.Frag) : Bool := match K.lookup sysModules with
  | some o => decide (o.cls = .type "dict")
  | none => false
theorem sysB_ok {K : PySem.W.Frag} (h : sysB K = true) : SysK K := by
  unfold sysB at h
  cases q : K.lookup sysModules with
  | none =>
    rw [q] at h
    cases h
  | some o =>
    rw [q] at h
    exact ⟨o, q, of_decide_eq_true h⟩

/-! ### the end -/
theorem law_callG {P : Program} {w : World} {K : PySem.W.Frag} {mg mb : Str → Option Value} {CX : CXT} {k : Nat} {fa a : Addr} {fd : FuncData} {x : Str} {sp : Sp} {s₁ : Shared} {vs : List Value} {ns : List Int}
    (KX : K.In s₁.heap) (hns : s₁.heap.Ns mainGlobals mg) (hb : s₁.heap.Ns builtinsNs mb) (hbb : ∀ x : Str, x ≠ "__name__" → mb x = bootBuiltins x) (hlim : s₁.heap.NoLimit) (hg : s₁.gens = #[])
    (ha : s₁.heap.get? a = some { cls := .type "list", data := .seq vs.toArray }) (hi : IntsAre vs ns) (hl : ns.length ≤ sizeLine) (hr : Room k callerA)
    (F : ∀ base : Heap, K.In base → base.Ns mainGlobals mg → FnG P w K mg base CX k fa fd [x] sp)
    (hbind : ∀ (s : Shared) (u : Value), BindsTo s fd ⟨[u], []⟩ [(x, u)])
    (hsp : ∀ H : Hp, Only H → SqL K H a (ns.map V.int) → sp [.ref a] H (fun v _ => v = .bl true) fun _ _ _ => False)
    (hCX : ∀ H e s', CX [] H s₁ (fun _ _ _ => False) e s' → False) :
    codeAny (model P w) callerA (.call (.ref fa) ⟨[.ref a], []⟩) (fun r s' => r = .ok (.ret (.bool true)) ∧ OldK s₁.heap s'.heap ∧ s'.os = s₁.os ∧ AllBare s'.gens) s₁ := by
  have rv := vals_ints hi
  have lv := hi.length
  have core : ∀ H : Hp, Only H → SqL K H a (ns.map V.int) → HOk P w H s₁.heap → (∀ b, H b ≠ none → b = a) → (H a ≠ none → K.lookup a = none) →
      codeAny (model P w) callerA (.call (.ref fa) ⟨[.ref a], []⟩) (fun r s' => r = .ok (.ret (.bool true)) ∧ OldK s₁.heap s'.heap ∧ s'.os = s₁.os ∧ AllBare s'.gens) s₁ := by
    intro H hO hS hok hA hK
    have keepN : ∀ {b : Addr} {o : Obj} {es : Array DictEntry} {ep : Nat}, s₁.heap.get? b = some o → o.data = .dict es ep → H b = none := fun {b o es ep} e d => by
      cases q : H b with
      | none => rfl
      | some u =>
        obtain rfl : b = a := hA b (by rw [q]; simp)
        rw [ha] at e
        cases e
        cases (show Data.seq vs.toArray _ = Data.dict es ep from d)
    have nsK : ∀ {b : Addr} {m : Str → Option Value}, s₁.heap.Ns b m → (hidT s₁.heap H).Ns b m :=
      fun {b m} ⟨o, es, ep, e, d, r⟩ => ⟨o, es, ep, hidT_get e (keepN e d), d, r⟩
    have kb : K.In (hidT s₁.heap H) := fun b o e => hidT_get (KX b o e) (by
      cases q : H b with
      | none => rfl
      | some u =>
        obtain rfl : b = a := hA b (by rw [q]; simp)
        rw [hK (by rw [q]; simp)] at e
        cases e)
    have md : Mod K mg (hidT s₁.heap H) := ⟨kb, nsK hns, ⟨mb, nsK hb, hbb⟩, let ⟨mc, h1, h2⟩ := hlim; ⟨mc, nsK h1, h2⟩⟩
    have e0 : Env0 P w K mg (hidT s₁.heap H) callerA [] s₁ H :=
      ⟨rfl, md, fun b o e => of_hidT e, Nat.le_of_eq (hidT_size _ _), trivial, fun b hb => absurd (show b ∈ ([] : List Addr) from hb) (by simp), hok, .of_eq hg⟩
    refine codeAny_mono ((F _ kb (nsK hns)).run callerA [] s₁ H ⟨[.ref a], []⟩ [.ref a] [.ref a] _ _ rfl hr e0 (hbind s₁ (.ref a)) (.cons rfl .nil) (hsp H hO hS)) fun r s' h => ?_
    cases r with
    | error e => exact (hCX H e s' h).elim
    | ok fl =>
      cases fl with
      | next => exact h.elim
      | brk => exact h.elim
      | cont => exact h.elim
      | ret u =>
        obtain ⟨v, H', os, bare, un, hok', r', q⟩ := h
        obtain rfl : v = .bl true := q
        obtain rfl : u = Value.bool true := r'
        refine ⟨rfl, OldK.of_keep fun b o e => ?_, os, bare⟩
        cases q : H b with
        | none => exact un.keep b o e q (fun z => absurd (show b ∈ ([] : List Addr) from z) (by simp)) (by simp)
        | some u =>
          rcases hO b with z | ⟨ob, xs, z⟩
          · rw [q] at z
            cases z
          · obtain ⟨e1, _⟩ := hok b _ z
            obtain ⟨e2, _⟩ := hok' b _ (un.frzs b ob _ z)
            rw [e] at e1
            cases e1
            exact e2
  cases hk : K.lookup a with
  | some o =>
    have e := KX a o hk
    rw [ha] at e
    cases e
    exact core (fun _ => none) (fun _ => .inl rfl) (.inr ⟨_, vs.toArray, _, hk, rfl, rfl, rfl, by rw [List.size_toArray, lv]; exact hl, by simpa using rv⟩)
      (fun b u z => nomatch (show (none : Option HO) = some u from z)) (fun b z => absurd rfl z) fun z => absurd rfl z
  | none =>
    refine core (fun b => if b = a then some (.frz { cls := .type "list", data := .seq vs.toArray } (.lst (ns.map V.int))) else none) (fun b => ?_)
      (.inl (.inr ⟨{ cls := .type "list", data := .seq vs.toArray }, if_pos rfl⟩)) (fun b u z => ?_) (fun b z => ?_) fun _ => hk
    · by_cases hb : b = a
      · exact .inr ⟨_, _, if_pos hb⟩
      · exact .inl (if_neg hb)
    · by_cases hb : b = a
      · cases (if_pos hb).symm.trans z
        subst hb
        exact ⟨ha, by rw [List.length_map]; exact hl, vs, _, rv, ha⟩
      · cases (if_neg hb).symm.trans z
    · by_cases hb : b = a
      · exact hb
      · exact absurd (if_neg hb) z
/-- the law's promise: a list of at most 63 ints, of at most 2 ^ 20 bits each; True comes back -/
def spLaw (K : PySem.W.Frag) : Sp := fun vs H Q _ => ∃ (a : Addr) (ns : List Int), vs = [.ref a] ∧ SqL K H a (ns.map V.int) ∧ ns.length ≤ 63 ∧ (∀ z ∈ ns, Builtin.Int.intBits z ≤ 1048576) ∧ ∀ H', Q (.bl true) H'
theorem walkM {l : PySem.W.OpenLaw} {k N : Nat} {q : Program} {loose : List Str} {XP : (Str → Option Value) → Heap → Prop} {d : DefRec} {x : Str}
    {fa : List He.Fa} {fn : List He.DefD} {ts : List He.Tab} {ex : PySem.W.Frag → Bool}
    (hn : l.most = some 63) (hdf : d.params.defaults = []) (hr : Room k callerA) (hnm : d.name = ("law" : Str))
    (F : ∀ (w : World) (mg : Str → Option Value) (K : PySem.W.Frag), Tx fa fn ts ex w K mg →
      ∃ fd : FuncData, mg "law" = some (.ref (He.ga K "law")) ∧ (∀ (s : Shared) (u : Value), BindsTo s fd ⟨[u], []⟩ [(x, u)]) ∧ ∀ base : Heap, FnG l.prog w K mg base CX0 k (He.ga K "law") fd [x] (spLaw K)) :
    PySem.W.WalkO q loose XP (hookM N fa fn ts ex).says l.row.toRowW d [] (fun f vs => PySem.call f vs) := by
  refine Att.attach_callB hn hdf fun w s₀ s₁ mg mb fA o pm cd doc a vs ns G Y ho hd hcd hmg hobj hints hlen hbits hg => ?_
  obtain ⟨K, KX, c, e⟩ := Y
  obtain ⟨fd, h0, hb, hF⟩ := F w mg K ⟨c, e, _, KX, G.T.g⟩
  rw [hnm, h0] at hmg
  cases hmg
  exact law_callG KX G.T.g G.T.b G.T.builtins G.T.nolimit hg hobj hints (Nat.le_trans hlen (by decide)) hr (fun base _ _ => hF base) hb
    (fun H hO hS => ⟨a, ns, rfl, hS, hlen, hbits, fun _ => rfl⟩) fun _ _ _ z => z
end TP

namespace TP
open PySem PySem.Spec PyProof.Rows L2

/-! ### a def called by its module's name -/
structure Gt (P : Program) (w : World) (K : PySem.W.Frag) (mg : Str → Option Value) (base : Heap) (CX : CXT) (k : Nat) (x : Str) (ps : List Str) (sp : Sp) : Prop where
  ex : ∃ f fd, mg x = some (.ref f) ∧ PySem.W.keepIn K (.ref f) = true ∧ Binds K fd ps [] ∧ FnOk P w K mg base CX k f fd ps sp
structure GtG (P : Program) (w : World) (K : PySem.W.Frag) (mg : Str → Option Value) (base : Heap) (CX : CXT) (k : Nat) (x : Str) (ps : List Str) (sp : Sp) : Prop where
  ex : ∃ f fd, mg x = some (.ref f) ∧ PySem.W.keepIn K (.ref f) = true ∧ Binds K fd ps [] ∧ FnG P w K mg base CX k f fd ps sp
section
variable {X : Cx} {CX : CXT} {k : Nat} {ps : List Str} {sp : Sp} {E : XK} {x : Str} {p pos : Pos} {e : Expr} {es : List Expr} {t : TA}
theorem Gt.pe (G : Gt X.prog X.w X.K X.mg X.base CX0 k x ps sp) (hr : Room k X.A) (ha : PA X (e :: es) t) (hg : Gl X x := by rfl) (hdb : (x == ("__debug__" : Str)) = false := by decide)
    (he : starEach (e :: es) X.env = (false, eval e X.env) :: starEach es X.env := by rfl) (hpl : (backTo pos (starEach es X.env)).any (·.1) = false := by rfl) :
    PE X (.Call (.Name x p) (e :: es) [] pos) (tCall sp [] E0 t) := by
  obtain ⟨f, fd, hm, hk, hb, F⟩ := G.ex
  exact pe_call F hr hg hm hk hb .nil pass0 ha hdb he hpl
theorem Gt.peX (G : Gt X.prog X.w X.K X.mg X.base CX k x ps sp) (hr : Room k X.A) (hx : Passes CX X E) (ha : PA X (e :: es) t) (hg : Gl X x := by rfl) (hdb : (x == ("__debug__" : Str)) = false := by decide)
    (he : starEach (e :: es) X.env = (false, eval e X.env) :: starEach es X.env := by rfl) (hpl : (backTo pos (starEach es X.env)).any (·.1) = false := by rfl) :
    PE X (.Call (.Name x p) (e :: es) [] pos) (tCall sp [] E t) := by
  obtain ⟨f, fd, hm, hk, hb, F⟩ := G.ex
  exact pe_call F hr hg hm hk hb .nil hx ha hdb he hpl
theorem GtG.pe (G : GtG X.prog X.w X.K X.mg X.base CX0 k x ps sp) (hgd : X.A.guards = some []) (hr : Room k X.A) (ha : PA X (e :: es) t) (hg : Gl X x := by rfl) (hdb : (x == ("__debug__" : Str)) = false := by decide)
    (he : starEach (e :: es) X.env = (false, eval e X.env) :: starEach es X.env := by rfl) (hpl : (backTo pos (starEach es X.env)).any (·.1) = false := by rfl) :
    PE X (.Call (.Name x p) (e :: es) [] pos) (tCall sp [] E0 t) := by
  obtain ⟨f, fd, hm, hk, hb, F⟩ := G.ex
  exact pe_callG F hgd hr hg hm hk hb pass0 ha hdb he hpl
end
section
variable {P : Program} {w : World} {K : PySem.W.Frag} {mg : Str → Option Value} {base : Heap} {CX : CXT} {k : Nat} {x : Str} {ps : List Str} {sp sp' : Sp}
theorem Gt.mono {j : Nat} (G : Gt P w K mg base CX j x ps sp) (h : j ≤ k) : Gt P w K mg base CX k x ps sp := by
  obtain ⟨f, fd, hm, hk, hb, F⟩ := G.ex
  exact ⟨f, fd, hm, hk, hb, F.mono h⟩
theorem Gt.imp (G : Gt P w K mg base CX k x ps sp) (h : ∀ vs H Q E, sp' vs H Q E → sp vs H Q E) : Gt P w K mg base CX k x ps sp' := by
  obtain ⟨f, fd, hm, hk, hb, F⟩ := G.ex
  exact ⟨f, fd, hm, hk, hb, F.imp h⟩
/-- what is to be shown of a def's body -/
abbrev BodyOk (P : Program) (w : World) (K : PySem.W.Frag) (mg : Str → Option Value) (base : Heap) (k : Nat) (N : List Str) (d : He.DefD) (sp : Sp) : Prop :=
  ∀ (f : Addr) (cdv : Value) (A : Around) (outer : List Env) (s : Shared) (H : Hp) (vs : List V) (Q : VK) (E : XK), Room k (A.deeper (envOfC d.qual d.scope s.heap.objs.size f cdv)) → sp vs H Q E →
      ∃ t, PSs (cxOf CX0 P w K mg base N d.qual d.scope f cdv A outer s H E).nox d.body t ∧ t { nx := fun _ H' => Q .non H', rt := Q } (start N vs) H
abbrev BodyOkX (P : Program) (w : World) (K : PySem.W.Frag) (mg : Str → Option Value) (base : Heap) (k : Nat) (N : List Str) (d : He.DefD) (sp : Sp) : Prop :=
  ∀ (f : Addr) (cdv : Value) (A : Around) (outer : List Env) (s : Shared) (H : Hp) (vs : List V) (Q : VK) (E : XK), Room k (A.deeper (envOfC d.qual d.scope s.heap.objs.size f cdv)) → sp vs H Q E →
      ∃ t, PSs (cxOf (L2.CX P w) P w K mg base N d.qual d.scope f cdv A outer s H E) d.body t ∧ t { nx := fun _ H' => Q .non H', rt := Q } (start N vs) H
abbrev BodyOkG (P : Program) (w : World) (K : PySem.W.Frag) (mg : Str → Option Value) (base : Heap) (k : Nat) (N : List Str) (d : He.DefD) (sp : Sp) : Prop :=
  ∀ (f : Addr) (cdv : Value) (A : Around) (outer : List Env) (s : Shared) (H : Hp) (vs : List V) (Q : VK) (E : XK), A.guards = some [] → Room k (A.deeper (envOfC d.qual d.scope s.heap.objs.size f cdv)) → sp vs H Q E →
      ∃ t, PSs (cxOf CX0 P w K mg base N d.qual d.scope f cdv A outer s H E).nox d.body t ∧ t { nx := fun _ H' => Q .non H', rt := Q } (start N vs) H
abbrev IsDef (K : PySem.W.Frag) (d : He.DefD) : Prop := ∃ fd, FunD K d.name d.qual d.params d.body d.scope (d.dvs K) (d.kws K) (He.fAd K d.at_) fd
abbrev BindN (d : He.DefD) (ps : List Str) : Prop := ∀ (kV doc pm : Value) (an : Option Addr) (cdv ct : Value) (us : List Value), us.length = ps.length →
  bindArgs (PySem.W.fnOf d.name d.qual d.params d.body d.scope .none kV doc pm an cdv ct) ⟨us, []⟩ = pure (ps.zip us)
theorem fn_ok0 {N : List Str} {d : He.DefD} {f : Addr} {fd : FuncData} (F : FunD K d.name d.qual d.params d.body d.scope (d.dvs K) (d.kws K) f fd) (S : FnScope N ps d.scope)
    (len : ∀ vs H Q E, sp vs H Q E → vs.length = ps.length) (B : BodyOk P w K mg base k N d sp) : FnOk P w K mg base CX0 (k + 1) f fd ps sp :=
  F.ok S len fun cdv A outer s H vs Q E hr h => by
    obtain ⟨t, h1, h2⟩ := B f cdv A outer s H vs Q E hr h
    exact ⟨t, h1.nox, h2⟩
theorem fn_okX {N : List Str} {d : He.DefD} {f : Addr} {fd : FuncData} (F : FunD K d.name d.qual d.params d.body d.scope (d.dvs K) (d.kws K) f fd) (S : FnScope N ps d.scope)
    (len : ∀ vs H Q E, sp vs H Q E → vs.length = ps.length) (B : BodyOkX P w K mg base k N d sp) : FnOk P w K mg base (L2.CX P w) (k + 1) f fd ps sp :=
  F.ok S len fun cdv A outer s H vs Q E hr h => B f cdv A outer s H vs Q E hr h
theorem fn_okG {N : List Str} {d : He.DefD} {f : Addr} {fd : FuncData} (F : FunD K d.name d.qual d.params d.body d.scope (d.dvs K) (d.kws K) f fd) (S : FnScope N ps d.scope)
    (len : ∀ vs H Q E, sp vs H Q E → vs.length = ps.length) (B : BodyOkG P w K mg base k N d sp) : FnG P w K mg base CX0 (k + 1) f fd ps sp := by
  obtain ⟨oc, od, dV, kV, doc, pm, an, cdv, ct, osl, rfl, lk, hcd, _, _⟩ := F.ex
  exact fnG_of lk hcd S len fun A outer s H vs Q E hg hr h => by
    obtain ⟨t, h1, h2⟩ := B f cdv A outer s H vs Q E hg hr h
    exact ⟨t, h1.nox, h2⟩
theorem gt_mk {N : List Str} {d : He.DefD} (D : IsDef K d) (g : mg x = some (.ref (He.fAd K d.at_))) (S : FnScope N ps d.scope) (hd : d.dfl = []) (hb : BindN d ps)
    (len : ∀ vs H Q E, sp vs H Q E → vs.length = ps.length) (B : BodyOk P w K mg base k N d sp) : Gt P w K mg base CX0 (k + 1) x ps sp := by
  obtain ⟨fd, F⟩ := D
  refine ⟨_, fd, g, F.kp, ?_, fn_ok0 F S len B⟩
  have e : d.dvs K = [] := by unfold He.DefD.dvs; rw [hd]; rfl
  rw [e] at F
  exact F.bindsN hb
theorem gtX_mk {N : List Str} {d : He.DefD} (D : IsDef K d) (g : mg x = some (.ref (He.fAd K d.at_))) (S : FnScope N ps d.scope) (hd : d.dfl = []) (hb : BindN d ps)
    (len : ∀ vs H Q E, sp vs H Q E → vs.length = ps.length) (B : BodyOkX P w K mg base k N d sp) : Gt P w K mg base (L2.CX P w) (k + 1) x ps sp := by
  obtain ⟨fd, F⟩ := D
  refine ⟨_, fd, g, F.kp, ?_, fn_okX F S len B⟩
  have e : d.dvs K = [] := by unfold He.DefD.dvs; rw [hd]; rfl
  rw [e] at F
  exact F.bindsN hb
theorem gtG_mk {N : List Str} {d : He.DefD} (D : IsDef K d) (g : mg x = some (.ref (He.fAd K d.at_))) (S : FnScope N ps d.scope) (hd : d.dfl = []) (hb : BindN d ps)
    (len : ∀ vs H Q E, sp vs H Q E → vs.length = ps.length) (B : BodyOkG P w K mg base k N d sp) : GtG P w K mg base CX0 (k + 1) x ps sp := by
  obtain ⟨fd, F⟩ := D
  refine ⟨_, fd, g, F.kp, ?_, fn_okG F S len B⟩
  have e : d.dvs K = [] := by unfold He.DefD.dvs; rw [hd]; rfl
  rw [e] at F
  exact F.bindsN hb
/-- for walkM -/
theorem law_fd {N : List Str} {d : He.DefD} (D : IsDef K d) (S : FnScope N [x] d.scope) (hd : d.dfl = []) (hb : BindN d [x])
    (len : ∀ vs H Q E, sp vs H Q E → vs.length = [x].length) (B : ∀ base, BodyOkG P w K mg base k N d sp) :
    ∃ fd : FuncData, (∀ (s : Shared) (u : Value), BindsTo s fd ⟨[u], []⟩ [(x, u)]) ∧ ∀ base : Heap, FnG P w K mg base CX0 (k + 1) (He.fAd K d.at_) fd [x] sp := by
  obtain ⟨fd, F⟩ := D
  have F0 := F
  have e : d.dvs K = [] := by unfold He.DefD.dvs; rw [hd]; rfl
  rw [e] at F
  exact ⟨fd, fun s u => F.bindsA hb s [u] rfl, fun base => fn_okG F0 S len (B base)⟩
end

/-! ### names of the module -/
section
variable {X : Cx} {x : Str} {pos : Pos}
theorem pe_gint {i : Int} (h : ∃ t, X.mg x = some (.int i t)) (hg : Gl X x := by rfl) (hd : (x == ("__debug__" : Str)) = false := by decide) : PE X (.Name x pos) (tC (.int i)) := by
  obtain ⟨t, h⟩ := h
  exact pe_glob hg h ⟨t, rfl⟩ hd
theorem pe_gstr {z : Str} (h : ∃ t, X.mg x = some (.str z t)) (hg : Gl X x := by rfl) (hd : (x == ("__debug__" : Str)) = false := by decide) : PE X (.Name x pos) (tC (.str z)) := by
  obtain ⟨t, h⟩ := h
  exact pe_glob hg h ⟨t, rfl⟩ hd
theorem pe_gref {a : Addr} (h : X.mg x = some (.ref a)) (hg : Gl X x := by rfl) (hd : (x == ("__debug__" : Str)) = false := by decide) : PE X (.Name x pos) (tC (.ref a)) := pe_glob hg h rfl hd
theorem pe_gty {n : String} (h : X.mg x = none) (hv : bootBuiltins x = some (.type n)) (hg : Gl X x := by rfl) (hn : x ≠ "__name__" := by decide) (hd : (x == ("__debug__" : Str)) = false := by decide) : PE X (.Name x pos) (tC (.ty n)) := pe_bltn hg h hv rfl hn hd
end
/-! ### heaps: all that was told but one object stays -/
def Wk (a : Addr) (H H' : Hp) : Prop := ∀ b o, b ≠ a → H b = some o → H' b = some o
theorem Wk.refl (a : Addr) (H : Hp) : Wk a H H := fun _ _ _ h => h
theorem Wk.trans {a : Addr} {H H1 H2 : Hp} (x : Wk a H H1) (y : Wk a H1 H2) : Wk a H H2 := fun b o n h => y b o n (x b o n h)
theorem Wk.set {a : Addr} {H H' : Hp} {o : HO} (x : Wk a H H') : Wk a H (upd H' a o) := fun b u n h => by
  rw [upd_ne n]
  exact x b u n h
theorem Wk.new {a p : Addr} {H H' : Hp} {o : HO} (x : Wk a H H') (hp : H' p = none) : Wk a H (upd H' p o) := fun b u n h => by
  rw [upd_ne (ne_of_none (x b u n h) hp)]
  exact x b u n h
/-! ### the well of draws -/
def Wl (H : Hp) (a : Addr) (n : Nat) : Prop := ∃ x y c : Int, H a = some (.lst [.int x, .int y, .int c]) ∧ 0 ≤ x ∧ 0 ≤ y ∧ y < 2147483647 ∧ 0 ≤ c ∧ c ≤ n
theorem Wl.mono {H : Hp} {a : Addr} {n m : Nat} (h : Wl H a n) (l : n ≤ m) : Wl H a m := by
  obtain ⟨x, y, c, e, h1, h2, h3, h4, h5⟩ := h
  exact ⟨x, y, c, e, h1, h2, h3, h4, by omega⟩
theorem Wl.new {H : Hp} {a p : Addr} {o : HO} {n : Nat} (h : Wl H a n) (hp : H p = none) : Wl (upd H p o) a n := by
  obtain ⟨x, y, c, e, r⟩ := h
  exact ⟨x, y, c, by rw [upd_ne (ne_of_none e hp)]; exact e, r⟩
theorem Wl.some {H : Hp} {a : Addr} {n : Nat} (h : Wl H a n) : ∃ o, H a = some o := by
  obtain ⟨x, y, c, e, _⟩ := h
  exact ⟨_, e⟩
/-- a draw's end: the well a has gone on from at most n to at most m draws, all else stays -/
structure Dn (a : Addr) (m : Nat) (H H' : Hp) : Prop where
  wl : Wl H' a m
  k : Wk a H H'
theorem Dn.free {a p : Addr} {m : Nat} {H H' : Hp} (d : Dn a m H H') (h : H' p = none) : H p = none := by
  cases q : H p with
  | none => rfl
  | some o =>
    by_cases e : p = a
    · obtain ⟨u, hu⟩ := d.wl.some
      rw [e, hu] at h
      cases h
    · rw [d.k p o e q] at h
      cases h
theorem Dn.trans {a : Addr} {n m : Nat} {H H1 H2 : Hp} (x : Dn a n H H1) (y : Dn a m H1 H2) : Dn a m H H2 := ⟨y.wl, x.k.trans y.k⟩
theorem Dn.new {a p : Addr} {m : Nat} {H H' : Hp} {o : HO} (x : Dn a m H H') (hp : H' p = none) : Dn a m H (upd H' p o) := ⟨x.wl.new hp, x.k.new hp⟩
theorem Dn.mono {a : Addr} {m n : Nat} {H H' : Hp} (x : Dn a m H H') (l : m ≤ n) : Dn a n H H' := ⟨x.wl.mono l, x.k⟩
theorem Dn.at {a b : Addr} {m : Nat} {H H' : Hp} {o : HO} (d : Dn a m H H') (h : H b = some o) (n : b ≠ a) : H' b = some o := d.k b o n h
theorem Dn.rd {a b : Addr} {m : Nat} {H H' : Hp} {u : HO} (d : Dn a m H H') (h : Rd H b u) (n : b ≠ a) : Rd H' b u := by
  rcases h with h | ⟨o, h⟩
  · exact .inl (d.k b _ n h)
  · exact .inr ⟨o, d.k b _ n h⟩
theorem Dn.sql {K : PySem.W.Frag} {a b : Addr} {m : Nat} {H H' : Hp} {xs : List V} (d : Dn a m H H') (h : SqL K H b xs) (n : b ≠ a) : SqL K H' b xs := by
  rcases h with h | h
  · exact .inl (d.rd h n)
  · exact .inr h
theorem Dn.sqt {K : PySem.W.Frag} {a b : Addr} {m : Nat} {H H' : Hp} {xs : List V} (d : Dn a m H H') (h : SqT K H b xs) (n : b ≠ a) : SqT K H' b xs := by
  rcases h with h | h
  · exact .inl (d.rd h n)
  · exact .inr h
theorem log2_small_of {m : Nat} (h : m < 2 ^ 64) : m.log2 < 9000 := by
  by_cases h0 : m = 0
  · subst h0
    decide
  · exact Nat.lt_of_lt_of_le ((Nat.log2_lt h0).mpr h) (by decide)
/-- the promise of a draw -/
def spDraw : Sp := fun vs H Q _ => ∃ (a : Addr) (n : Nat) (m : Int), vs = [.ref a, .int m] ∧ Wl H a n ∧ n < 1000000 ∧ 0 < m ∧ m.natAbs.log2 < 9000 ∧
  ∀ (d : Int) (H' : Hp), 0 ≤ d → d < m → Dn a (n + 1) H H' → Q (.int d) H'
/-- the promise of a well -/
def spWell : Sp := fun vs H Q _ => ∃ z : Int, vs = [.int z] ∧ ∀ (a : Addr) (H' : Hp), H a = none → Wl H' a 0 → Evl.Ex H H' → Q (.ref a) H'
/-- one of some: the item at a drawn place -/
def spOne (K : PySem.W.Frag) : Sp := fun vs H Q _ => ∃ (a l : Addr) (n : Nat) (xs : List V), vs = [.ref a, .ref l] ∧ Wl H a n ∧ n < 1000000 ∧ SqL K H l xs ∧ l ≠ a ∧ 0 < xs.length ∧ xs.length ≤ 1000000 ∧
  ∀ (v : V) (H' : Hp), v ∈ xs → Dn a (n + 1) H H' → Q v H'
end TP

namespace TP
open PySem PySem.Spec PyProof.Rows L2

/-! ### the heap without one object -/
def hid (a : Addr) (H : Hp) : Hp := fun b => if b = a then none else H b
theorem hid_ne {a b : Addr} {H : Hp} (h : b ≠ a) : hid a H b = H b := if_neg h
theorem hid_same {a : Addr} {H : Hp} : hid a H a = none := if_pos rfl
theorem hid_ex {a : Addr} {H : Hp} : Evl.Ex (hid a H) H := fun b o h => by
  by_cases e : b = a
  · rw [e, hid_same] at h
    cases h
  · rwa [hid_ne e] at h
theorem hid_of {a b : Addr} {H : Hp} {o : HO} (h : H b = some o) (n : b ≠ a) : hid a H b = some o := by rw [hid_ne n]; exact h
theorem Wk.hx {a : Addr} {H H' : Hp} (k : Wk a H H') : Evl.Ex (hid a H) (hid a H') := fun b o h => by
  by_cases e : b = a
  · rw [e, hid_same] at h
    cases h
  · rw [hid_ne e] at h ⊢
    exact k b o e h
theorem Dn.hx {a : Addr} {m : Nat} {H H' : Hp} (d : Dn a m H H') : Evl.Ex (hid a H) (hid a H') := d.k.hx
theorem hid_new {a p : Addr} {H : Hp} {o : HO} (hp : H p = none) : Evl.Ex (hid a H) (hid a (upd H p o)) := (Wk.new (Wk.refl a H) hp).hx
theorem hid_at {a p : Addr} {H : Hp} {o : HO} (n : p ≠ a) : hid a (upd H p o) p = some o := by rw [hid_ne n, upd_same]
theorem Wl.nep {H : Hp} {a p : Addr} {n : Nat} (h : Wl H a n) (hp : H p = none) : p ≠ a := fun e => by
  obtain ⟨o, ho⟩ := h.some
  rw [e, ho] at hp
  cases hp
theorem Ex.wl {H H' : Hp} {a : Addr} {n : Nat} (e : Evl.Ex H H') (h : Wl H a n) : Wl H' a n := by
  obtain ⟨x, y, c, ea, r⟩ := h
  exact ⟨x, y, c, e _ _ ea, r⟩
theorem Ex.wk {H H' : Hp} (a : Addr) (e : Evl.Ex H H') : Wk a H H' := fun b o _ h => e b o h
theorem Ex.free {H H' : Hp} {p : Addr} (e : Evl.Ex H H') (h : H' p = none) : H p = none := by
  cases q : H p with
  | none => rfl
  | some o =>
    rw [e p o q] at h
    cases h

/-! ### things over larger heaps -/
mutual
theorem Dr.ex {K : PySem.W.Frag} {H H' : Hp} (x : Evl.Ex H H') : ∀ (d : PyData) (v : V), Dr K H v d → Dr K H' v d
  | .none, _, h => by cases h; exact .non
  | .bool _, _, h => by cases h; exact .bl _
  | .int _, _, h => by cases h; exact .int _
  | .str _, _, h => by cases h; exact .str _
  | .list ds, _, h => by
    cases h with
    | lst a b => exact .lst (Evl.ex_l x a) (DrAll.ex x ds _ b)
  | .tuple ds, _, h => by
    cases h with
    | tup a b => exact .tup (Evl.ex_t x a) (DrAll.ex x ds _ b)
  | .dict ds, _, h => by
    cases h with
    | dct a b => exact .dct (x _ _ a) (DrKv.ex x ds _ b)
theorem DrAll.ex {K : PySem.W.Frag} {H H' : Hp} (x : Evl.Ex H H') : ∀ (ds : List PyData) (vs : List V), DrAll K H vs ds → DrAll K H' vs ds
  | [], _, h => by cases h; exact .nil
  | d :: ds, _, h => by
    cases h with
    | cons a b => exact .cons (Dr.ex x d _ a) (DrAll.ex x ds _ b)
theorem DrKv.ex {K : PySem.W.Frag} {H H' : Hp} (x : Evl.Ex H H') : ∀ (ds : List (PyData × PyData)) (vs : List (Key × V)), DrKv K H vs ds → DrKv K H' vs ds
  | [], _, h => by cases h; exact .nil
  | (_, d) :: ds, _, h => by
    cases h with
    | cons a b => exact .cons (Dr.ex x d _ a) (DrKv.ex x ds _ b)
end
/-- the name of a thing's class -/
def tyN : PyData → String
  | .none => "NoneType"
  | .bool _ => "bool"
  | .int _ => "int"
  | .str _ => "str"
  | .list _ => "list"
  | .tuple _ => "tuple"
  | .dict _ => "dict"
theorem Dr.ty {K : PySem.W.Frag} {H : Hp} {v : V} {d : PyData} (h : Dr K H v d) : TyX K H v (.type (tyN d)) := by
  cases h with
  | non => exact .base .non
  | bl b => exact .base (.bl b)
  | int i => exact .base (.int i)
  | str x => exact .base (.str x)
  | lst a b =>
    rcases a with (a | ⟨o, a⟩) | a
    · exact .base (.lst a)
    · exact .base (.frz a)
    · obtain ⟨o, its, n, h1, h2, _⟩ := a
      exact .kList h1 h2
  | tup a b =>
    rcases a with (a | ⟨o, a⟩) | a
    · exact .base (.tup a)
    · exact .fTuple a
    · obtain ⟨o, its, n, h1, h2, _⟩ := a
      exact .kTuple h1 h2
  | dct a b => exact .base (.dK a)
/-- isinstance of such a thing -/
def tyNs : List String := ["NoneType", "bool", "int", "str", "list", "tuple", "dict"]
theorem tyN_mem (d : PyData) : tyN d ∈ tyNs := by cases d <;> (unfold tyN tyNs; simp)
theorem kit_tab : ∀ t ∈ tyNs, ∀ c ∈ ["str", "tuple", "list", "dict", "bool"], kitB t c = some (decide (t = c)) := by decide +kernel
theorem kit_tabI : ∀ t ∈ tyNs, kitB t "int" = some (decide (t = "int" ∨ t = "bool")) := by decide +kernel
theorem kit_thing {K : PySem.W.Frag} (d : PyData) {c : String} (hc : c ∈ ["str", "tuple", "list", "dict", "bool"] := by simp) : PySem.W.kitOne K (.type (tyN d)) (.type c) = some (decide (tyN d = c)) :=
  kit_ty (kit_tab _ (tyN_mem d) _ hc)
theorem kit_int {K : PySem.W.Frag} (d : PyData) : PySem.W.kitOne K (.type (tyN d)) (.type "int") = some (decide (tyN d = "int" ∨ tyN d = "bool")) := kit_ty (kit_tabI _ (tyN_mem d))

/-! ### how long what is shown is -/
mutual
def wt : PyData → Nat
  | .none => 4
  | .bool _ => 5
  | .int i => (PyData.shown (.int i)).length
  | .str x => (reprText x).length
  | .list xs => wtAll xs + 3
  | .tuple xs => wtAll xs + 3
  | .dict kvs => wtKv kvs + 3
def wtAll : List PyData → Nat
  | [] => 0
  | x :: xs => wt x + 2 + wtAll xs
def wtKv : List (PyData × PyData) → Nat
  | [] => 0
  | (k, v) :: r => wt k + wt v + 4 + wtKv r
end
mutual
theorem shown_wt : ∀ d : PyData, d.shown.length ≤ wt d
  | .none => by rw [PyData.shown_none, wt]; decide
  | .bool b => by rw [PyData.shown_bool, wt]; cases b <;> decide
  | .int i => by rw [wt]; exact Nat.le_refl _
  | .str x => by rw [PyData.shown_str, wt]; exact Nat.le_refl _
  | .list xs => by
    have h := shownAll_wt xs
    have e : (PyData.list xs).shown = listText (PyData.shownAll xs) := by rw [PyData.shown_list, listText_eq_join]
    have q := listText_len_le (PyData.shownAll xs)
    rw [e, wt]
    rw [PyData.shownAll_length] at q
    omega
  | .tuple xs => by
    have h := shownAll_wt xs
    have e : (PyData.tuple xs).shown = tupleText (PyData.shownAll xs) := by
      rw [PyData.shown_tuple]
      unfold tupleText
      rw [PyData.shownAll_length]
    have q := tupleText_len_le (PyData.shownAll xs)
    rw [e, wt]
    rw [PyData.shownAll_length] at q
    omega
  | .dict kvs => by
    have h := shownKv_wt kvs
    have e : (PyData.dict kvs).shown = dictText (PyData.shownKv kvs) := by rw [PyData.shown_dict]; rfl
    have q := dictText_len_le (PyData.shownKv kvs)
    rw [e, wt]
    rw [PyData.shownKv_length] at q
    omega
theorem shownAll_wt : ∀ xs : List PyData, ((PyData.shownAll xs).map (·.length)).sum + 2 * xs.length ≤ wtAll xs
  | [] => by rw [PyData.shownAll_nil]; simp [wtAll]
  | x :: xs => by
    have h1 := shown_wt x
    have h2 := shownAll_wt xs
    rw [PyData.shownAll_cons, wtAll, List.map_cons, List.sum_cons, List.length_cons]
    omega
theorem shownKv_wt : ∀ kvs : List (PyData × PyData), ((PyData.shownKv kvs).map (·.length)).sum + 2 * kvs.length ≤ wtKv kvs
  | [] => by rw [PyData.shownKv_nil]; simp [wtKv]
  | (k, v) :: r => by
    have h1 := shown_wt k
    have h2 := shown_wt v
    have h3 := shownKv_wt r
    have e : (": " : Str).length = 2 := by decide
    rw [PyData.shownKv_cons, wtKv, List.map_cons, List.sum_cons, List.length_cons, strLen_append, strLen_append, e]
    omega
end
/-- small things: shown by at most B signs, at most 20 deep -/
structure Sm (B : Nat) (d : PyData) : Prop where
  sh : d.showable = true
  wt : wt d ≤ B
  dp : d.depth ≤ 20
theorem Sm.mono {B C : Nat} {d : PyData} (h : Sm B d) (l : B ≤ C) : Sm C d := ⟨h.sh, Nat.le_trans h.wt l, h.dp⟩
theorem Sm.rp {B : Nat} {d : PyData} (h : Sm B d) (hb : B ≤ 1000000 := by decide) : d.showable = true ∧ d.depth ≤ 50 ∧ d.shown.length ≤ sizeLine :=
  ⟨h.sh, Nat.le_trans h.dp (by decide), Nat.le_trans (shown_wt d) (Nat.le_trans h.wt (Nat.le_trans hb (by decide)))⟩
theorem Sm.repr {K : PySem.W.Frag} {B : Nat} {d : PyData} {H : Hp} {v : V} {Q : VK} (h : Sm B d) (hb : B ≤ 1000000) (hd : Dr K H v d) (q : Q (.str d.shown) H) : rRepr K [v] H Q :=
  ⟨v, d, rfl, hd, h.sh, Nat.le_trans h.dp (by decide), Nat.le_trans (shown_wt d) (Nat.le_trans h.wt (Nat.le_trans hb (by decide))), q⟩

/-! ### texts -/
def rRepS : R2 := fun x y H Q => ∃ (z : Str) (n : Int), x = .str z ∧ y = .int n ∧ z.length ≤ 1000 ∧ 0 ≤ n ∧ n ≤ 1000 ∧ Q (.str (Txt.mul z n)) H
theorem op_repS {X : Cx} : OpR X (binaryOp .Mult) rRepS := by
  intro pins s σ H x y v u Q I rx ry h
  obtain ⟨z, n, rfl, rfl, hz, h0, h1, q⟩ := h
  obtain ⟨t, rfl⟩ := rx
  obtain ⟨t', rfl⟩ := ry
  refine SB.mul ⟨?_, fun a _ => ?_, fun a _ => ?_⟩ fun t' k => ⟨.str _, H, I.tok k, ⟨_, rfl⟩, q⟩
  · simp only [Bool.or_eq_false_iff, decide_eq_false_iff_not]
    omega
  · have : (1000 : Int) ≤ (2 ^ 63 - 1) / n := by
      rw [Int.le_ediv_iff_mul_le (by omega)]
      omega
    omega
  · have hm : z.length * n.toNat ≤ 1000 * 1000 := Nat.mul_le_mul hz (by omega)
    unfold Builtin.Str.tooLong
    simp only [decide_eq_false_iff_not]
    have : sizeLine = 16777216 := sizeLine_eq
    omega
end TP

namespace TP
open PySem PySem.Spec PyProof.Rows L2

/-! ### names -/
def LT : Str := "abcdefghijklmnopqrstuvwxyz"
theorem LT_list : LT.cps.toList = [97, 98, 99, 100, 101, 102, 103, 104, 105, 106, 107, 108, 109, 110, 111, 112, 113, 114, 115, 116, 117, 118, 119, 120, 121, 122] := by decide +kernel
theorem LT_mem {c : Nat} : c ∈ LT.cps.toList ↔ 97 ≤ c ∧ c ≤ 122 := by
  rw [LT_list]
  simp only [List.mem_cons, List.not_mem_nil, or_false]
  omega
def isNm (z : Str) : Bool := decide (1 ≤ z.length) && (decide (z.length ≤ 8) && z.cps.toList.all fun c => decide (c ∈ LT.cps.toList))
structure NmP (z : Str) : Prop where
  lo : 1 ≤ z.length
  hi : z.length ≤ 8
  sg : ∀ c ∈ z.cps.toList, c ∈ LT.cps.toList
theorem isNm_iff {z : Str} : isNm z = true ↔ NmP z := by
  unfold isNm
  simp only [Bool.and_eq_true, decide_eq_true_eq, List.all_eq_true]
  exact ⟨fun h => ⟨h.1, h.2.1, h.2.2⟩, fun h => ⟨h.lo, h.hi, h.sg⟩⟩
def isNmD : PyData → Bool
  | .str z => isNm z
  | _ => false
def isAdD : PyData → Bool
  | .tuple [a, b] => isNmD a && isNmD b
  | _ => false
theorem strLen (z : Str) : z.length = z.cps.toList.length := by show z.cps.size = _; simp
theorem NmP.short {z : Str} (h : NmP z) : (reprText z).length ≤ 82 := by
  have := StrLaws.reprText_len z (fun c hc => by have := LT_mem.mp (h.sg c hc); omega)
  have := h.hi
  omega
/-- the promise of a drawn name -/
def spName : Sp := fun vs H Q _ => ∃ (a : Addr) (n : Nat), vs = [.ref a] ∧ Wl H a n ∧ n < 900000 ∧ ∀ (z : Str) (H' : Hp), NmP z → Dn a (n + 20) H H' → Q (.str z) H'
/-- is_name(x), x any thing -/
def spIsName (K : PySem.W.Frag) : Sp := fun vs H Q _ => ∃ (x : V) (d : PyData), vs = [x] ∧ Dr K H x d ∧ (∀ z, d = .str z → z.length ≤ 1000000) ∧ ∀ H', Evl.Ex H H' → Q (.bl (isNmD d)) H'
def spIsAddr (K : PySem.W.Frag) : Sp := fun vs H Q _ => ∃ (x : V) (d : PyData), vs = [x] ∧ Dr K H x d ∧ (∀ ds, d = .tuple ds → ∀ e ∈ ds, ∀ z, e = .str z → z.length ≤ 1000000) ∧ ∀ H', Evl.Ex H H' → Q (.bl (isAdD d)) H'
theorem Dr.str_of {K : PySem.W.Frag} {H : Hp} {x : V} {d : PyData} (h : Dr K H x d) (e : tyN d = "str") : ∃ z, x = .str z ∧ d = .str z := by
  cases h with
  | str z => exact ⟨z, rfl, rfl⟩
  | non => exact (by simp [tyN] at e)
  | bl b => exact (by simp [tyN] at e)
  | int i => exact (by simp [tyN] at e)
  | lst a b => exact (by simp [tyN] at e)
  | tup a b => exact (by simp [tyN] at e)
  | dct a b => exact (by simp [tyN] at e)
theorem Dr.tup_of {K : PySem.W.Frag} {H : Hp} {x : V} {d : PyData} (h : Dr K H x d) (e : tyN d = "tuple") : ∃ a xs ds, x = .ref a ∧ d = .tuple ds ∧ SqT K H a xs ∧ DrAll K H xs ds := by
  cases h with
  | tup a b => exact ⟨_, _, _, rfl, rfl, a, b⟩
  | non => exact (by simp [tyN] at e)
  | bl b => exact (by simp [tyN] at e)
  | int i => exact (by simp [tyN] at e)
  | lst a b => exact (by simp [tyN] at e)
  | str z => exact (by simp [tyN] at e)
  | dct a b => exact (by simp [tyN] at e)
theorem isNmD_no {d : PyData} (h : ¬ tyN d = "str") : isNmD d = false := by
  cases d <;> first | rfl | exact absurd rfl h
theorem isAdD_no {d : PyData} (h : ¬ tyN d = "tuple") : isAdD d = false := by
  cases d <;> first | rfl | exact absurd rfl h
theorem DrAll.len {K : PySem.W.Frag} {H : Hp} : ∀ {xs : List V} {ds : List PyData}, DrAll K H xs ds → xs.length = ds.length
  | _, _, .nil => rfl
  | _, _, .cons _ h => by rw [List.length_cons, List.length_cons, DrAll.len h]
theorem DrAll.at {K : PySem.W.Frag} {H : Hp} : ∀ {xs : List V} {ds : List PyData} {i : Nat} {x : V}, DrAll K H xs ds → xs[i]? = some x → ∃ d, ds[i]? = some d ∧ Dr K H x d
  | _, _, 0, _, .cons h _, e => by
    cases e
    exact ⟨_, rfl, h⟩
  | _, _, i + 1, _, .cons _ h, e => by
    obtain ⟨d, h1, h2⟩ := DrAll.at (i := i) h (by simpa using e)
    exact ⟨d, by simpa using h1, h2⟩
theorem atC_of {cs : List Nat} {z : Int} {j : Nat} {v : Nat} (e : z = (j : Int)) (h : cs[j]? = some v) : atI cs z = some v := by
  rw [e]
  exact atI_nat h
theorem emp_codes {c : Nat} (h : c ∈ ("" : Str).cps.toList) : False := by
  have e : ("" : Str).cps.toList = [] := by decide +kernel
  rw [e] at h
  cases h
theorem app_codes (x y : Str) : (x ++ y).cps.toList = x.cps.toList ++ y.cps.toList := by
  show (x.cps ++ y.cps).toList = _
  simp
/-! ### short plain texts -/
structure As (B : Nat) (z : Str) : Prop where
  len : z.length ≤ B
  sg : ∀ c ∈ z.cps.toList, c < 128
theorem As.mono {B C : Nat} {z : Str} (h : As B z) (l : B ≤ C) : As C z := ⟨Nat.le_trans h.len l, h.sg⟩
theorem NmP.as {z : Str} (h : NmP z) : As 8 z := ⟨h.hi, fun c hc => by have := LT_mem.mp (h.sg c hc); omega⟩
theorem As.app {B C : Nat} {x y : Str} (h : As B x) (g : As C y) : As (B + C) (x ++ y) := ⟨by rw [strLen_append]; exact Nat.add_le_add h.len g.len, fun c hc => by
  rw [app_codes] at hc
  exact (List.mem_append.mp hc).elim (h.sg c) (g.sg c)⟩
theorem cutS_codes (z : Str) (lo hi : Option Int) : (cutS z lo hi).cps.toList = ((z.cps.toList.drop (HT.sIx z.length 0 lo)).take (HT.sIx z.length z.length hi - HT.sIx z.length 0 lo)) := by
  unfold cutS
  rfl
theorem As.cut {B : Nat} {z : Str} (h : As B z) (lo hi : Option Int) : As B (cutS z lo hi) := ⟨by
    have := h.len
    rw [strLen, cutS_codes, List.length_take, List.length_drop, ← strLen]
    omega, fun c hc => by
    rw [cutS_codes] at hc
    exact h.sg c (List.mem_of_mem_drop (List.mem_of_mem_take hc))⟩
theorem mul2 (z : Str) : Txt.mul z 2 = if (z.length == 0) = true then z else z ++ z := by
  unfold Txt.mul
  rw [if_neg (by decide)]
  by_cases h : (z.length == 0) = true
  · rw [if_pos (by rw [h]; rfl), if_pos h]
  · rw [if_neg (by simpa using h), if_neg h]
    show (⟨(#[] ++ z.cps) ++ z.cps⟩ : Str) = ⟨z.cps ++ z.cps⟩
    simp
theorem As.two {B : Nat} {z : Str} (h : As B z) : As (B + B) (Txt.mul z 2) := by
  rw [mul2]
  by_cases e : (z.length == 0) = true
  · rw [if_pos e]
    exact h.mono (by omega)
  · rw [if_neg e]
    exact h.app h
theorem As.size {B : Nat} {z : Str} (h : As B z) (l : B ≤ 1000000) : z.length ≤ sizeLine := Nat.le_trans (Nat.le_trans h.len l) (by decide)
theorem As.short {B : Nat} {z : Str} (h : As B z) : (reprText z).length ≤ 10 * B + 2 := by
  have := StrLaws.reprText_len z (fun c hc => Nat.lt_of_lt_of_le (h.sg c hc) (by decide))
  have := h.len
  omega
theorem As.one {c : Nat} (h : c < 128) : As 1 ⟨#[c]⟩ := ⟨Nat.le_refl _, fun d hd => by
  have : d = c := by simpa using hd
  omega⟩
/-! ### things of a law -/
def Sh (d : PyData) : Prop := ∀ z, d = .str z → As 1000000 z
def ShA (d : PyData) : Prop := ∀ ds, d = .tuple ds → ∀ e ∈ ds, Sh e
structure ThP (B : Nat) (d : PyData) : Prop where
  sm : Sm B d
  sh : Sh d
  sa : ShA d
theorem ThP.mono {B C : Nat} {d : PyData} (h : ThP B d) (l : B ≤ C) : ThP C d := ⟨h.sm.mono l, h.sh, h.sa⟩
theorem Sm.str {B : Nat} {z : Str} (h : As B z) : Sm (10 * B + 2) (.str z) := ⟨rfl, by rw [TP.wt]; exact h.short, by rw [PyData.depth]; decide⟩
theorem ThP.str {B : Nat} {z : Str} (h : As B z) (l : B ≤ 1000000) : ThP (10 * B + 2) (.str z) := ⟨Sm.str h, fun y e => by cases e; exact h.mono l, fun _ e => nomatch e⟩
theorem smallInt {i : Int} (h : i.natAbs < 2 ^ 64) : (PyData.int i).showable = true := by
  show decide (i.natAbs.log2 < 1920) = true
  refine decide_eq_true ?_
  by_cases h0 : i.natAbs = 0
  · rw [h0]
    decide
  · exact Nat.lt_of_lt_of_le ((Nat.log2_lt h0).mpr h) (by decide)
theorem dpStrs {K : PySem.W.Frag} {H : Hp} {α : Type} (g : α → Str) : ∀ l : List α, DpAll K H (l.map fun i => V.str (g i)) (l.map fun i => PyData.str (g i))
  | [] => .nil
  | _ :: l => .cons (.str _) (dpStrs g l)
theorem canStrs {α : Type} (g : α → Str) (hg : ∀ i, PyData.strOk (g i) = true) : ∀ l : List α, PyData.canLayAll0 (l.map fun i => PyData.str (g i)) = true
  | [] => rfl
  | i :: l => by
    show (PyData.canLay0 (.str (g i)) && PyData.canLayAll0 (l.map fun i => PyData.str (g i))) = true
    rw [canStrs g hg l, show PyData.canLay0 (.str (g i)) = true from hg i]
    rfl
theorem depthStrs {α : Type} (g : α → Str) : ∀ l : List α, PyData.depthAll (l.map fun i => PyData.str (g i)) = 0
  | [] => rfl
  | _ :: l => by
    show max 0 (PyData.depthAll _) = 0
    rw [depthStrs g l]
    rfl
theorem shapedStrs {α : Type} (g : α → Str) (hg : ∀ i, PyData.strOk (g i) = true) (l : List α) : SeqAt.shaped (.list (l.map fun i => PyData.str (g i))) = true := by
  unfold SeqAt.shaped
  rw [show PyData.canLay0 (.list (l.map fun i => PyData.str (g i))) = true from canStrs g hg l, show (PyData.list (l.map fun i => PyData.str (g i))).depth = PyData.depthAll (l.map fun i => PyData.str (g i)) + 1 from rfl, depthStrs]
  decide
theorem eqv_nil (l : List PyData) : PyData.eqv (.list l) (.list []) = l.isEmpty := by
  cases l <;> rfl
/-! ### comprehensions whose elements leave what was told -/
theorem range_filter_succ (p : Nat → Bool) (i : Nat) : (List.range (i + 1)).filter p = (List.range i).filter p ++ (if p i = true then [i] else []) := by
  rw [List.range_succ, List.filter_append]
  congr 1
  by_cases h : p i = true
  · rw [if_pos h]; simp [h]
  · rw [if_neg h]; simp [h]
theorem lc_fm {J : It} {n : Nat} {G : Hp → Prop} {Y : Nat → Hp → V → Hp → Prop} (w : Walk J n G Y) {g : TG} {tt : TT} {te : TE} {vs : List Nat} {σ : L2.St} {H1 : Hp} {D : Addr} {Qd : Hp → Prop} (p : Nat → Bool) (F : Nat → V)
    (hD : H1 D = none) (hn : n < 1000000) (hG : ∀ H, Evl.Ex H1 H → G H)
    (hs : ∀ (i : Nat) (x : V) (H H' : Hp) (C : V → Hp → Prop) (N : Hp → Prop), i < n → Evl.Ex H1 H → Y i H x H' → (p i = true → ∀ H4, Evl.Ex H H4 → C (F i) H4) → (p i = false → ∀ H3, Evl.Ex H H3 → N H3) →
      g x (wipe σ vs) H' fun σ2 H2 => wipe σ2 vs = wipe σ vs ∧ tt σ2 H2 fun b H3 => if b = true then te σ2 H3 C else N H3)
    (hd : ∀ H', Evl.Ex H1 H' → H' D = some (.lst (((List.range n).filter p).map F)) → Qd H') :
    ∃ W : Nat → Nat → Hp → Prop, (∃ m, W 0 m (upd H1 D (.lst []))) ∧ ∀ i m H, W i m H →
      (J.stop i H ∧ Qd H) ∨ (J.go i H ∧ ∃ Nx : Hp → Prop, (∀ H', Nx H' → ∃ m', m' < m ∧ W (i + 1) m' H') ∧ ∀ x H', J.yld i H x H' → g x (wipe σ vs) H' fun σ2 H2 => wipe σ2 vs = wipe σ vs ∧ tt σ2 H2 fun b H3 =>
        if b = true then te σ2 H3 fun y H4 => ∃ acc, H4 D = some (.lst acc) ∧ acc.length < sizeLine ∧ Nx (upd H4 D (.lst (acc ++ [y]))) else Nx H3) := by
  refine lc_it w (fun i H => Evl.Ex H1 H ∧ H D = some (.lst (((List.range i).filter p).map F))) ⟨Evl.Ex.new hD, upd_same⟩ (fun i H _ q => hG H q.1) (fun i x H H' hi q y => ?_) (fun H q => hd H q.1 q.2)
  refine hs i x H H' _ _ hi q.1 y (fun hp H4 e => ⟨_, e _ _ q.2, ?_, fun b o hb => ?_, ?_⟩) (fun hp H3 e => ⟨q.1.trans e, ?_⟩)
  · have h1 : (((List.range i).filter p).map F).length ≤ i := by
      rw [List.length_map]
      exact Nat.le_trans (List.length_filter_le _ _) (by rw [List.length_range]; exact Nat.le_refl _)
    have : sizeLine = 16777216 := sizeLine_eq
    omega
  · rw [upd_ne (ne_of_none hb hD)]
    exact e _ _ (q.1 _ _ hb)
  · rw [upd_same, range_filter_succ, if_pos hp, List.map_append]
    rfl
  · rw [e _ _ q.2, range_filter_succ, if_neg (by rw [hp]; exact Bool.false_ne_true), List.append_nil]
theorem range_map_get {α β : Type} (f : α → β) (d : α) : ∀ l : List α, (List.range l.length).map (fun i => f (l.getD i d)) = l.map f := fun l => by
  refine List.ext_getElem (by simp) fun i h1 h2 => ?_
  simp at h1
  simp [h1]
theorem none_amiss (l : List Nat) (f : Nat → Bool) : (((List.range l.length).filter fun i => !f (l.getD i 0)).isEmpty) = l.all f := by
  have e : l.all f = ((List.range l.length).map fun i => f (l.getD i 0)).all id := by rw [range_map_get, List.all_map]; rfl
  rw [e, List.all_map]
  cases h : ((List.range l.length).filter fun i => !f (l.getD i 0)) with
  | nil =>
    have h2 := List.filter_eq_nil_iff.mp h
    refine (List.all_eq_true.mpr fun i hi => ?_).symm
    have := h2 i hi
    simpa using this
  | cons j r =>
    have hj : j ∈ (List.range l.length).filter fun i => !f (l.getD i 0) := by rw [h]; exact List.mem_cons_self
    obtain ⟨h1, h2⟩ := List.mem_filter.mp hj
    symm
    refine Bool.eq_false_iff.mpr fun q => ?_
    have := List.all_eq_true.mp q j h1
    simp at h2 this
    rw [this] at h2
    cases h2
theorem cut_mem {xs : List V} {lo hi : Option Int} {x : V} (h : x ∈ cutV xs lo hi) : x ∈ xs := by
  unfold cutV at h
  exact List.mem_of_mem_drop (List.mem_of_mem_take h)
theorem cells_int {ns : List Int} {lo hi : Option Int} {i : Nat} {x : V} (h : (cutV (ns.map V.int) lo hi ++ [.int 0, .int 1])[i]? = some x) : ∃ z, x = .int z := by
  rcases List.mem_append.mp (List.mem_of_getElem? h) with q | q
  · obtain ⟨z, _, rfl⟩ := List.mem_map.mp (cut_mem q)
    exact ⟨z, rfl⟩
  · simp only [List.mem_cons, List.not_mem_nil, or_false] at q
    rcases q with rfl | rfl
    · exact ⟨0, rfl⟩
    · exact ⟨1, rfl⟩
theorem cells_len {ns : List Int} {lo hi : Option Int} (h : ns.length ≤ 63) : (cutV (ns.map V.int) lo hi).length + [V.int 0, V.int 1].length ≤ sizeLine := by
  have h1 := cutV_length (ns.map V.int) lo hi
  rw [List.length_map] at h1
  have : sizeLine = 16777216 := sizeLine_eq
  show _ + 2 ≤ _
  omega
theorem ThP.tup2 {B C : Nat} {a b : PyData} (ha : ThP B a) (hb : ThP C b) (l1 : a.depth ≤ 10) (l2 : b.depth ≤ 10) : ThP (B + C + 7) (.tuple [a, b]) := by
  refine ⟨⟨?_, ?_, ?_⟩, fun _ e => (nomatch e), fun ds e d hd => ?_⟩
  · show (a.showable && (b.showable && true)) = true
    rw [ha.sm.sh, hb.sm.sh]
    rfl
  · have h1 := ha.sm.wt
    have h2 := hb.sm.wt
    simp only [wt, wtAll]
    omega
  · simp only [PyData.depth, PyData.depthAll]
    omega
  · cases e
    simp only [List.mem_cons, List.not_mem_nil, or_false] at hd
    rcases hd with rfl | rfl
    · exact ha.sh
    · exact hb.sh
theorem filter_yes (n : Nat) : (List.range n).filter (fun _ => true) = List.range n := List.filter_eq_self.mpr fun _ _ => rfl
theorem yes_ok {σ : L2.St} {H : Hp} {te : TE} {C : V → Hp → Prop} {N : Hp → Prop} (h : te σ H C) : tYes σ H fun b H3 => if b = true then te σ H3 C else N H3 := by
  show if true = true then te σ H C else N H
  rw [if_pos rfl]
  exact h
theorem iteYes {A B : Prop} (h : A) : if true = true then A else B := by rw [if_pos rfl]; exact h
end TP

namespace TP
open PySem PySem.Spec PyProof.Rows L2

/-! ### zip of a dict's keys and a list -/
section
variable {prog : Program} {w : World} {A : Around} {E : Value → Shared → Prop} {s : Shared}
theorem nextOf_key {it d : Addr} {i ep : Nat} {es : Array DictEntry} {Q : Value → Shared → Prop} (hit : s.heap.IsKeyIter it d i es.size ep) (hm : s.heap.DictRaw d es ep) (hlt : i < es.size)
    (hQ : ∀ h', h'.IsKeyIter it d (i + 1) es.size ep → Heap.SameBut it s.heap h' → Q es[i].key { s with heap := h' }) : wpAny (model prog w) A (Builtin.SmallTypes.nextOf (.ref it)) Q E s := by
  obtain ⟨o, ho, hc, hd⟩ := id hit
  obtain ⟨od, hod, hcd, hdd⟩ := id hm
  unfold Builtin.SmallTypes.nextOf
  refine wpAny_bind (wpAny_callSpecial?_slot (name := Str.ofString "__next__") hit.typeIs F.slot_dict_keyiterator_next
    (wpAny_call_entry F.slot_dict_keyiterator_next hit.typeIs F.entry_dict_keyiterator_next ?_ (F.args_dict_keyiterator_next_1 _)))
  refine wpAny_bind (wpAny_pure ?_)
  refine wpAny_bind (wpAny_bind ?_)
  first
    | refine wpAny_bind (wpAny_typeNameOfWhole_keyiter hit.typeIs (wpAny_pure ?_))
    | refine wpAny_bind (wpAny_typeNameOf_keyiter hit.typeIs (wpAny_pure ?_))
  refine wpAny_bind (wpAny_fieldsOf ho hd ?_)
  simp only [show Builtin.Dict_items.ownsTuple "dict_keyiterator" = false by decide, Bool.false_eq_true, if_false]
  show wpAny _ _ (if (Value.ref d == Value.none) = true then _ else _) _ _ s
  rw [if_neg (show ¬ ((Value.ref d == Value.none) = true) from Bool.false_ne_true)]
  refine wpAny_bind (wpAny_pure (wpAny_bind (wpAny_dictEntries hod hdd ?_)))
  rw [if_neg (by simp)]
  refine wpAny_bind (wpAny_pure (wpAny_bind (wpAny_dictEpoch hod hdd ?_)))
  rw [if_neg (by simp)]
  refine wpAny_pure ?_
  simp only [show ¬ ((i : Int) < 0) from by omega, if_false, Int.toNat_natCast, Array.getElem?_eq_getElem hlt]
  refine wpAny_bind ?_
  first
    | refine wpAny_bind (wpAny_typeNameOfWhole_keyiter hit.typeIs (wpAny_pure ?_))
    | refine wpAny_bind (wpAny_typeNameOf_keyiter hit.typeIs (wpAny_pure ?_))
  refine wpAny_bind (wpAny_isOneOf_keyiter hit.typeIs ?_)
  show wpAny _ _ (setField (.ref it) 1 (rawInt ((i : Int) + 1)) >>= _) _ _ s
  refine wpAny_bind (wpAny_setField ho hd (by simp) ?_)
  have hit2 : (s.heap.update it (Obj.mapFields (·.setIfInBounds 1 (rawInt ((i : Int) + 1))))).IsKeyIter it d (i + 1) es.size ep :=
    ⟨_, Heap.get?_update_self _ ho (Obj.isFreed_of_fields (Obj.data_mapFields hd _)), (Obj.cls_mapFields ..).trans hc, by rw [Obj.data_mapFields hd]; simp [rawInt]⟩
  refine wpAny_bind (wpAny_holding (wpAny_bind (wpAny_isOneOf_keyiter (s := { s with heap := s.heap.update it (Obj.mapFields (·.setIfInBounds 1 (rawInt ((i : Int) + 1)))) }) hit2.typeIs ?_)))
  show wpAny _ _ (pure es[i].key) _ _ _
  exact wpAny_pure (wpAny_pure ⟨_, rfl, wpAny_pure (hQ _ hit2 (Heap.SameBut.update ..))⟩)
theorem nextOf_keyEnd {it d : Addr} {i ep : Nat} {es : Array DictEntry} {Q : Value → Shared → Prop} (hh : A.handled = none) (hit : s.heap.IsKeyIter it d i es.size ep) (hm : s.heap.DictRaw d es ep) (hge : es.size ≤ i)
    (hE : ∀ h' e, Heap.ExtBut it s.heap h' → (∃ o, h'.get? e = some o ∧ o.cls = .type "StopIteration") → E (.ref e) { s with heap := h' }) : wpAny (model prog w) A (Builtin.SmallTypes.nextOf (.ref it)) Q E s := by
  obtain ⟨o, ho, hc, hd⟩ := id hit
  obtain ⟨od, hod, hcd, hdd⟩ := id hm
  unfold Builtin.SmallTypes.nextOf
  refine wpAny_bind (wpAny_callSpecial?_slot (name := Str.ofString "__next__") hit.typeIs F.slot_dict_keyiterator_next
    (wpAny_call_entry F.slot_dict_keyiterator_next hit.typeIs F.entry_dict_keyiterator_next ?_ (F.args_dict_keyiterator_next_1 _)))
  refine wpAny_bind (wpAny_pure ?_)
  refine wpAny_bind (wpAny_bind ?_)
  first
    | refine wpAny_bind (wpAny_typeNameOfWhole_keyiter hit.typeIs (wpAny_pure ?_))
    | refine wpAny_bind (wpAny_typeNameOf_keyiter hit.typeIs (wpAny_pure ?_))
  refine wpAny_bind (wpAny_fieldsOf ho hd ?_)
  simp only [show Builtin.Dict_items.ownsTuple "dict_keyiterator" = false by decide, Bool.false_eq_true, if_false]
  show wpAny _ _ (if (Value.ref d == Value.none) = true then _ else _) _ _ s
  rw [if_neg (show ¬ ((Value.ref d == Value.none) = true) from Bool.false_ne_true)]
  refine wpAny_bind (wpAny_pure (wpAny_bind (wpAny_dictEntries hod hdd ?_)))
  rw [if_neg (by simp)]
  refine wpAny_bind (wpAny_pure (wpAny_bind (wpAny_dictEpoch hod hdd ?_)))
  rw [if_neg (by simp)]
  refine wpAny_pure ?_
  simp only [show ¬ ((i : Int) < 0) from by omega, if_false, Int.toNat_natCast, Array.getElem?_eq_none hge]
  refine wpAny_bind ?_
  first
    | refine wpAny_bind (wpAny_typeNameOfWhole_keyiter hit.typeIs (wpAny_pure ?_))
    | refine wpAny_bind (wpAny_typeNameOf_keyiter hit.typeIs (wpAny_pure ?_))
  show wpAny _ _ (setField (.ref it) 0 .none >>= _) _ _ s
  refine wpAny_bind (wpAny_setField ho hd (by simp) ?_)
  show wpAny _ _ (newExc (.type "StopIteration") [] >>= _) _ _ _
  refine wpAny_bind ?_
  simp only [newExc, newTuple]
  refine wpAny_bind (wpAny_newObj_type ?_ (by size_fits))
  refine wpAny_bind (m := firstArgMember _ _) (wpAny_of_eq (a := Value.none) (by first | rfl | (simp only [firstArgMember]; rfl)) ?_)
  refine wpAny_newObj_type ?_ (by size_fits)
  simp only [raiseNew]
  refine wpAny_bind (wpAny_handled ?_)
  rw [show A.in1.handled = none from hh]
  refine wpAny_bind (wpAny_pure (wpAny_throw ?_))
  exact hE _ _ (((Heap.SameBut.update ..).extBut.push _).push _) ⟨_, Heap.get?_push_size _ rfl, rfl⟩
end
theorem drawsKeys {prog : Program} {w : World} {A : Around} (hh : A.handled = none) (it d : Addr) (hne : d ≠ it) (es : Array DictEntry) (ep : Nat) :
    Draws prog w A it [it, d] es.size (fun i v => (es[i]?).map (fun e => e.key) = some v) (fun i h => h.IsKeyIter it d i es.size ep ∧ h.DictRaw d es ep) where
  live := fun i h st => by
    obtain ⟨⟨o, ho, _⟩, _⟩ := st
    exact ⟨o, ho⟩
  frame := fun i h h' st k => by
    obtain ⟨⟨o, ho, r⟩, y⟩ := st
    exact ⟨⟨o, k it (by simp) o ho, r⟩, y.at fun o q => k d (by simp) o q⟩
  item := fun i s Q E hi st hQ => nextOf_key st.1 st.2 hi fun h' z sb => hQ _ h' s.toks (by simp [hi]) ⟨z, st.2.at fun o q => (sb.2 _ hne).trans q⟩ sb
  done := fun s Q E st hE => nextOf_keyEnd hh st.1 st.2 (Nat.le_refl _) hE
theorem begins_dict (d : Addr) (es : Array DictEntry) (ep : Nat) (lo : (d == sysModules) = false) :
    Begins (.ref d) { cls := .type "dict_keyiterator", data := .fields #[.ref d, .int 0 0, .int es.size 0, .int ep 0] } fun h => h.DictRaw d es ep where
  iter := fun prog w A E s Q hl h => wpAny_pyIter_dict_raw lo hl h
  keeps := fun h h' x hk => x.at fun o e => hk d o e
  free := rfl

/-! ### a written table walked along with a list -/
/-- the table's keys ks, in order, in the written part -/
structure KKeys (K : PySem.W.Frag) (d : Addr) (es : Array DictEntry) (ep : Nat) (ks : List Str) : Prop where
  at_ : K.lookup d = some ⟨.type "dict", none, .dict es ep, #[]⟩
  low : (d == sysModules) = false
  size : es.size = ks.length
  key : ∀ (i : Nat) (u : Value), (es[i]?).map (fun e => e.key) = some u → ∃ (z : Str) (t : Tok), ks[i]? = some z ∧ u = Value.str z t
theorem kkeys_of {K : PySem.W.Frag} {w : World} {d : Addr} {es : Array DictEntry} {n : Nat} {ks : List Str} (D : KDict K w d es n) (e : es.toList.map He.keyOf = He.keysIn w.params ks) : KKeys K d es n ks := by
  refine ⟨D.at_, D.low, ?_, fun i u h => ?_⟩
  · have h := congrArg List.length e
    simp only [He.keysIn, List.length_map, Array.length_toList] at h
    exact h
  · have h2 : (es.toList.map He.keyOf)[i]? = (He.keysIn w.params ks)[i]? := by rw [e]
    unfold He.keysIn at h2
    rw [List.getElem?_map, List.getElem?_map, Array.getElem?_toList] at h2
    cases q : es[i]? with
    | none =>
      rw [q] at h
      cases h
    | some x =>
      rw [q] at h h2
      cases r : ks[i]? with
      | none =>
        rw [r] at h2
        cases h2
      | some z =>
        rw [r] at h2
        have h3 : He.keyOf x = some (z, PyData.keyHash w.params z) := Option.some.inj h2
        unfold He.keyOf at h3
        split at h3
        · rename_i y t hy
          have h4 := Option.some.inj h3
          injection h4 with h5 h6
          have h7 : x.key = u := Option.some.inj h
          exact ⟨z, t, rfl, by rw [← h7, hy, h5]⟩
        · cases h3
def Itkz (K : PySem.W.Frag) (ks : List Str) (b : Addr) : It :=
  ⟨fun i H => i < ks.length ∧ ∃ (ys : List V) (y : V), SqL K H b ys ∧ ys[i]? = some y,
    fun i H v H' => ∃ T z y, v = .ref T ∧ H T = none ∧ H' = upd H T (.tup [.str z, y]) ∧ ks[i]? = some z ∧ ∀ ys, SqL K H b ys → ys[i]? = some y,
    fun i H => ∃ ys : List V, SqL K H b ys ∧ i = ks.length ∧ i = ys.length⟩
theorem walk_kz {K : PySem.W.Frag} {ks : List Str} {b : Addr} {ys : List V} (hn : ks.length = ys.length) : Walk (Itkz K ks b) ks.length (fun H => SqL K H b ys) (YPair (fun i => (ks[i]?).map V.str) (fun i => ys[i]?)) := by
  refine ⟨fun i H hi q => ⟨hi, ys, ys[i]'(by omega), q, by simp [show i < ys.length by omega]⟩, fun H q => ⟨ys, q, rfl, hn⟩, fun i H v H' hi q y => ?_⟩
  obtain ⟨T, z, y, h1, h2, h3, h4, h5⟩ := y
  exact ⟨T, .str z, y, h1, h2, h3, by simp [h4], h5 ys q⟩
theorem ne_of_ne {a b : Nat} (h : a ≠ b) : (show Addr from a) ≠ (show Addr from b) := h
theorem nin2 {a b c : Nat} (h1 : a ≠ b) (h2 : a ≠ c) : (show Addr from a) ∉ [(show Addr from b), (show Addr from c)] := by
  intro h
  rcases List.mem_cons.mp h with q | q
  · exact h1 q
  · rcases List.mem_cons.mp q with q | q
    · exact h2 q
    · cases q
theorem sep_of (n d b : Nat) (hd : d < n) (hb : b < n) : ZipSep2 (n + 4) (n + 2) (n + 3) n (n + 1) [n, d] [n + 1, b] where
  TIz := ne_of_ne (by omega)
  TOz := ne_of_ne (by omega)
  TITO := ne_of_ne (by omega)
  TIi1 := ne_of_ne (by omega)
  mem1 := .head _
  zf1 := nin2 (by omega) (by omega)
  Tf1 := nin2 (by omega) (by omega)
  TIi2 := ne_of_ne (by omega)
  mem2 := .head _
  zf2 := nin2 (by omega) (by omega)
  Tf2 := nin2 (by omega) (by omega)
  sep1_2 := nin2 (by omega) (by omega)
  sep2_1 := nin2 (by omega) (by omega)
theorem turn_kz {P : Program} {w : World} {K : PySem.W.Frag} {elts : List Expr} {kk : Nat} {tpos : Pos} {d b z TI TO i1 i2 : Addr} {es : Array DictEntry} {ep : Nat} {ks : List Str} (D : KKeys K d es ep ks)
    (S : ZipSep2 z TI TO i1 i2 [i1, d] [i2, b]) (n1 : i1 ≠ d) (n2 : i2 ≠ b) :
    Turn P w K (.Tuple elts kk tpos) (Itkz K ks b) [z, TI, TO, i1, i2] z (fun i h => IsZip h z TI TO .none ∧ IsTupOf2 h TI (.ref i1) (.ref i2) ∧ (∃ x y, IsTupOf2 h TO x y) ∧ h.IsKeyIter i1 d i es.size ep ∧ h.IsListIter i2 b i) where
  mem := by simp
  obj := fun i h st c hc => by
    obtain ⟨hz, hTI, ⟨x, y, hTO⟩, ⟨o1, e1, _, d1⟩, ⟨o2, e2, _, d2⟩⟩ := st
    have e' : c = z ∨ c = TI ∨ c = TO ∨ c = i1 ∨ c = i2 := by simpa using hc
    rcases e' with q | q | q | q | q
    · rw [q]; exact ⟨_, hz, fun v q => nomatch q⟩
    · rw [q]; exact ⟨_, hTI, fun v q => nomatch q⟩
    · rw [q]; exact ⟨_, hTO, fun v q => nomatch q⟩
    · rw [q]; exact ⟨o1, e1, fun v q => by rw [d1] at q; cases q⟩
    · rw [q]; exact ⟨o2, e2, fun v q => by rw [d2] at q; cases q⟩
  keep := fun i h h' st k => by
    obtain ⟨hz, hTI, ⟨x, y, hTO⟩, ⟨o1, e1, r1⟩, h2⟩ := st
    exact ⟨k z (by simp) _ hz, k TI (by simp) _ hTI, ⟨x, y, k TO (by simp) _ hTO⟩, ⟨o1, k i1 (by simp) o1 e1, r1⟩, h2.at fun o q => k i2 (by simp) o q⟩
  item := by
    intro X hP hw hK hc i pins s σ H E I hf st hg
    subst hP hw hK
    obtain ⟨hz, hTI, ⟨x0, y0, hTO⟩, h1, h2⟩ := st
    obtain ⟨hi, ys, y, hqy, hy⟩ := hg
    obtain ⟨its2, rv2, p2, _⟩ := I.list hqy
    have hzl : z < s.heap.objs.size := Heap.lt_size hz
    have raw : s.heap.DictRaw d es ep := ⟨_, I.kIn _ _ D.at_, ⟨rfl, rfl, rfl⟩, rfl⟩
    have hl2 : i < its2.toArray.size := by
      have h := (List.getElem?_eq_some_iff.mp hy).1
      have := rv2.length
      simp
      omega
    refine wpAny_pyNext_zipD2_item S (drawsKeys (A := X.A.in1) (I.ok.hd hc) i1 d n1.symm es ep) (Draws.list (A := X.A.in1) (I.ok.hd hc) i2 b n2.symm its2.toArray) hz hTI hTO ⟨h1, raw⟩ ⟨h2, p2.isList⟩ (by rw [D.size]; exact hi) hl2 fun x1 x2 h' tk y1 y2 z' TO' h1' h2' hT hsz hk => ?_
    obtain ⟨kz, kt, hkz, rfl⟩ := D.key i x1 y1
    obtain ⟨u2, hu2, ru2⟩ := rv2.get hy
    have ex2 : x2 = u2 := by
      have q : its2.toArray[i]? = some u2 := by simpa using hu2
      rw [q] at y2
      exact (Option.some.inj y2).symm
    subst ex2
    refine ⟨_, rfl, wpAny_letOwnedTupleGo_zip (s := { s with heap := h', toks := tk }) z' fun h'' z'' sb => ?_⟩
    have hT2 : h''.get? s.heap.objs.size = some { cls := .type "tuple", data := .seq #[.str kz kt, x2] } := (sb.2 _ (Nat.ne_of_gt hzl)).trans hT
    have new : ObjOk X.prog X.w (upd H s.heap.objs.size (.tup [.str kz, y])) h'' s.heap.objs.size (.tup [.str kz, y]) :=
      ⟨by show 2 ≤ sizeLine; decide, [.str kz kt, x2], .cons ⟨kt, rfl⟩ (.cons ru2 .nil), ⟨_, hT2, rfl, _, rfl⟩⟩
    have I1 : Inv X pins σ (upd H s.heap.objs.size (.tup [.str kz, y])) { s with heap := h'', toks := tk } :=
      I.turnedNew (t' := tk) (ch := [z, TI, TO, i1, i2]) (fun c o hb q => (sb.2 c (fun q' => hb (by simp [q']))).trans (hk c o (fun q' => hb (by simp [q'])) (fun q' => hb (by simp [q'])) (fun q' => hb (by simp [q'])) (fun q' => hb (by simp [q'])) q)) hf (Nat.le_refl _) new
    refine ⟨.ref s.heap.objs.size, _, I1, rfl, ⟨_, kz, y, rfl, I.hok.fresh (Nat.le_refl _), rfl, hkz, fun l hl => by rw [I.list_inj hl hqy]; exact hy⟩, ⟨z'', ?_, ⟨.str kz kt, x2, ?_⟩, ?_, ?_⟩, fun c hcm => ?_⟩
    · exact (sb.2 _ S.TIz).trans (hk _ _ S.TIz S.TITO S.TIi1 S.TIi2 hTI)
    · exact (sb.2 _ S.TOz).trans TO'
    · obtain ⟨⟨o1, e1, r1⟩, _⟩ := h1'
      exact ⟨o1, (sb.2 _ (Ne.symm S.zi1)).trans e1, r1⟩
    · exact h2'.1.at fun o q => (sb.2 _ (Ne.symm S.zi2)).trans q
    · have hlt : c < s.heap.objs.size := by
        have e' : c = z ∨ c = TI ∨ c = TO ∨ c = i1 ∨ c = i2 := by simpa using hcm
        rcases e' with q | q | q | q | q
        · rw [q]; exact hzl
        · rw [q]; exact Heap.lt_size hTI
        · rw [q]; exact Heap.lt_size hTO
        · rw [q]; obtain ⟨_, e1, _⟩ := h1; exact Heap.lt_size e1
        · rw [q]; obtain ⟨_, e2, _⟩ := h2; exact Heap.lt_size e2
      rw [upd_ne (Nat.ne_of_lt hlt)]
      exact (hf c hcm).1
  done := by
    intro X hP hw hK hc i pins s σ H E I hf st hg
    subst hP hw hK
    obtain ⟨hz, hTI, ⟨x0, y0, hTO⟩, h1, h2⟩ := st
    obtain ⟨ys, hqy, he1, he2⟩ := hg
    obtain ⟨its2, rv2, p2, _⟩ := I.list hqy
    have raw : s.heap.DictRaw d es ep := ⟨_, I.kIn _ _ D.at_, ⟨rfl, rfl, rfl⟩, rfl⟩
    have hl2 : i = its2.toArray.size := by
      have := rv2.length
      simp
      omega
    refine wpAny_pyNext_zipD2_end S (drawsKeys (A := X.A.in1) (I.ok.hd hc) i1 d n1.symm es ep) (Draws.list (A := X.A.in1) (I.ok.hd hc) i2 b n2.symm its2.toArray) hz hTI hTO ⟨h1, raw⟩ ⟨h2, p2.isList⟩ (by rw [D.size]; omega) (by omega) (.inr hl2) fun h' tk hk => ⟨rfl, ?_⟩
    exact I.turnedL (t' := tk) (ch := [z, TI, TO, i1, i2]) (fun c o hb q => hk c o (fun q' => hb (by simp [q'])) (fun q' => hb (by simp [q'])) (fun q' => hb (by simp [q'])) (fun q' => hb (by simp [q'])) q) hf
  self := fun A i s Q E st h => wpAny_pyIter_zip st.1 h
def iKz (K : PySem.W.Frag) (d : Addr) (ks : List Str) (ta : TA) : TI := fun σ H R => ta σ H fun vs H1 => ∃ b ys, vs = [.ref d, .ref b] ∧ SqL K H1 b ys ∧ R (Itkz K ks b) H1
theorem pi_kz {X : Cx} {e e2 : Expr} {ta : TA} {p pos tpos : Pos} {elts : List Expr} {kk : Nat} {d : Addr} {es : Array DictEntry} {ep : Nat} {ks : List Str} (D : KKeys X.K d es ep ks) (hg : Gl X "zip") (hm : X.mg "zip" = none) (ha : PA X [e, e2] ta)
    (hs : starEach [e, e2] X.env = (false, eval e X.env) :: starEach [e2] X.env := by rfl) (hpl : (backTo pos (starEach [e2] X.env)).any (·.1) = false := by rfl) :
    PI X (.Tuple elts kk tpos) (.Call (.Name "zip" p) [e, e2] [] pos) (iKz X.K d ks ta) := by
  refine ⟨fun pins s σ H R I h => ?_⟩
  refine Call_ (ld_blt I hg hm PyProof.Rows.boot_zip (PyProof.Rows.callWith_type1 (thn (ha.run pos pins s σ H _ I h) fun us s1 ⟨vs, H1, I1, r1, q1⟩ => ?_) hs hpl))
  obtain ⟨b, ys, ex, hqy, q⟩ := q1
  subst ex
  cases r1 with
  | cons r rr =>
    cases rr with
    | cons r' rr =>
      cases rr
      cases r
      cases r'
      obtain ⟨its2, rv2, p2, _⟩ := I1.list hqy
      have od := I1.kIn _ _ D.at_
      have la : d < s1.heap.objs.size := Heap.lt_size od
      have lb : b < s1.heap.objs.size := p2.lt
      refine zip_begins2 (begins_dict d es ep D.low) (begins_list b its2.toArray) ⟨_, od, ⟨rfl, rfl, rfl⟩, rfl⟩ p2.isList fun h' hz hTI hTO h1 h2 hsz hk => wpAny_pyIter_zip hz ?_
      have I2 : Inv X pins σ H1 { s1 with heap := h' } := I1.kept (t' := s1.toks) hk
      refine ⟨s1.heap.objs.size + 4, [s1.heap.objs.size + 4, s1.heap.objs.size + 2, s1.heap.objs.size + 3, s1.heap.objs.size, s1.heap.objs.size + 1], _, _, H1, rfl, I2,
        turn_kz D (sep_of s1.heap.objs.size d b la lb) (Nat.ne_of_gt la) (Nat.ne_of_gt (Nat.lt_succ_of_lt lb)), ⟨hz, hTI, ⟨_, _, hTO⟩, ⟨_, h1, rfl, rfl⟩, ⟨_, h2, rfl, rfl⟩⟩, fun c hcm => ?_, q⟩
      have e' : c = s1.heap.objs.size + 4 ∨ c = s1.heap.objs.size + 2 ∨ c = s1.heap.objs.size + 3 ∨ c = s1.heap.objs.size ∨ c = s1.heap.objs.size + 1 := by simpa using hcm
      have hle : s1.heap.objs.size ≤ c := by
        rcases e' with q | q | q | q | q <;> rw [q]
        · exact Nat.le_add_right _ _
        · exact Nat.le_add_right _ _
        · exact Nat.le_add_right _ _
        · exact Nat.le_refl _
        · exact Nat.le_add_right _ _
      exact I1.fpOk hle (I1.hok.fresh hle)

/-! ### o.f as a target -/
def gAttr (K : PySem.W.Frag) (to : TE) (f : Str) : TG := fun v σ H Q => to σ H fun x H1 => ∃ a C dx fs, x = .ref a ∧ H1 a = some (.ins C dx fs) ∧ Cls K C ∧ NoAttr K C f ∧ fs.length < 1000 ∧ Q σ (upd H1 a (.ins C dx (putF f v fs)))
theorem pg_attr {X : Cx} {o : Expr} {f : Str} {pos : Pos} {to : TE} (ho : PE X o to) : PG X (.Attribute o f pos) (gAttr X.K to f) := by
  refine ⟨fun pins s σ H v u Q I r h => ?_⟩
  show wpAny _ _ (do
    let ov ← holding [u] (eval o X.env)
    standAt pos.atName
    holding [u, ov] (setAttr ov f u)
    release [u, ov] []) _ _ _
  refine wpAny_bind (wpAny_holding (thn (ho.run pins s σ H _ I h) fun ov s1 ⟨x, H1, I1, r1, a, C, dx, fs, ex, ea, c, n, l, q⟩ => ?_))
  subst ex
  obtain rfl : ov = Value.ref a := r1
  refine wpAny_bind (wpAny_standAt (wpAny_bind (wpAny_holding ?_)))
  exact setattr_ok I1 ea c n l r fun s2 I2 => wpAny_release ⟨σ, _, I2, q⟩

/-! ### o.m(k = v, ..): keyword-only parameters -/
def tMethK (C : Addr) (m : Str) (j : Nat) (sp : Sp) (gV : List V → List V → List V) (E : XK) (ta : TE) (tk : TA) : TE := fun σ H Q => ta σ H fun x H1 => ∃ a dx fs, x = .ref a ∧ H1 a = some (.ins C dx fs) ∧ fs.lookup m = none ∧
  tk σ H1 fun zs H2 => zs.length = j ∧ sp (gV [x] zs) H2 Q E
theorem pe_methK {X : Cx} {CX : CXT} {k : Nat} {f C : Addr} {fd : FuncData} {ps ks : List Str} {sp : Sp} {E : XK} {m : Str} {pos apos : Pos} {o : Expr} {kws : List Keyword} {ta : TE} {tk : TA} {g : List Value → List Value → List Value} {gV : List V → List V → List V} {pl : Sem Bool}
    (he : PE X o ta) (c : Cls X.K C) (hm : Meth X.K C m f) (F : FnOk X.prog X.w X.K X.mg X.base CX k f fd ps sp) (hr : Room k X.A) (hb : KBn X.K fd ps 1 ks g gV) (hx : Passes CX X E) (hkw : PK X kws tk)
    (hall : (backToKw pos (keywordEach kws X.env)).all (·.1.isSome) = true := by rfl) (hks : (backToKw pos (keywordEach kws X.env)).filterMap (·.1) = ks := by rfl)
    (hpl : ((backTo pos (starEach [] X.env)).any (·.1) || (backToKw pos (keywordEach kws X.env)).any (·.1.isNone)) = false := by rfl)
    (ht : eval (.Call (.Attribute o m apos) [] kws pos) X.env = (do
      let ov ← eval o X.env
      standAt apos.atName
      let (f, first) ← holding [ov] (getMethod ov m pl)
      callWith pos f first (backTo pos (starEach [] X.env)) (backToKw pos (keywordEach kws X.env))) := by rfl) :
    PE X (.Call (.Attribute o m apos) [] kws pos) (tMethK C m ks.length sp gV E ta tk) := by
  refine ⟨fun pins s σ H Q I h => PySem.W.methodCall_KW (pl := pl) (thn (he.run pins s σ H _ I h) fun u s1 ⟨x, H1, I1, rx, a, dx, fs, ex, ea, l, q⟩ => ?_) ht⟩
  subst ex
  obtain rfl : u = Value.ref a := rx
  refine getmeth_ok I1 ea c hm l ?_
  refine PySem.W.callWith_KW0 (h₀ := X.base) (first := [.ref a]) I.ok.mod.kin hm.kp hall ?_ hpl
  refine thn (hkw.run pos pins s1 σ H1 _ I1 q) fun ws s2 ⟨zs, H2, I2, rz, l2, q2⟩ => ⟨I2.kIn, ?_⟩
  rw [hks]
  exact run_fnN (us := [.ref a]) (vs := [.ref a]) F hr hb hx I2 (.cons rfl .nil) rz rfl l2 q2
end TP

namespace TP
open PySem PySem.Spec PyProof.Rows L2

/-! ### some of a list, by places -/
def pick {α : Type} : List Nat → List α → List α
  | [], _ => []
  | i :: is, l => (match l[i]? with | some x => [x] | none => []) ++ pick is l
theorem pick_vals : ∀ (is : List Nat) {vs : List V} {us : List Value}, Vals vs us → Vals (pick is vs) (pick is us)
  | [], _, _, _ => .nil
  | i :: is, vs, us, r => by
    refine Vals.append ?_ (pick_vals is r)
    cases e : vs[i]? with
    | none =>
      rw [r.none_of e]
      exact .nil
    | some x =>
      obtain ⟨u, hu, ru⟩ := r.get e
      rw [hu]
      exact .cons ru .nil
theorem pick_mem {α : Type} {x : α} : ∀ (is : List Nat) {l : List α}, x ∈ pick is l → x ∈ l
  | [], _, h => nomatch h
  | i :: is, l, h => by
    rcases List.mem_append.mp h with h | h
    · cases e : l[i]? with
      | none =>
        rw [e] at h
        cases h
      | some y =>
        rw [e] at h
        have : x = y := by simpa using h
        rw [this]
        exact List.mem_of_getElem? e
    · exact pick_mem is h

/-! ### a def as it stands, and what it keeps -/
structure GtF (P : Program) (w : World) (K : PySem.W.Frag) (mg : Str → Option Value) (base : Heap) (CX : CXT) (k : Nat) (d : He.DefD) (ps : List Str) (sp : Sp) : Prop where
  ex : ∃ fd, FunD K d.name d.qual d.params d.body d.scope (d.dvs K) (d.kws K) (He.fAd K d.at_) fd ∧ FnOk P w K mg base CX k (He.fAd K d.at_) fd ps sp
/-- keywords ks told, n values by place; js: the places of the keyword-only parameters that lack; is: the order -/
structure Kb (d : He.DefD) (ps : List Str) (n : Nat) (ks : List Str) (js is : List Nat) : Prop where
  df : d.dfl = []
  kn : d.kwd ≠ []
  ch : ∀ (K : PySem.W.Frag) (D : Addr) (doc pm : Value) (an : Option Addr) (cdv ct : Value) (us mv ws : List Value), us.length = n → mv.length = (pick js (d.kws K)).length → ws.length = ks.length →
    KwChain D (((pick js (d.kws K)).map (·.1)).zip mv) (bindArgs (PySem.W.fnOf d.name d.qual d.params d.body d.scope .none (.ref D) doc pm an cdv ct) ⟨us, ks.zip ws⟩) (ps.zip (us ++ pick is (mv ++ ws)))
abbrev gK (d : He.DefD) (js is : List Nat) (K : PySem.W.Frag) : List V → List V → List V := fun vs zs => vs ++ pick is ((pick js (d.kws K)).map (·.2) ++ zs)
structure Kb0 (d : He.DefD) (ps : List Str) (n : Nat) : Prop where
  df : d.dfl = []
  kn : d.kwd ≠ []
  nn : n + d.kwd.length = ps.length
  ch : ∀ (K : PySem.W.Frag) (D : Addr) (doc pm : Value) (an : Option Addr) (cdv ct : Value) (us ks : List Value), us.length = n → ks.length = (d.kws K).length →
      KwChain D (((d.kws K).map (·.1)).zip ks) (bindArgs (PySem.W.fnOf d.name d.qual d.params d.body d.scope .none (.ref D) doc pm an cdv ct) ⟨us, []⟩) (ps.zip (us ++ ks))
section
variable {P : Program} {w : World} {K : PySem.W.Frag} {mg : Str → Option Value} {base : Heap} {CX : CXT} {k : Nat} {d : He.DefD} {ps ks : List Str} {sp : Sp} {n : Nat} {js is : List Nat}
theorem dvs0 (h : d.dfl = []) : d.dvs K = [] := by unfold He.DefD.dvs; rw [h]; rfl
theorem kws0 (h : d.kwd ≠ []) : d.kws K ≠ [] := by
  unfold He.DefD.kws
  intro e
  exact h (List.map_eq_nil_iff.mp e)
theorem GtF.kbn (G : GtF P w K mg base CX k d ps sp) (B : Kb d ps n ks js is) : ∃ fd mv, FnOk P w K mg base CX k (He.fAd K d.at_) fd ps sp ∧ KBn K fd ps n ks (fun us ws => us ++ pick is (mv ++ ws)) (gK d js is K) := by
  obtain ⟨fd, F, ok⟩ := G.ex
  rw [dvs0 B.df] at F
  obtain ⟨mv, h⟩ := F.kbinds0 (ps := ps) n ks (pick js (d.kws K)) (fun {α} us mv ws => us ++ pick is (mv ++ ws)) (kws0 B.kn) (fun q hq => pick_mem js hq) (fun r1 r2 r3 => r1.append (pick_vals is (r2.append r3))) (fun D doc pm an cdv ct us mv ws h1 h2 h3 => B.ch K D doc pm an cdv ct us mv ws h1 h2 h3)
  exact ⟨fd, mv, ok, h⟩
theorem GtF.kb0 (G : GtF P w K mg base CX k d ps sp) (B : Kb0 d ps n) : ∃ fd ds, FnOk P w K mg base CX k (He.fAd K d.at_) fd ps sp ∧ Vals ((d.kws K).map (·.2)) ds ∧ Binds K fd ps ds := by
  obtain ⟨fd, F, ok⟩ := G.ex
  rw [dvs0 B.df] at F
  obtain ⟨ds, h1, h2⟩ := F.binds0 (ps := ps) n (kws0 B.kn) (by have := B.nn; unfold He.DefD.kws; rw [List.length_map]; exact this) (fun D doc pm an cdv ct us ks h1 h2 => B.ch K D doc pm an cdv ct us ks h1 h2)
  exact ⟨fd, ds, ok, h1, h2⟩
theorem GtF.bn (G : GtF P w K mg base CX k d ps sp) (hd : d.dfl = []) (hb : BindN d ps) : ∃ fd, FnOk P w K mg base CX k (He.fAd K d.at_) fd ps sp ∧ Binds K fd ps [] := by
  obtain ⟨fd, F, ok⟩ := G.ex
  rw [dvs0 hd] at F
  exact ⟨fd, ok, F.bindsN hb⟩
theorem GtF.imp {sp' : Sp} (G : GtF P w K mg base CX k d ps sp) (h : ∀ vs H Q E, sp' vs H Q E → sp vs H Q E) : GtF P w K mg base CX k d ps sp' := by
  obtain ⟨fd, F, ok⟩ := G.ex
  exact ⟨fd, F, ok.imp h⟩
theorem gtF_mk {N : List Str} (D : IsDef K d) (S : FnScope N ps d.scope) (len : ∀ vs H Q E, sp vs H Q E → vs.length = ps.length) (B : BodyOk P w K mg base k N d sp) : GtF P w K mg base CX0 (k + 1) d ps sp := by
  obtain ⟨fd, F⟩ := D
  exact ⟨fd, F, fn_ok0 F S len B⟩
theorem gtFX_mk {N : List Str} (D : IsDef K d) (S : FnScope N ps d.scope) (len : ∀ vs H Q E, sp vs H Q E → vs.length = ps.length) (B : BodyOkX P w K mg base k N d sp) : GtF P w K mg base (L2.CX P w) (k + 1) d ps sp := by
  obtain ⟨fd, F⟩ := D
  exact ⟨fd, F, fn_okX F S len B⟩
end
section
variable {X : Cx} {CX : CXT} {k n : Nat} {d : He.DefD} {C : Addr} {ps ks : List Str} {sp : Sp} {E : XK} {x m : Str} {p pos apos : Pos} {o e : Expr} {es : List Expr} {kws : List Keyword} {t tk : TA} {ta : TE} {js is : List Nat}
/-- C(k = v, ..) -/
theorem GtF.makeK0 (G : GtF X.prog X.w X.K X.mg X.base CX k d ps sp) (B : Kb d ps 1 ks js is) (M : Mk X.K C (He.fAd X.K d.at_)) (hm : X.mg x = some (.ref C)) (hr : Room (k + 1) X.A) (hx : Passes CX X E) (hkw : PK X kws tk) (hg : Gl X x := by rfl)
    (hall : (backToKw pos (keywordEach kws X.env)).all (·.1.isSome) = true := by rfl) (hks : (backToKw pos (keywordEach kws X.env)).filterMap (·.1) = ks := by rfl) (hdb : (x == ("__debug__" : Str)) = false := by decide)
    (hpl : ((backTo pos (starEach [] X.env)).any (·.1) || (backToKw pos (keywordEach kws X.env)).any (·.1.isNone)) = false := by rfl) :
    PE X (.Call (.Name x p) [] kws pos) (tMakeK C 0 ks.length sp (gK d js is X.K) E tNil tk) := by
  obtain ⟨fd, mv, F, hb⟩ := G.kbn B
  exact pe_makeK0 M F hr hg hm hb hx hkw hall hks hdb hpl
theorem GtF.makeK (G : GtF X.prog X.w X.K X.mg X.base CX k d ps sp) (B : Kb d ps (n + 1) ks js is) (M : Mk X.K C (He.fAd X.K d.at_)) (hm : X.mg x = some (.ref C)) (hr : Room (k + 1) X.A) (hx : Passes CX X E) (ha : PA X (e :: es) t) (hkw : PK X kws tk) (hg : Gl X x := by rfl)
    (hall : (backToKw pos (keywordEach kws X.env)).all (·.1.isSome) = true := by rfl) (hks : (backToKw pos (keywordEach kws X.env)).filterMap (·.1) = ks := by rfl) (hdb : (x == ("__debug__" : Str)) = false := by decide)
    (he : starEach (e :: es) X.env = (false, eval e X.env) :: starEach es X.env := by rfl) (hpl : ((backTo pos (starEach (e :: es) X.env)).any (·.1) || (backToKw pos (keywordEach kws X.env)).any (·.1.isNone)) = false := by rfl) :
    PE X (.Call (.Name x p) (e :: es) kws pos) (tMakeK C n ks.length sp (gK d js is X.K) E t tk) := by
  obtain ⟨fd, mv, F, hb⟩ := G.kbn B
  exact pe_makeK M F hr hg hm hb hx ha hkw hall hks hdb he hpl
/-- C(), all keyword-only parameters left out -/
theorem GtF.make0 (G : GtF X.prog X.w X.K X.mg X.base CX k d ps sp) (B : Kb0 d ps 1) (M : Mk X.K C (He.fAd X.K d.at_)) (hm : X.mg x = some (.ref C)) (hr : Room (k + 1) X.A) (hx : Passes CX X E) (hg : Gl X x := by rfl)
    (hdb : (x == ("__debug__" : Str)) = false := by decide) : PE X (.Call (.Name x p) [] [] pos) (tMake C sp ((d.kws X.K).map (·.2)) E tNil) := by
  obtain ⟨fd, ds, F, hd, hb⟩ := G.kb0 B
  exact pe_make0 M F hr hg hm hb hd hx hdb
/-- C(e, ..), all keyword-only parameters left out -/
theorem GtF.makeD (G : GtF X.prog X.w X.K X.mg X.base CX k d ps sp) (B : Kb0 d ps (n + 1)) (M : Mk X.K C (He.fAd X.K d.at_)) (hm : X.mg x = some (.ref C)) (hr : Room (k + 1) X.A) (hx : Passes CX X E) (ha : PA X (e :: es) t) (hg : Gl X x := by rfl)
    (hdb : (x == ("__debug__" : Str)) = false := by decide) (he : starEach (e :: es) X.env = (false, eval e X.env) :: starEach es X.env := by rfl) (hpl : (backTo pos (starEach es X.env)).any (·.1) = false := by rfl) :
    PE X (.Call (.Name x p) (e :: es) [] pos) (tMake C sp ((d.kws X.K).map (·.2)) E t) := by
  obtain ⟨fd, ds, F, hd, hb⟩ := G.kb0 B
  exact pe_make M F hr hg hm hb hd hx ha hdb he hpl
/-- C(e, ..) -/
theorem GtF.make (G : GtF X.prog X.w X.K X.mg X.base CX k d ps sp) (hd : d.dfl = []) (hb : BindN d ps) (M : Mk X.K C (He.fAd X.K d.at_)) (hm : X.mg x = some (.ref C)) (hr : Room (k + 1) X.A) (hx : Passes CX X E) (ha : PA X (e :: es) t) (hg : Gl X x := by rfl)
    (hdb : (x == ("__debug__" : Str)) = false := by decide) (he : starEach (e :: es) X.env = (false, eval e X.env) :: starEach es X.env := by rfl) (hpl : (backTo pos (starEach es X.env)).any (·.1) = false := by rfl) :
    PE X (.Call (.Name x p) (e :: es) [] pos) (tMake C sp [] E t) := by
  obtain ⟨fd, F, hb⟩ := G.bn hd hb
  exact pe_make M F hr hg hm hb .nil hx ha hdb he hpl
/-- o.m(k = v, ..) -/
theorem GtF.methK (G : GtF X.prog X.w X.K X.mg X.base CX k d ps sp) (B : Kb d ps 1 ks js is) (c : Cls X.K C) (hm : Meth X.K C m (He.fAd X.K d.at_)) (hr : Room k X.A) (hx : Passes CX X E) (he : PE X o ta) (hkw : PK X kws tk) {pl : Sem Bool}
    (hall : (backToKw pos (keywordEach kws X.env)).all (·.1.isSome) = true := by rfl) (hks : (backToKw pos (keywordEach kws X.env)).filterMap (·.1) = ks := by rfl)
    (hpl : ((backTo pos (starEach [] X.env)).any (·.1) || (backToKw pos (keywordEach kws X.env)).any (·.1.isNone)) = false := by rfl)
    (ht : eval (.Call (.Attribute o m apos) [] kws pos) X.env = (do
      let ov ← eval o X.env
      standAt apos.atName
      let (f, first) ← holding [ov] (getMethod ov m pl)
      callWith pos f first (backTo pos (starEach [] X.env)) (backToKw pos (keywordEach kws X.env))) := by rfl) :
    PE X (.Call (.Attribute o m apos) [] kws pos) (tMethK C m ks.length sp (gK d js is X.K) E ta tk) := by
  obtain ⟨fd, mv, F, hb⟩ := G.kbn B
  exact pe_methK (pl := pl) he c hm F hr hb hx hkw hall hks hpl ht
/-- o.m(), all keyword-only parameters left out -/
theorem GtF.meth0 (G : GtF X.prog X.w X.K X.mg X.base CX k d ps sp) (B : Kb0 d ps 1) (c : Cls X.K C) (hm : Meth X.K C m (He.fAd X.K d.at_)) (hr : Room k X.A) (hx : Passes CX X E) (he : PE X o ta) {pl : Sem Bool}
    (ht : eval (.Call (.Attribute o m apos) [] [] pos) X.env = (do
      let ov ← eval o X.env
      standAt apos.atName
      let (f, first) ← holding [ov] (getMethod ov m pl)
      callWith pos f first (backTo pos (starEach [] X.env)) (backToKw pos (keywordEach [] X.env))) := by rfl) :
    PE X (.Call (.Attribute o m apos) [] [] pos) (tMeth C m sp ((d.kws X.K).map (·.2)) E ta tNil) := by
  obtain ⟨fd, ds, F, hd, hb⟩ := G.kb0 B
  exact pe_meth0 (pl := pl) he c hm F hr hb hd hx ht
/-- o.m(e, ..) -/
theorem GtF.meth (G : GtF X.prog X.w X.K X.mg X.base CX k d ps sp) (hd : d.dfl = []) (hb : BindN d ps) (c : Cls X.K C) (hm : Meth X.K C m (He.fAd X.K d.at_)) (hr : Room k X.A) (hx : Passes CX X E) (he : PE X o ta) (ha : PA X (e :: es) t) {pl : Sem Bool}
    (hst : starEach (e :: es) X.env = (false, eval e X.env) :: starEach es X.env := by rfl) (hpl : (backTo pos (starEach es X.env)).any (·.1) = false := by rfl)
    (ht : eval (.Call (.Attribute o m apos) (e :: es) [] pos) X.env = (do
      let ov ← eval o X.env
      standAt apos.atName
      let (f, first) ← holding [ov] (getMethod ov m pl)
      callWith pos f first (backTo pos (starEach (e :: es) X.env)) (backToKw pos (keywordEach [] X.env))) := by rfl) :
    PE X (.Call (.Attribute o m apos) (e :: es) [] pos) (tMeth C m sp [] E ta t) := by
  obtain ⟨fd, F, hb⟩ := G.bn hd hb
  exact pe_meth (pl := pl) he c hm F hr hb .nil hx ha hst hpl ht
/-- o.m() -/
theorem GtF.methN (G : GtF X.prog X.w X.K X.mg X.base CX k d ps sp) (hd : d.dfl = []) (hb : BindN d ps) (c : Cls X.K C) (hm : Meth X.K C m (He.fAd X.K d.at_)) (hr : Room k X.A) (hx : Passes CX X E) (he : PE X o ta) {pl : Sem Bool}
    (ht : eval (.Call (.Attribute o m apos) [] [] pos) X.env = (do
      let ov ← eval o X.env
      standAt apos.atName
      let (f, first) ← holding [ov] (getMethod ov m pl)
      callWith pos f first (backTo pos (starEach [] X.env)) (backToKw pos (keywordEach [] X.env))) := by rfl) :
    PE X (.Call (.Attribute o m apos) [] [] pos) (tMeth C m sp [] E ta tNil) := by
  obtain ⟨fd, F, hb⟩ := G.bn hd hb
  exact pe_meth0 (pl := pl) he c hm F hr hb .nil hx ht
end

/-! ### more of the head: Bools by place -/
theorem exs_at {exs : List (PySem.W.Frag → Bool)} {K : PySem.W.Frag} (h : (exs.all fun f => f K) = true) (i : Nat) {f : PySem.W.Frag → Bool} (e : exs[i]? = some f := by rfl) : f K = true :=
  List.all_eq_true.mp h f (List.mem_of_getElem? e)
/-- a written table read by a key -/
theorem kdct_of {K : PySem.W.Frag} {w : World} {a : Addr} {es : Array DictEntry} {n : Nat} {kvs : List (Str × He.Dv)} (D : KDict K w a es n) (h : He.valsB K a kvs = true) {q : Str × He.Dv} (hq : q ∈ kvs) : KDct K w a q.1 (q.2.v K) := by
  obtain ⟨u, hu, ru⟩ := He.valsB_ok h hq
  exact ⟨es, n, u, D.at_, D.lit, hu, ru⟩
end TP

namespace TP
open PySem PySem.Spec PyProof.Rows L2

/-- the slots written out -/
theorem nrm {P : L2.St → Hp → Prop} {σ σ' : L2.St} {H : Hp} (e : σ = σ') (h : P σ' H) : P σ H := by
  subst e
  exact h
theorem nrmG {i : Nat} {v : V} {σ σ' : L2.St} {H : Hp} {Q : L2.St → Hp → Prop} (e : σ.set i (some v) = σ') (h : Q σ' H) : gName i v σ H Q := by
  subst e
  exact h
/-! ### whole numbers -/
def isIntD : PyData → Bool
  | .int _ => true
  | _ => false
def isFromD (d : PyData) (l : Int) : Bool := match d with
  | .int i => decide (l ≤ i)
  | _ => false
def spWhole (K : PySem.W.Frag) : Sp := fun vs H Q _ => ∃ (x : V) (d : PyData), vs = [x] ∧ Dr K H x d ∧ Q (.bl (isIntD d)) H
def spFrom (K : PySem.W.Frag) : Sp := fun vs H Q _ => ∃ (x : V) (d : PyData) (l : Int), vs = [x, .int l] ∧ Dr K H x d ∧ Q (.bl (isFromD d l)) H
/-! ### a rule: seven numbers -/
structure RN where
  s : Int
  b : Int
  st : Int
  m : Int
  l : Int
  k : Int
  bk : Int
abbrev Bd (i : Int) : Prop := 0 ≤ i ∧ i < 2 ^ 600
structure RN.ok (r : RN) : Prop where
  s : 0 ≤ r.s
  b : 0 ≤ r.b
  st : 1 ≤ r.st
  m : 0 ≤ r.m
  l : 0 ≤ r.l
  k : 0 ≤ r.k
  bk : 0 ≤ r.bk
def RN.fs (r : RN) : List (Str × V) := [("since", .int r.s), ("base", .int r.b), ("step", .int r.st), ("more", .int r.m), ("leg", .int r.l), ("kept", .int r.k), ("back", .int r.bk)]
def RN.vs (r : RN) : List V := [.int r.s, .int r.b, .int r.st, .int r.m, .int r.l, .int r.k, .int r.bk]
/-- a rule lies at a -/
def Ru (K : PySem.W.Frag) (H : Hp) (a : Addr) (r : RN) : Prop := ∃ dx, H a = some (.ins (He.ga K "Rule") dx r.fs)
def RN.fee (r : RN) (wt lg : Int) (kp : Bool) : Int := r.b + r.m * ((wt - 1) / r.st) + r.l * lg + (if kp then r.k else 0)
/-- a rule is made: all numbers are from their leasts on -/
def spRuleG (K : PySem.W.Frag) : Sp := fun vs H Q _ => ∃ (x dx : Addr) (r : RN), vs = .ref x :: r.vs ∧ H x = some (.ins (He.ga K "Rule") dx []) ∧ r.ok ∧ ∀ H', Wk x H H' → H' x = some (.ins (He.ga K "Rule") dx r.fs) → Q .non H'
def spFee (K : PySem.W.Frag) : Sp := fun vs H Q _ => ∃ (a : Addr) (r : RN) (wt lg : Int) (kp : Bool), vs = [.ref a, .int wt, .int lg, .bl kp] ∧ Ru K H a r ∧ r.ok ∧ r.st < 2 ^ 600 ∧ r.m < 2 ^ 600 ∧ r.l < 2 ^ 600 ∧ 1 ≤ wt ∧ wt < 2 ^ 600 ∧ Bd lg ∧ Q (.int (r.fee wt lg kp)) H
theorem p600 : (1 : Int) < 2 ^ 600 := by decide +kernel
theorem bd0 : Bd 0 := ⟨by decide, by decide +kernel⟩
theorem lt600 {i : Int} (h : i < 10 ^ 61) : i < 2 ^ 600 := Int.lt_trans h (by decide +kernel)
theorem mulW {i j : Int} (hi : 0 ≤ i) (hi2 : i < 2 ^ 600) (hj : 0 ≤ j) (hj2 : j < 2 ^ 600) : CMulW i j :=
  wide_mul (a := 600) (b := 600) (by omega) (by omega) (by decide) (by decide) (by decide)
theorem divW {i j : Int} (hj : 1 ≤ j) (hj2 : j < 2 ^ 600) : CDivW i j := wide_div (b := 600) (by omega) (by omega) (by decide) (by decide)
theorem fee_bd {r : RN} (ok : r.ok) (hb : r.b < 10 ^ 60) (hm : r.m < 10 ^ 60) (hl : r.l < 10 ^ 60) (hk : r.k < 10 ^ 60) {wt lg : Int} {kp : Bool} (w1 : 1 ≤ wt) (w2 : wt ≤ 1000) (l1 : 0 ≤ lg) (l2 : lg ≤ 1000) : 0 ≤ r.fee wt lg kp ∧ r.fee wt lg kp < 10 ^ 100 := by
  have h1 : 0 ≤ (wt - 1) / r.st := Int.ediv_nonneg (by omega) (by have := ok.st; omega)
  have h2 : (wt - 1) / r.st ≤ 1000 := Int.le_trans (Int.ediv_le_self _ (by omega)) (by omega)
  unfold RN.fee
  generalize (wt - 1) / r.st = hv at h1 h2 ⊢
  have a1 : 0 ≤ r.m * hv := Int.mul_nonneg ok.m h1
  have a2 : r.m * hv ≤ 10 ^ 60 * 1000 := Int.mul_le_mul (by omega) h2 h1 (by decide)
  have b1 : 0 ≤ r.l * lg := Int.mul_nonneg ok.l l1
  have b2 : r.l * lg ≤ 10 ^ 60 * 1000 := Int.mul_le_mul (by omega) l2 l1 (by decide)
  have c0 := ok.b
  have c1 := ok.k
  generalize r.m * hv = u at a1 a2 ⊢
  generalize r.l * lg = v at b1 b2 ⊢
  cases kp <;> simp <;> omega
theorem heavy_bd {wt st : Int} (h : 1 ≤ wt) (h2 : wt < 2 ^ 600) (hs : 1 ≤ st) : 0 ≤ (wt - 1) / st ∧ (wt - 1) / st < 2 ^ 600 := by
  refine ⟨Int.ediv_nonneg (by omega) (by omega), Int.lt_of_le_of_lt (Int.ediv_le_self _ (by omega)) (by omega)⟩
/-! ### rows of numbers shown -/
theorem smInt {i : Int} (h0 : 0 ≤ i) (h : i < 10 ^ 100) : Sm 100 (.int i) := by
  refine ⟨?_, ?_, by rw [PyData.depth]; decide⟩
  · show decide (i.natAbs.log2 < 1920) = true
    refine decide_eq_true ?_
    by_cases h1 : i.natAbs = 0
    · rw [h1]
      decide
    · exact Nat.lt_of_lt_of_le ((Nat.log2_lt h1).mpr (show i.natAbs < 2 ^ 400 by omega)) (by decide)
  · rw [TP.wt]
    exact PyProof.Rows.toString_length_le h0 (by decide) h
theorem drInts {K : PySem.W.Frag} {H : Hp} : ∀ l : List Int, DrAll K H (l.map V.int) (l.map PyData.int)
  | [] => .nil
  | i :: l => .cons (.int i) (drInts l)
theorem shAll {B : Nat} : ∀ {l : List PyData}, (∀ d ∈ l, Sm B d) → PyData.showableAll l = true ∧ wtAll l ≤ l.length * (B + 2) ∧ PyData.depthAll l ≤ 20
  | [], _ => ⟨rfl, Nat.zero_le _, by rw [PyData.depthAll]; decide⟩
  | d :: l, h => by
    have h1 := h d (.head _)
    obtain ⟨h2, h3, h4⟩ := shAll (l := l) fun e he => h e (.tail _ he)
    have h5 := h1.wt
    have h6 := h1.dp
    refine ⟨by rw [PyData.showableAll, h1.sh, h2]; rfl, ?_, ?_⟩
    · rw [wtAll, List.length_cons, Nat.add_mul]
      omega
    · rw [PyData.depthAll]
      omega
theorem smInts {l : List Int} (h : ∀ i ∈ l, 0 ≤ i ∧ i < 10 ^ 100) (hl : l.length ≤ 100) : (PyData.list (l.map PyData.int)).showable = true ∧ (PyData.list (l.map PyData.int)).depth ≤ 50 ∧ (PyData.list (l.map PyData.int)).shown.length ≤ sizeLine := by
  obtain ⟨h1, h2, h3⟩ := shAll (B := 100) (l := l.map PyData.int) fun d hd => by
    obtain ⟨i, hi, rfl⟩ := List.mem_map.mp hd
    exact smInt (h i hi).1 (h i hi).2
  refine ⟨h1, by rw [PyData.depth]; omega, Nat.le_trans (shown_wt _) ?_⟩
  rw [TP.wt]
  rw [List.length_map] at h2
  have : sizeLine = 16777216 := sizeLine_eq
  have : l.length * (100 + 2) ≤ 100 * 102 := Nat.mul_le_mul hl (Nat.le_refl _)
  omega
/-- a class's object is made: all else stays -/
theorem made_ex {H H' : Hp} {x dx : Addr} {o o' : HO} (hx : H x = none) (hd : H dx = none) (wk : Wk x (upd (upd H dx o') x o) H') : Evl.Ex H H' := fun b u hb => by
  refine wk b u (ne_of_none hb hx) ?_
  rw [upd_ne (ne_of_none hb hx), upd_ne (ne_of_none hb hd)]
  exact hb
theorem Wl.ex {H H' : Hp} {a : Addr} {n : Nat} (h : Wl H a n) (e : Evl.Ex H H') : Wl H' a n := by
  obtain ⟨x, y, c, q, r⟩ := h
  exact ⟨x, y, c, e _ _ q, r⟩
theorem Dn.ex {a : Addr} {n : Nat} {H H1 H' : Hp} (h : Dn a n H H1) (e : Evl.Ex H1 H') : Dn a n H H' := ⟨h.wl.ex e, fun b o nb hb => e b o (h.k b o nb hb)⟩
theorem Ru.ex {K : PySem.W.Frag} {H H' : Hp} {a : Addr} {r : RN} (h : Ru K H a r) (e : Evl.Ex H H') : Ru K H' a r := by
  obtain ⟨dx, q⟩ := h
  exact ⟨dx, e _ _ q⟩
theorem Ru.dn {K : PySem.W.Frag} {H H' : Hp} {a b : Addr} {n : Nat} {r : RN} (h : Ru K H a r) (d : Dn b n H H') (nb : a ≠ b) : Ru K H' a r := by
  obtain ⟨dx, q⟩ := h
  exact ⟨dx, d.k _ _ nb q⟩
/-! ### a comprehension that draws -/
theorem Dn.put {a D : Addr} {m : Nat} {H H' : Hp} {o : HO} (d : Dn a m H H') (hD : H D = none) (n : D ≠ a) : Dn a m H (upd H' D o) := by
  refine ⟨?_, fun b u nb h => ?_⟩
  · obtain ⟨x, y, c, e, r⟩ := d.wl
    exact ⟨x, y, c, by rw [upd_ne (Ne.symm n)]; exact e, r⟩
  · rw [upd_ne (ne_of_none h hD)]
    exact d.k b u nb h
theorem lc_dn {J : It} {n : Nat} {G : Hp → Prop} {Y : Nat → Hp → V → Hp → Prop} (w : Walk J n G Y) {g : TG} {tt : TT} {te : TE} {vs : List Nat} {σ : L2.St} {H1 : Hp} {a D : Addr} {Qd : Hp → Prop} (m0 k : Nat) (P : V → Prop)
    (hW : Wl H1 a m0) (hD : H1 D = none) (hn : n < 1000000) (hG : ∀ m H, Dn a m H1 H → G H)
    (hs : ∀ (i : Nat) (x : V) (H H' : Hp) (C : V → Hp → Prop) (N : Hp → Prop), i < n → Dn a (m0 + i * k) H1 H → Y i H x H' → (∀ v H4, P v → Dn a (m0 + (i + 1) * k) H H4 → C v H4) →
      g x (wipe σ vs) H' fun σ2 H2 => wipe σ2 vs = wipe σ vs ∧ tt σ2 H2 fun b H3 => if b = true then te σ2 H3 C else N H3)
    (hd : ∀ H' acc, Dn a (m0 + n * k) H1 H' → H' D = some (.lst acc) → acc.length = n → (∀ v ∈ acc, P v) → Qd H') :
    ∃ W : Nat → Nat → Hp → Prop, (∃ m, W 0 m (upd H1 D (.lst []))) ∧ ∀ i m H, W i m H →
      (J.stop i H ∧ Qd H) ∨ (J.go i H ∧ ∃ Nx : Hp → Prop, (∀ H', Nx H' → ∃ m', m' < m ∧ W (i + 1) m' H') ∧ ∀ x H', J.yld i H x H' → g x (wipe σ vs) H' fun σ2 H2 => wipe σ2 vs = wipe σ vs ∧ tt σ2 H2 fun b H3 =>
        if b = true then te σ2 H3 fun y H4 => ∃ acc, H4 D = some (.lst acc) ∧ acc.length < sizeLine ∧ Nx (upd H4 D (.lst (acc ++ [y]))) else Nx H3) := by
  have nD : D ≠ a := hW.nep hD
  refine lc_it w (fun i H => Dn a (m0 + i * k) H1 H ∧ ∃ acc, H D = some (.lst acc) ∧ acc.length = i ∧ ∀ v ∈ acc, P v) ⟨?_, [], upd_same, rfl, fun v h => nomatch h⟩ (fun i H _ q => hG _ H q.1) (fun i x H H' hi q y => ?_) (fun H q => ?_)
  · exact Dn.put ⟨by simpa using hW, Wk.refl _ _⟩ hD nD
  · obtain ⟨d, acc, ha, hl, hp⟩ := q
    refine hs i x H H' _ _ hi d y fun v H4 hv d4 => ⟨acc, d4.k D _ nD ha, ?_, (d.trans d4).put hD nD, acc ++ [v], upd_same, by simp [hl], fun u hu => ?_⟩
    · have : sizeLine = 16777216 := sizeLine_eq
      omega
    · rcases List.mem_append.mp hu with h | h
      · exact hp u h
      · have : u = v := by simpa using h
        rw [this]
        exact hv
  · obtain ⟨d, acc, ha, hl, hp⟩ := q
    exact hd H acc d ha hl hp
/-- a number from a least one on, of up to sixty figures -/
def spNum : Sp := fun vs H Q _ => ∃ (a : Addr) (n : Nat) (l : Int), vs = [.ref a, .int l] ∧ Wl H a n ∧ n < 900000 ∧ ∀ (d : Int) (H' : Hp), 0 ≤ d → d < 10 ^ 59 → Dn a (n + 2) H H' → Q (.int (l + d)) H'
abbrev LKs : List Str := ["since", "base", "step", "more", "leg", "kept", "back"]
abbrev LKv : List (Str × He.Dv) := [("since", .int 0), ("base", .int 0), ("step", .int 1), ("more", .int 0), ("leg", .int 0), ("kept", .int 0), ("back", .int 0)]
theorem rule_at {r : RN} (ok : r.ok) {i : Nat} {x y : V} (hi : i < 7) (h1 : (LKs[i]?).map V.str = some x) (h2 : r.vs[i]? = some y) : ∃ (z : Str) (l j : Int), x = .str z ∧ y = .int j ∧ (z, He.Dv.int l) ∈ LKv ∧ l ≤ j := by
  match i, hi with
  | 0, _ => cases h1; cases h2; exact ⟨_, _, _, rfl, rfl, .head _, ok.s⟩
  | 1, _ => cases h1; cases h2; exact ⟨_, _, _, rfl, rfl, .tail _ (.head _), ok.b⟩
  | 2, _ => cases h1; cases h2; exact ⟨_, _, _, rfl, rfl, .tail _ (.tail _ (.head _)), ok.st⟩
  | 3, _ => cases h1; cases h2; exact ⟨_, _, _, rfl, rfl, .tail _ (.tail _ (.tail _ (.head _))), ok.m⟩
  | 4, _ => cases h1; cases h2; exact ⟨_, _, _, rfl, rfl, .tail _ (.tail _ (.tail _ (.tail _ (.head _)))), ok.l⟩
  | 5, _ => cases h1; cases h2; exact ⟨_, _, _, rfl, rfl, .tail _ (.tail _ (.tail _ (.tail _ (.tail _ (.head _))))), ok.k⟩
  | 6, _ => cases h1; cases h2; exact ⟨_, _, _, rfl, rfl, .tail _ (.tail _ (.tail _ (.tail _ (.tail _ (.tail _ (.head _)))))), ok.bk⟩
end TP

namespace TP
open PySem PySem.Spec PyProof.Rows L2

/-! ### an own exception class over an own base class -/
def oexB (K : PySem.W.Frag) (x : Str) : Bool := (match K.lookup (He.ga K x) with
    | some ⟨.type t, _, .cls cd, sl⟩ => decide (t = "type") && (match cd.mro, sl.toList with
      | .ref C' :: bm, [_, _, _, _, some (.builtin n), _] => decide (C' = He.ga K x) && (decide (n = "ValueError.__new__") && (!cd.hasDel && (cd.hasDict && PySem.HandSPX.refsVE bm)))
      | _, _ => false)
    | _ => false) &&
  (He.eqO (PySem.W.findIn K (.ref (He.ga K x)) "__setattr__") (some (some (.builtin "object.__setattr__"))) && (decide (PySem.W.subIn K (.ref (He.ga K x)) (.type "BaseException") = some true) &&
    (decide (PySem.W.typeIn K (.ref (He.ga K x)) = some (.type "type")) && PySem.W.keepIn K (.ref (He.ga K x)))))
theorem oexB_ok {K : PySem.W.Frag} {x : Str} (h : oexB K x = true) : OexC K (He.ga K x) := by
  obtain ⟨h0, h⟩ := He.ba h
  obtain ⟨h1, h⟩ := He.ba h
  obtain ⟨h2, h⟩ := He.ba h
  obtain ⟨h3, h4⟩ := He.ba h
  refine ⟨?_, He.eqO_ok h1, of_decide_eq_true h2, of_decide_eq_true h3, h4⟩
  split at h0
  · rename_i t dd cd sl ho
    obtain ⟨ht, hb⟩ := He.ba h0
    clear h0
    obtain rfl : t = "type" := of_decide_eq_true ht
    split at hb
    · rename_i C' bm k0 k1 k2 k3 n k5 hm hs
      obtain ⟨a1, hb⟩ := He.ba hb
      obtain ⟨a2, hb⟩ := He.ba hb
      obtain ⟨a3, hb⟩ := He.ba hb
      obtain ⟨a4, a5⟩ := He.ba hb
      have e1 : C' = He.ga K x := of_decide_eq_true a1
      have e2 : n = "ValueError.__new__" := of_decide_eq_true a2
      subst e2
      obtain ⟨nm, bs, mro, ns, qn, hd, sn, sub, ab, col, del⟩ := cd
      dsimp only at hm a3 a4
      have e3 : del = false := by simpa using a3
      subst e3 a4 hm
      have hsl : sl = #[k0, k1, k2, k3, some (.builtin "ValueError.__new__"), k5] := by
        obtain ⟨l⟩ := sl
        simp only at hs
        rw [hs]
      subst hsl
      rw [← e1] at ho ⊢
      exact ⟨nm, qn, ns, bs, bm, sn, sub, ab, col, dd, k0, k1, k2, k3, k5, ho, a5⟩
    · cases hb
  · cases h0
/-- its base's __init__ is ValueError's -/
def baseB (K : PySem.W.Frag) (x : Str) : Bool := PySem.W.readsIn K (He.ga K x) (.type "type") && (He.eqO (PySem.W.specialIn K (.ref (He.ga K x)) "__getattribute__") (some (some (.builtin "type.__getattribute__"))) &&
  ((match PySem.W.findCls K (.ref (He.ga K x)) (.type "type") "__init__" with
    | some (.val (.builtin n)) => decide (n = "ValueError.__init__")
    | _ => false) && PySem.W.keepIn K (.ref (He.ga K x))))
structure BaseC (K : PySem.W.Frag) (B : Addr) : Prop where
  rd : PySem.W.readsIn K B (.type "type") = true
  ga : PySem.W.specialIn K (.ref B) "__getattribute__" = some (some (.builtin "type.__getattribute__"))
  it : PySem.W.findCls K (.ref B) (.type "type") "__init__" = some (.val (.builtin "ValueError.__init__"))
theorem baseB_ok {K : PySem.W.Frag} {x : Str} (h : baseB K x = true) : BaseC K (He.ga K x) := by
  obtain ⟨h1, h⟩ := He.ba h
  obtain ⟨h2, h⟩ := He.ba h
  obtain ⟨h3, h4⟩ := He.ba h
  refine ⟨h1, He.eqO_ok h2, ?_⟩
  split at h3
  · rename_i n e
    rw [e, of_decide_eq_true h3]
  · cases h3
/-- the init of such a class stands, its fields are not the class's -/
def einB (K : PySem.W.Frag) (x : Str) : Bool := He.eqO (PySem.W.findIn K (.ref (He.ga K x)) "__init__") (some (some (.ref (He.fAd K (x, some "__init__"))))) && decide (PySem.W.typeIn K (.ref (He.fAd K (x, some "__init__"))) = some (.type "function"))
theorem einB_ok {K : PySem.W.Frag} {x : Str} (h : einB K x = true) : PySem.W.findIn K (.ref (He.ga K x)) "__init__" = some (some (.ref (He.fAd K (x, some "__init__")))) ∧ PySem.W.typeIn K (.ref (He.fAd K (x, some "__init__"))) = some (.type "function") := by
  obtain ⟨h1, h2⟩ := He.ba h
  exact ⟨He.eqO_ok h1, of_decide_eq_true h2⟩
def excCB (K : PySem.W.Frag) (x : Str) : Bool := He.eqO (PySem.W.findIn K (.ref (He.ga K x)) "__getattribute__") (some (some (.builtin "BaseException.__getattribute__"))) && (He.eqO (PySem.W.findIn K (.ref (He.ga K x)) "__getattr__") (some none) &&
  (decide (PySem.W.subIn K (.ref (He.ga K x)) (.type "BaseException") = some true) && (PySem.W.hasDictIn K (He.ga K x) && (He.eqO (PySem.W.findIn K (.ref (He.ga K x)) "__class__") (some (some (.builtin "object.__class__"))) &&
    (He.eqO (PySem.W.specialIn K (.builtin "object.__class__") "__get__") (some (some (.builtin "getset_descriptor.__get__"))) && (decide (PySem.W.takesIn K (.builtin "object.__class__") = some true) && decide (PySem.W.mroIn K (He.ga K x) (.type "object") = some true)))))))
theorem excCB_ok {K : PySem.W.Frag} {x : Str} (h : excCB K x = true) : ExcC K (He.ga K x) := by
  obtain ⟨h1, h⟩ := He.ba h
  obtain ⟨h2, h⟩ := He.ba h
  obtain ⟨h3, h⟩ := He.ba h
  obtain ⟨h4, h⟩ := He.ba h
  obtain ⟨h5, h⟩ := He.ba h
  obtain ⟨h6, h⟩ := He.ba h
  obtain ⟨h7, h8⟩ := He.ba h
  exact ⟨He.eqO_ok h1, He.eqO_ok h2, of_decide_eq_true h3, h4, He.eqO_ok h5, He.eqO_ok h6, of_decide_eq_true h7, of_decide_eq_true h8⟩
/-- isinstance by classes -/
def kitB2 (K : PySem.W.Frag) (xs ys : List Str) (t : Str → Str → Bool) : Bool := xs.all fun x => ys.all fun y => decide (PySem.W.kitOne K (.ref (He.ga K x)) (.ref (He.ga K y)) = some (t x y))
theorem kitB2_ok {K : PySem.W.Frag} {xs ys : List Str} {t : Str → Str → Bool} (h : kitB2 K xs ys t = true) {x y : Str} (hx : x ∈ xs) (hy : y ∈ ys) : PySem.W.kitOne K (.ref (He.ga K x)) (.ref (He.ga K y)) = some (t x y) :=
  of_decide_eq_true (List.all_eq_true.mp (List.all_eq_true.mp h x hx) y hy)

section
variable {X : Cx} {o e : Expr} {es : List Expr} {to te : TE} {ta : TA} {f x : Str} {p p' p1 p2 pos : Pos}
/-- B.__init__(self, ..), B a class of the text over ValueError without own __init__ -/
theorem pe_poinit {pl : Sem Bool} {B : Addr} (b : BaseC X.K B) (hm : X.mg x = some (.ref B)) (ha : PA X (e :: es) ta) (hg : Gl X x := by rfl) (hdb : (x == ("__debug__" : Str)) = false := by decide)
    (hc : eval (.Call (.Attribute (.Name x p1) "__init__" p2) (e :: es) [] pos) X.env = (do
      let ov ← eval (.Name x p1) X.env
      standAt p2.atName
      let (f, first) ← holding [ov] (getMethod ov "__init__" pl)
      callWith pos f first (backTo pos (starEach (e :: es) X.env)) (backToKw pos (keywordEach [] X.env))) := by rfl)
    (he : starEach (e :: es) X.env = (false, eval e X.env) :: starEach es X.env := by rfl) (hpl : (backTo pos (starEach es X.env)).any (·.1) = false := by rfl) :
    PE X (.Call (.Attribute (.Name x p1) "__init__" p2) (e :: es) [] pos) (tVeI X.K ta) := by
  refine ⟨fun pins s σ H Q I h => ?_⟩
  refine PySem.W.methodCall_KW (ld_glob I hg hm ?_ hdb) hc
  refine PySem.W.method_cls I.kIn b.ga (PySem.W.cls_value I.kIn b.rd b.it rfl ?_)
  show wpAny _ _ (callWith pos (Value.builtin "ValueError.__init__") [] (backTo pos (starEach (e :: es) X.env)) []) _ _ _
  refine PyProof.Rows.callWith_method1 (thn (ha.run pos pins _ σ H _ (I.tok _) h) fun us s1 ⟨vs, H1, I1, r1, a, C, ws, ev, hl, T, ea, q⟩ => ?_) he hpl
  subst ev
  cases r1 with
  | @cons _ u0 _ ur ra rw' =>
    obtain rfl : u0 = Value.ref a := ra
    have hlen : ur.length ≤ sizeLine := by
      rw [← Paired.length rw', sizeLine_eq]
      omega
    exact oinit_ok T I1 ea hlen fun s' J => ⟨.non, H1, J, rfl, q⟩
/-- C(e, ..) as a value -/
def tMkV (C : Addr) (sp : Sp) (E : XK) (ta : TA) : TE := fun σ H Q => ta σ H fun vs H1 => vs.length ≤ 1000 ∧ ∀ a, H1 a = none → sp (.ref a :: vs) (upd H1 a (exo a C none)) (fun v H2 => v = .non ∧ Q (.ref a) H2) E
theorem pe_mkV {CX : CXT} {C : Addr} {k : Nat} {d : He.DefD} {ps : List Str} {sp : Sp} {E : XK} (T : OexC X.K C) (iC : PySem.W.findIn X.K (.ref C) "__init__" = some (some (.ref (He.fAd X.K d.at_))) ∧ PySem.W.typeIn X.K (.ref (He.fAd X.K d.at_)) = some (.type "function"))
    (G : GtF X.prog X.w X.K X.mg X.base CX k d ps sp) (hdf : d.dfl = []) (hbn : BindN d ps) (hm : X.mg x = some (.ref C)) (hr : Room (k + 1) X.A) (hx : Passes CX X E) (ha : PA X (e :: es) ta) (hg : Gl X x := by rfl)
    (hdb : (x == ("__debug__" : Str)) = false := by decide) (he : starEach (e :: es) X.env = (false, eval e X.env) :: starEach es X.env := by rfl) (hpl : (backTo pos (starEach es X.env)).any (·.1) = false := by rfl) :
    PE X (.Call (.Name x p) (e :: es) [] pos) (tMkV C sp E ta) := by
  obtain ⟨fd, F1, hb⟩ := G.bn hdf hbn
  obtain ⟨iC, tI⟩ := iC
  refine ⟨fun pins s σ H Q I h => ?_⟩
  obtain ⟨nm, q, N, bs, bm, sn, sub, ab, col, dd, k0, k1, k2, k3, k5, hC, hbm⟩ := T.cls
  refine wpAny_Call_Name_kw (ld_glob I hg hm ?_ hdb)
  refine PySem.W.callWith_K (h₀ := X.base) I.ok.mod.kin T.kC (thn (ha.run pos pins s σ H _ I h) fun us s1 ⟨vs, H1, I1, r1, hz, q1⟩ => ⟨I1.kIn, ?_⟩) he hpl
  show wpAny _ _ (call (.ref C) us) _ _ _
  obtain ⟨hp, g, dr, tk, os⟩ := s1
  have hsz : hp.objs.size ≤ hp.objs.size + 1 := Nat.le_succ _
  have hn : H1 (hp.objs.size + 1) = none := I1.hok.fresh hsz
  have hq := q1 (hp.objs.size + 1) hn
  have kk : ∀ b o, hp.get? b = some o → ((hp.push (PySem.W.kdv_tup us)).push (PySem.HandSPX.excO C hp.objs.size)).get? b = some o := fun b o e => Heap.get?_push_of_some _ (Heap.get?_push_of_some _ e)
  have hget : ((hp.push (PySem.W.kdv_tup us)).push (PySem.HandSPX.excO C hp.objs.size)).get? (hp.objs.size + 1) = some (PySem.HandSPX.excO C hp.objs.size) := by heap_get
  have I2 : Inv X pins σ (upd H1 (hp.objs.size + 1) (exo (hp.objs.size + 1) C none)) ⟨(hp.push (PySem.W.kdv_tup us)).push (PySem.HandSPX.excO C hp.objs.size), g, dr, tk, os⟩ :=
    I1.laid (t' := tk) (a := hp.objs.size + 1) (o := exo (hp.objs.size + 1) C none) (h' := (hp.push (PySem.W.kdv_tup us)).push (PySem.HandSPX.excO C hp.objs.size)) kk hsz (exo_ok hget)
  have r2 : Vals (V.ref (hp.objs.size + 1) :: vs) (Value.ref (hp.objs.size + 1) :: us) := .cons rfl r1
  have hl : (Value.ref (hp.objs.size + 1) :: us ++ []).length = ps.length := by
    have e := r2.length
    rw [F1.len _ _ _ _ hq] at e
    rw [List.append_nil]
    exact e.symm
  have hus : us.length ≤ sizeLine := by
    rw [← Paired.length r1, sizeLine_eq]
    omega
  have hb2 := hb _ (Value.ref (hp.objs.size + 1) :: us) I2.kIn hl
  rw [List.append_nil] at hb2
  refine wpAny_call (PySem.HandSPX.call_own F.excBase_ValueError (fun Y => PySem.HandSPX.refsVE_contains Y bm hbm) (I1.kIn _ _ hC) (PySem.W.looks_findIn I1.kIn iC) (fun self => PySem.W.bind_fn I1.kIn self tI) hus
    (codeAny_mono (F1.run _ X.stack _ _ ⟨Value.ref (hp.objs.size + 1) :: us, []⟩ (Value.ref (hp.objs.size + 1) :: us) _ _ E (hr.make C us []) (I2.env0.make C us []) hb2 r2 hq) fun r s' hq' => ?_))
  cases r with
  | error er => exact hx pins σ _ _ er s' I2 hq'
  | ok fl =>
    cases fl with
    | ret u =>
      obtain ⟨v, H', I3, rv, ev, q3⟩ := I2.after hq'
      subst ev
      exact ⟨rv, ⟨V.ref (hp.objs.size + 1), H', I3, rfl, q3⟩⟩
    | next => exact False.elim hq'
    | brk => exact False.elim hq'
    | cont => exact False.elim hq'
/-- an error stands at a, its fields fs -/
def Er (H : Hp) (a C : Addr) (fs : List (Str × V)) : Prop := ∃ d, H a = some (exo a C (some d)) ∧ H d = some (exd d fs)
theorem Er.ex {H H' : Hp} {a C : Addr} {fs : List (Str × V)} (h : Er H a C fs) (e : Evl.Ex H H') : Er H' a C fs := by
  obtain ⟨d, h1, h2⟩ := h
  exact ⟨d, e _ _ h1, e _ _ h2⟩
theorem er_at {pins : List (Addr × Obj)} {σ : L2.St} {H : Hp} {s : Shared} {a C : Addr} {fs : List (Str × V)} (I : Inv X pins σ H s) (h : Er H a C fs) :
    ∃ (ox od : Obj) (mA : Str → Option Value), PySem.W.InstAt s.heap a ox C (some od) ∧ (∀ n, PySem.W.lookIn n od = some (mA n)) ∧ ∀ f, RelO (fs.lookup f) (mA f) := by
  obtain ⟨d, h1, h2⟩ := h
  obtain ⟨t1, he⟩ := exo_at I.hok h1
  obtain ⟨mA, hns, hr⟩ := exd_at I.hok h2
  obtain ⟨od, ho, hl⟩ := lookIn_ns hns
  exact ⟨_, od, mA, ⟨he, rfl, rfl, ho⟩, hl, hr⟩
/-- e.f -/
def tXv (K : PySem.W.Frag) (f : Str) (te : TE) : TE := fun σ H Q => te σ H fun x H1 => ∃ (a C : Addr) (fs : List (Str × V)) (v : V), x = .ref a ∧ ExcC K C ∧ PySem.W.findIn K (.ref C) f = some none ∧ Er H1 a C fs ∧ fs.lookup f = some v ∧ Q v H1
theorem pe_xv (he : PE X e te) (hb : attributeBase e f X.env (eval e X.env) = eval e X.env := by rfl) : PE X (.Attribute e f pos) (tXv X.K f te) := by
  refine ⟨fun pins s σ H Q I h => ?_⟩
  refine attr_of hb (thn (he.run pins s σ H _ I h) fun u s1 hh => ?_)
  obtain ⟨x, H1, I1, rx, a, C, fs, v, ex, T, hno, er, l, q⟩ := hh
  subst ex
  obtain rfl : u = Value.ref a := rx
  obtain ⟨ox, od, mA, J, hl, hr⟩ := er_at I1 er
  obtain ⟨u, hu, ru⟩ := RelO.some_of (v := v) (o := mA f) (by rw [← l]; exact hr f)
  exact HandSPX.exc_get I1.kIn J T.hg T.hk T.hs (PySem.W.findObj_own T.hd hno rfl (by rw [hl, hu])) (handed_of ru) ⟨v, H1, I1.tok _, ru, q⟩
/-- isinstance(e, c) -/
def rIsX (K : PySem.W.Frag) : List V → Hp → VK → Prop := fun xs H Q => ∃ (a C : Addr) (fs : List (Str × V)) (c : V) (cv : Value) (b : Bool), xs = [.ref a, c] ∧ ClsV c cv ∧ ExcC K C ∧ Er H a C fs ∧ PySem.W.kitOne K (.ref C) cv = some b ∧ Q (.bl b) H
theorem call_isx : CallR X (.builtin "isinstance") (rIsX X.K) := by
  intro pins s σ H xs us Q I r h
  obtain ⟨a, C, fs, c, cv, b, rfl, hcv, T, er, e, q⟩ := h
  obtain ⟨u1, u2, rfl, r1, r2⟩ := vals2 r
  obtain rfl : u1 = Value.ref a := r1
  have ec := hcv.eq r2
  subst ec
  obtain ⟨ox, od, mA, J, hl, hr⟩ := er_at I er
  have hcl : (PySem.W.clsIn X.K C).isSome = true := by
    obtain ⟨cd, hc, _⟩ := PySem.W.any_some T.hd
    rw [hc]
    rfl
  exact PySem.W.kia_one (PySem.W.kitx_exc hcl T.hg T.hk T.hs T.ha T.hn T.ht T.hm) I.kIn J e (fun z => nomatch z) fun tk => ⟨.bl b, H, I.kept (t' := tk) fun _ _ z => z, rfl, q⟩
end
/-! ### errors with one field, with two -/
abbrev eC (K : PySem.W.Frag) (x : Str) : Addr := He.ga K x
def spErr1 (K : PySem.W.Frag) (x f : Str) : Sp := fun vs H Q _ => ∃ (a : Addr) (v : V), vs = [.ref a, v] ∧ H a = some (exo a (eC K x) none) ∧
  ∀ dx, H dx = none → dx ≠ a → Q .non (upd (upd H dx (exd dx [(f, v)])) a (exo a (eC K x) (some dx)))
def spErr2 (K : PySem.W.Frag) (x f g : Str) : Sp := fun vs H Q _ => ∃ (a : Addr) (v u : V), vs = [.ref a, v, u] ∧ H a = some (exo a (eC K x) none) ∧
  ∀ dx, H dx = none → dx ≠ a → Q .non (upd (upd (upd H dx (exd dx [(f, v)])) a (exo a (eC K x) (some dx))) dx (exd dx [(g, u), (f, v)]))
def ktT (x y : Str) : Bool := decide (x = y) || decide (y = "PostError")
def exmB2 (K : PySem.W.Frag) (xs ys : List Str) (t : Str → Str → Bool) : Bool := xs.all fun x => ys.all fun y => decide (PySem.W.exmOne K (.ref (He.ga K x)) (.ref (He.ga K y)) = some (t x y))
theorem exmB2_ok {K : PySem.W.Frag} {xs ys : List Str} {t : Str → Str → Bool} (h : exmB2 K xs ys t = true) {x y : Str} (hx : x ∈ xs) (hy : y ∈ ys) : PySem.W.exmOne K (.ref (He.ga K x)) (.ref (He.ga K y)) = some (t x y) :=
  of_decide_eq_true (List.all_eq_true.mp (List.all_eq_true.mp h x hx) y hy)
/-- an error as a value is laid -/
theorem er_new {H1 : Hp} {a C dx : Addr} {fs : List (Str × V)} (hn : H1 a = none) (hd : upd H1 a (exo a C none) dx = none) (ne : dx ≠ a) :
    Evl.Ex H1 (upd (upd (upd H1 a (exo a C none)) dx (exd dx fs)) a (exo a C (some dx))) ∧ Er (upd (upd (upd H1 a (exo a C none)) dx (exd dx fs)) a (exo a C (some dx))) a C fs := by
  rw [upd_ne ne] at hd
  refine ⟨fun b o hb => ?_, dx, upd_same, ?_⟩
  · rw [upd_ne (ne_of_none hb hn), upd_ne (ne_of_none hb hd), upd_ne (ne_of_none hb hn)]
    exact hb
  · rw [upd_ne ne, upd_same]
theorem er_new2 {H1 : Hp} {a C dx : Addr} {fs gs : List (Str × V)} (hn : H1 a = none) (hd : upd H1 a (exo a C none) dx = none) (ne : dx ≠ a) :
    Evl.Ex H1 (upd (upd (upd (upd H1 a (exo a C none)) dx (exd dx fs)) a (exo a C (some dx))) dx (exd dx gs)) ∧ Er (upd (upd (upd (upd H1 a (exo a C none)) dx (exd dx fs)) a (exo a C (some dx))) dx (exd dx gs)) a C gs := by
  rw [upd_ne ne] at hd
  refine ⟨fun b o hb => ?_, dx, ?_, upd_same⟩
  · rw [upd_ne (ne_of_none hb hd), upd_ne (ne_of_none hb hn), upd_ne (ne_of_none hb hd), upd_ne (ne_of_none hb hn)]
    exact hb
  · rw [upd_ne (Ne.symm ne), upd_same]
end TP

namespace TP
open PySem PySem.Spec PyProof.Rows L2
/-! ### sizes of data, by depth -/
structure Sz (B k : Nat) (d : PyData) : Prop where
  sh : d.showable = true
  wt : TP.wt d ≤ B
  dp : d.depth ≤ k
theorem Sz.mono {B C k j : Nat} {d : PyData} (h : Sz B k d) (l : B ≤ C) (m : k ≤ j) : Sz C j d := ⟨h.sh, Nat.le_trans h.wt l, Nat.le_trans h.dp m⟩
theorem Sz.rp {B k : Nat} {d : PyData} (h : Sz B k d) (hb : B ≤ 10000000 := by decide) (hk : k ≤ 50 := by decide) : d.showable = true ∧ d.depth ≤ 50 ∧ d.shown.length ≤ sizeLine :=
  ⟨h.sh, Nat.le_trans h.dp hk, Nat.le_trans (shown_wt d) (Nat.le_trans h.wt (Nat.le_trans hb (by rw [sizeLine_eq]; decide)))⟩
theorem Sz.non : Sz 5 0 .none := ⟨rfl, by decide, by decide⟩
theorem Sz.bl (b : Bool) : Sz 5 0 (.bool b) := ⟨rfl, Nat.le_refl _, by rw [PyData.depth]; exact Nat.le_refl _⟩
theorem Sz.nat {i : Int} (h0 : 0 ≤ i) (h : i < 10 ^ 100) : Sz 100 0 (.int i) := by
  have q := smInt h0 h
  exact ⟨q.sh, q.wt, by rw [PyData.depth]; exact Nat.le_refl _⟩
theorem Sz.int {i : Int} (h : i.natAbs < 10 ^ 100) : Sz 101 0 (.int i) := by
  refine ⟨?_, ?_, by rw [PyData.depth]; exact Nat.le_refl _⟩
  · show decide (i.natAbs.log2 < 1920) = true
    refine decide_eq_true ?_
    by_cases h1 : i.natAbs = 0
    · rw [h1]
      decide
    · exact Nat.lt_of_lt_of_le ((Nat.log2_lt h1).mpr (show i.natAbs < 2 ^ 400 by omega)) (by decide)
  · rw [TP.wt]
    show (Str.ofString (toString i)).length ≤ 101
    rw [PyProof.Rows.ofString_length]
    exact int_text_length_le10 (k := 100) (by decide) h
theorem Sz.str {B : Nat} {z : Str} (h : As B z) : Sz (10 * B + 2) 0 (.str z) := by
  have q := Sm.str h
  exact ⟨q.sh, q.wt, by rw [PyData.depth]; exact Nat.le_refl _⟩
theorem Sz.all {B k : Nat} : ∀ {l : List PyData}, (∀ d ∈ l, Sz B k d) → PyData.showableAll l = true ∧ wtAll l ≤ l.length * (B + 2) ∧ PyData.depthAll l ≤ k
  | [], _ => ⟨rfl, Nat.zero_le _, by rw [PyData.depthAll]; exact Nat.zero_le _⟩
  | d :: l, h => by
    have h1 := h d (.head _)
    obtain ⟨h2, h3, h4⟩ := Sz.all (l := l) fun e he => h e (.tail _ he)
    have h5 := h1.wt
    have h6 := h1.dp
    refine ⟨by rw [PyData.showableAll, h1.sh, h2]; rfl, ?_, ?_⟩
    · rw [wtAll, List.length_cons, Nat.add_mul]
      omega
    · rw [PyData.depthAll]
      omega
theorem Sz.lst {B k n : Nat} {l : List PyData} (h : ∀ d ∈ l, Sz B k d) (hn : l.length ≤ n) : Sz (n * (B + 2) + 3) (k + 1) (.list l) := by
  obtain ⟨h1, h2, h3⟩ := Sz.all h
  have := Nat.mul_le_mul hn (Nat.le_refl (B + 2))
  exact ⟨h1, by rw [TP.wt]; omega, by rw [PyData.depth]; omega⟩
theorem Sz.tup {B k n : Nat} {l : List PyData} (h : ∀ d ∈ l, Sz B k d) (hn : l.length ≤ n) : Sz (n * (B + 2) + 3) (k + 1) (.tuple l) := by
  obtain ⟨h1, h2, h3⟩ := Sz.all h
  have := Nat.mul_le_mul hn (Nat.le_refl (B + 2))
  exact ⟨h1, by rw [TP.wt]; omega, by rw [PyData.depth]; omega⟩
theorem Sz.kv {B k : Nat} : ∀ {l : List (PyData × PyData)}, (∀ d ∈ l, Sz B k d.1 ∧ Sz B k d.2) → PyData.showableKv l = true ∧ wtKv l ≤ l.length * (2 * B + 4) ∧ PyData.depthKv l ≤ k
  | [], _ => ⟨rfl, Nat.zero_le _, by rw [PyData.depthKv]; exact Nat.zero_le _⟩
  | (x, d) :: l, h => by
    obtain ⟨h0, h1⟩ := h (x, d) (.head _)
    obtain ⟨h2, h3, h4⟩ := Sz.kv (l := l) fun e he => h e (.tail _ he)
    have h5 := h1.wt
    have h6 := h1.dp
    have h7 := h0.wt
    have h8 := h0.dp
    dsimp only at h5 h6 h7 h8
    refine ⟨by rw [PyData.showableKv, h0.sh, h1.sh, h2]; rfl, ?_, ?_⟩
    · rw [wtKv, List.length_cons, Nat.add_mul]
      omega
    · rw [PyData.depthKv]
      omega
theorem Sz.dct {B k n : Nat} {l : List (PyData × PyData)} (h : ∀ d ∈ l, Sz B k d.1 ∧ Sz B k d.2) (hn : l.length ≤ n) : Sz (n * (2 * B + 4) + 3) (k + 1) (.dict l) := by
  obtain ⟨h1, h2, h3⟩ := Sz.kv h
  have := Nat.mul_le_mul hn (Nat.le_refl (2 * B + 4))
  exact ⟨h1, by rw [TP.wt]; omega, by rw [PyData.depth]; omega⟩
theorem forall1 {α : Type} {P : α → Prop} {a : α} (h : P a) : ∀ x ∈ [a], P x := fun x hx => by
  obtain rfl : x = a := by simpa using hx
  exact h
theorem forall2 {α : Type} {P : α → Prop} {a b : α} (h : P a) (g : P b) : ∀ x ∈ [a, b], P x := fun x hx => by
  rcases List.mem_cons.mp hx with rfl | hx
  · exact h
  · exact forall1 g x hx
theorem dpBls {K : PySem.W.Frag} {H : Hp} : ∀ l : List Bool, DpAll K H (l.map V.bl) (l.map PyData.bool)
  | [] => .nil
  | _ :: l => .cons (.bl _) (dpBls l)
theorem canBls : ∀ l : List Bool, PyData.canLayAll0 (l.map PyData.bool) = true ∧ PyData.depthAll (l.map PyData.bool) = 0 ∧ PyData.eqvAll (l.map PyData.bool) (l.map PyData.bool) = true
  | [] => ⟨rfl, rfl, rfl⟩
  | b :: l => by
    obtain ⟨h1, h2, h3⟩ := canBls l
    refine ⟨?_, ?_, ?_⟩
    · show (true && PyData.canLayAll0 (l.map PyData.bool)) = true
      rw [h1]
      rfl
    · show max 0 (PyData.depthAll _) = 0
      rw [h2]
      rfl
    · show ((b == b) && PyData.eqvAll (l.map PyData.bool) (l.map PyData.bool)) = true
      rw [h3]
      simp
theorem shapedBls (l : List Bool) : SeqAt.shaped (.list (l.map PyData.bool)) = true := by
  unfold SeqAt.shaped
  rw [show PyData.canLay0 (.list (l.map PyData.bool)) = true from (canBls l).1, show (PyData.list (l.map PyData.bool)).depth = PyData.depthAll (l.map PyData.bool) + 1 from rfl, (canBls l).2.1]
  decide
/-- a list of truths is as itself -/
theorem eqBls {K : PySem.W.Frag} {H : Hp} {p q : Addr} {l : List Bool} {xs ys : List V} {Q : VK} (h1 : H p = some (.lst xs)) (h2 : H q = some (.lst ys)) (e1 : xs = l.map V.bl) (e2 : ys = l.map V.bl) (k : Q (.bl true) H) : rEqD K (.ref p) (.ref q) H Q := by
  subst e1 e2
  refine ⟨_, _, .lst (SqL.of h1) (dpBls l), .lst (SqL.of h2) (dpBls l), shapedBls l, shapedBls l, ?_⟩
  rw [show PyData.eqv (.list (l.map PyData.bool)) (.list (l.map PyData.bool)) = true from (canBls l).2.2]
  exact k
/-! ### raise of an own error -/
theorem GtF.pmk {X : Cx} {e : Expr} {es : List Expr} {ta : TA} {x : Str} {p pos : Pos} {CX : CXT} {C : Addr} {k : Nat} {d : He.DefD} {ps : List Str} {sp : Sp} (T : OexC X.K C) (iC : PySem.W.findIn X.K (.ref C) "__init__" = some (some (.ref (He.fAd X.K d.at_))) ∧ PySem.W.typeIn X.K (.ref (He.fAd X.K d.at_)) = some (.type "function"))
    (G : GtF X.prog X.w X.K X.mg X.base CX k d ps sp) (hdf : d.dfl = []) (hbn : BindN d ps) (hm : X.mg x = some (.ref C)) (hr : Room (k + 1) X.A) (hx : Passes CX X (fun _ _ _ => False)) (ha : PA X (e :: es) ta) (hg : Gl X x := by rfl)
    (hdb : (x == ("__debug__" : Str)) = false := by decide) (he : starEach (e :: es) X.env = (false, eval e X.env) :: starEach es X.env := by rfl) (hpl : (backTo pos (starEach es X.env)).any (·.1) = false := by rfl) :
    PMk X (.Call (.Name x p) (e :: es) [] pos) (tMkO C sp [] ta) := by
  obtain ⟨fd, F1, hb⟩ := G.bn hdf hbn
  exact pmk_oex T iC.1 iC.2 F1 hr hb .nil hx hg hm ha hdb he hpl
end TP

namespace TP
open PySem PySem.Spec PyProof.Rows L2 PySem.SeqAt
/-! ### x == text, x any data -/
theorem dct_eq_txt (l : Addr) (es : Array DictEntry) (ep : Nat) (dd : Option Addr) (sl : Array (Option Value)) (b : Str) (u : Tok) :
    Meets (Builtin.«dict.__eq__» ⟨[.ref l, .str b u], []⟩) (fun _ R s => s.heap.get? l = some { cls := .type "dict", dict := dd, data := .dict es ep, slots := sl } ∧ R (.ok (.ret .notImplemented)) s) :=
  .of_wp fun prog w A R s h => by
    obtain ⟨hp, g, d, tk, os⟩ := s
    obtain ⟨hl, h⟩ := h
    have f1 := F.sub_str_dict
    wp_walk using wpAny_loadPart' hl
    exact ⟨_, rfl, h⟩
theorem txt_eq_dct (b : Str) (u : Tok) (l : Addr) (es : Array DictEntry) (ep : Nat) (dd : Option Addr) (sl : Array (Option Value)) :
    Meets (Builtin.«str.__eq__» ⟨[.str b u, .ref l], []⟩) (fun _ R s => s.heap.get? l = some { cls := .type "dict", dict := dd, data := .dict es ep, slots := sl } ∧ R (.ok (.ret .notImplemented)) s) :=
  .of_wp fun prog w A R s h => by
    obtain ⟨hp, g, d, tk, os⟩ := s
    obtain ⟨hl, h⟩ := h
    wp_walk using wpAny_loadPart' hl, wpAny_load hl
    exact ⟨_, rfl, h⟩
theorem rc_dct_txt {A : Around} {s : Shared} {l : Addr} {es : Array DictEntry} {ep : Nat} {dd : Option Addr} {sl : Array (Option Value)} (b : Str) (u : Tok) (ho : s.heap.get? l = some { cls := .type "dict", dict := dd, data := .dict es ep, slots := sl }) (hu : A.units < cLine) :
    RcAt A s (.ref l) (.str b u) false := fun prog w E Q h =>
  rc_eq_decline_or (k := false) ⟨_, ho, rfl⟩ (typeIs_str s b u) (by decide) F.sub_str_dict F.slot_dict_eq F.slot_str_eq_refl
    (fun _ q => call_meets F.slot_dict_eq ⟨_, ho, rfl⟩ F.entry_dict_eq (F.args_dict_eq_2 _ _) (dct_eq_txt l es ep dd sl b u) ⟨ho, q⟩)
    (fun _ q => call_meets F.slot_str_eq_refl (typeIs_str s b u) F.entry_str_eq (F.args_str_eq_2 _ _) (txt_eq_dct b u l es ep dd sl) ⟨ho, q⟩)
    (fun _ q => wpAny_of_eq (rfl : isSame (.ref l) (.str b u) = pure false) q) (.inr hu) h
def isTx (d : PyData) (z : Str) : Bool := match d with
  | .str y => decide (y = z)
  | _ => false
/-- x == z -/
def rEqS (K : PySem.W.Frag) : R2 := fun x y H Q => ∃ (d : PyData) (z : Str), y = .str z ∧ Dr K H x d ∧ Q (.bl (isTx d z)) H
theorem op_eqS {X : Cx} (hS : SysK X.K) (hu : X.A.units + 64 < cLine) : OpR X (compareOp .Eq) (rEqS X.K) := by
  intro pins s σ H x y v u Q I rx ry h
  obtain ⟨d, z, rfl, hd, q⟩ := h
  obtain ⟨as, r1, _⟩ := Dr.reads hS I d x v hd rx
  obtain ⟨t, rfl⟩ : ∃ t, u = Value.str z t := ry
  have hu0 : X.A.units < cLine := by omega
  have fin : ∀ b : Bool, b = isTx d z → EP X pins σ Q (.bool b) s := fun b e => ⟨.bl b, H, I, rfl, by rw [e]; exact q⟩
  cases r1 with
  | none => exact RcAt.none_str z t X.prog X.w X.xe _ (fin false rfl)
  | bool b => exact RcAt.bool_str b z t X.prog X.w X.xe _ (fin false rfl)
  | int i t' => exact RcAt.int_str i t' z t X.prog X.w X.xe _ (fin false rfl)
  | str x' t' =>
    refine RcAt.str_str x' t' z t X.prog X.w X.xe _ (fin _ ?_)
    show (x' == z) = decide (x' = z)
    by_cases e : x' = z
    · simp [e]
    · simp [e]
  | list k1 k2 k3 k4 => exact RcAt.list_str z t ⟨_, k1, k2, _, k3⟩ hu0 X.prog X.w X.xe _ (fin false rfl)
  | tuple k1 k2 k3 k4 => exact RcAt.tuple_str z t ⟨_, k1, k2, _, k3⟩ hu0 X.prog X.w X.xe _ (fin false rfl)
  | @dict a o es n kvs as bs k1 k2 k3 k4 k5 =>
    obtain ⟨oc, od, dt, sl⟩ := o
    dsimp only at k2 k3
    subst k2 k3
    exact rc_dct_txt z t k1 hu0 X.prog X.w X.xe _ (fin false rfl)
theorem ExcC.xf {K : PySem.W.Frag} {C : Addr} (h : ExcC K C) : XfC K C := ⟨h.hg, h.hk, h.hs, h.hd⟩
/-! ### isinstance of a caught error with fields -/
section
variable {X : Cx} {a C : Addr} {oe : Obj} {cls : Value} {d : Option Addr} {pn : List (Addr × Obj)}
theorem caught_at {pins : List (Addr × Obj)} {σ : L2.St} {H : Hp} {s : Shared} {dd : Addr} {fs : List (Str × V)} (hz : Zc (.ref C) (some dd) oe) (hf : ∃ vs, oe.data = .fields vs) (I : Inv (X.suite a ((a, oe) :: pn)) pins σ H s) (e : H dd = some (.xd fs)) :
    ∃ od, PySem.W.InstAt s.heap a oe C (some od) := by
  obtain ⟨ha, _⟩ := I.pin (a, oe) (List.mem_append_left _ List.mem_cons_self)
  obtain ⟨vs, hv⟩ := hf
  have hx : ObjOk X.prog X.w H s.heap dd (.xd fs) := I.hok dd _ e
  obtain ⟨mA, hns, hr⟩ := hx
  obtain ⟨od, ho, hl⟩ := lookIn_ns hns
  exact ⟨od, ha, hz.1, by unfold PySem.W.notCls; rw [hv] <;> rfl, by rw [hz.2]; exact ho⟩
theorem excC_cls {K : PySem.W.Frag} (T : ExcC K C) : (PySem.W.clsIn K C).isSome = true := by
  obtain ⟨cd, hc, _⟩ := PySem.W.any_some T.hd
  rw [hc]
  rfl
/-- isinstance(e, c), e caught -/
def rIsC (K : PySem.W.Frag) (a : Addr) (cls : Value) (d : Option Addr) : List V → Hp → VK → Prop := fun xs H Q => ∃ (C dd : Addr) (fs : List (Str × V)) (c : V) (cv : Value) (b : Bool), xs = [.ref a, c] ∧ cls = .ref C ∧ d = some dd ∧ H dd = some (.xd fs) ∧ ClsV c cv ∧ ExcC K C ∧
  PySem.W.kitOne K (.ref C) cv = some b ∧ Q (.bl b) H
theorem call_isC (hz : Zc cls d oe) (hf : ∃ vs, oe.data = .fields vs) : CallR (X.suite a ((a, oe) :: pn)) (.builtin "isinstance") (rIsC X.K a cls d) := by
  intro pins s σ H xs us Q I r h
  obtain ⟨C, dd, fs, c, cv, b, rfl, rfl, rfl, e0, hcv, T, e, q⟩ := h
  obtain ⟨u1, u2, rfl, r1, r2⟩ := vals2 r
  obtain rfl : u1 = Value.ref a := r1
  have ec := hcv.eq r2
  subst ec
  obtain ⟨od, J⟩ := caught_at hz hf I e0
  exact PySem.W.kia_one (PySem.W.kitx_exc (excC_cls T) T.hg T.hk T.hs T.ha T.hn T.ht T.hm) I.kIn J e (fun z => nomatch z) fun tk => ⟨.bl b, H, I.kept (t' := tk) fun _ _ z => z, rfl, q⟩
/-- isinstance(e, (c1, c2, ..)), e caught -/
def rIsCT (K : PySem.W.Frag) (a : Addr) (cls : Value) (d : Option Addr) : List V → Hp → VK → Prop := fun xs H Q => ∃ (C dd tp : Addr) (fs : List (Str × V)) (cs : List V) (us : List Value) (b : Bool), xs = [.ref a, .ref tp] ∧ cls = .ref C ∧ d = some dd ∧ H dd = some (.xd fs) ∧ H tp = some (.tup cs) ∧ Paired ClsV cs us ∧ ExcC K C ∧
  PySem.W.kitAny K (.ref C) us = some b ∧ Q (.bl b) H
theorem call_isCT (hz : Zc cls d oe) (hf : ∃ vs, oe.data = .fields vs) : CallR (X.suite a ((a, oe) :: pn)) (.builtin "isinstance") (rIsCT X.K a cls d) := by
  intro pins s σ H xs us Q I r h
  obtain ⟨C, dd, tp, fs, cs, ws, b, rfl, rfl, rfl, e0, hT, k, T, e, q⟩ := h
  obtain ⟨u1, u2, rfl, r1, r2⟩ := vals2 r
  obtain rfl : u1 = Value.ref a := r1
  cases (show u2 = Value.ref tp from r2)
  obtain ⟨od, J⟩ := caught_at hz hf I e0
  obtain ⟨_, its, rv, o, h1, h2, n, h3⟩ := (show ObjOk X.prog X.w H s.heap tp (.tup cs) from I.hok tp _ hT)
  have e3 := ClsV.all k rv
  subst e3
  obtain ⟨oc, ow, dt, sl⟩ := o
  simp only at h2 h3
  subst h2 h3
  exact PySem.W.kia_tup (PySem.W.kitx_exc (excC_cls T) T.hg T.hk T.hs T.ha T.hn T.ht T.hm) I.kIn J h1 e (fun z => nomatch z) fun tk => ⟨.bl b, H, I.kept (t' := tk) fun _ _ z => z, rfl, q⟩
end
section
variable {X : Cx} {CX : CXT} {k : Nat} {ps : List Str} {sp : Sp} {E : L2.St → XK} {x : Str} {p pos : Pos} {e : Expr} {es : List Expr} {t : TA}
/-- a call within a try -/
theorem Gt.peS (G : Gt X.prog X.w X.K X.mg X.base CX k x ps sp) (hr : Room k X.A) (hx : ∀ σ, PassesAt CX X σ (E σ)) (ha : PA X (e :: es) t) (hg : Gl X x := by rfl) (hdb : (x == ("__debug__" : Str)) = false := by decide)
    (he : starEach (e :: es) X.env = (false, eval e X.env) :: starEach es X.env := by rfl) (hpl : (backTo pos (starEach es X.env)).any (·.1) = false := by rfl) : PE X (.Call (.Name x p) (e :: es) [] pos) (tCallS sp E t) := by
  obtain ⟨f, fd, hm, hk, hb, F⟩ := G.ex
  exact pe_callS F hr hg hm hk hb hx ha hdb he hpl
end
end TP

namespace TP
open PySem PySem.Spec PyProof.Rows L2
/-! ### try with a first clause that names the error, and further ones: all that is raised is of the first -/
def wAs1 (K : PySem.W.Frag) (c : Value) (i : Nat) (ts : Addr → Value → Option Addr → TS) (D : Ends) : WX := fun cls d σ H =>
  PySem.W.exmOne K cls c = some true ∧ ∀ a, H a = none → ts a cls d ⟨fun σ' H' => D.nx (σ'.set i none) H', D.rt, fun σ' H' => D.bk (σ'.set i none) H', fun σ' H' => D.ct (σ'.set i none) H'⟩ (σ.set i (some (.ref a))) H
section
variable {X : Cx} {x n : Str} {c : Value} {i : Nat} {body suite : List Stmt} {b0 : Stmt} {hds : List ExceptHandler} {np pos pos' : Pos} {tb : WX → TS} {ts : Addr → Value → Option Addr → TS}
theorem sky_free {B h : Heap} {a : Addr} {o : Obj} {vs : Array Value} {es : List Env} (ff : h.FunFrames B es) (e : h.get? a = some o) (dd : o.data = .fields vs) : a ∉ frs es := fun hm => by
  obtain ⟨_, o2, e2, no⟩ := ff.mem hm
  rw [e] at e2
  cases e2
  exact no _ dd
theorem ps_try_as1 (hs : X.stack = X.env :: X.outer) (hf : X.env.frame = some X.env.locals) (hN : X.N.Nodup) (hi : X.N[i]? = some n) (hln : X.env.kindOf n = some .local) (hc : Names X x c)
    (hb : ∀ (W : WX) (pn : List (Addr × Obj)) (xe : Value → Shared → Prop), Takes (X.tr pn xe) W → PassesOwn (model X.prog X.w) X.A X.env xe → PSs (X.tr pn xe) body (tb W))
    (hsu : ∀ (a : Addr) (oe : Obj) (cls : Value) (d : Option Addr) (pn : List (Addr × Obj)), Zc cls d oe → (∃ vs, oe.data = .fields vs) → PSs (X.suite a ((a, oe) :: pn)) (b0 :: suite) (ts a cls d)) :
    PS X (.Try body (.ExceptHandler (some (.Name x np)) (some n) (b0 :: suite) pos' :: hds) [] [] pos) (fun D σ H => tb (wAs1 X.K c i ts D) D σ H) := by
  constructor
  intro pins s σ H D I h
  have ok := I.ok
  have fr : X.A.frames = some (X.env :: X.outer) := ok.frames.trans (by rw [hs])
  refine wpAny_Try_except ?_
  refine wpAny_mono ((hb (wAs1 X.K c i ts D) (X.pn ++ pins) (fun e s1 => wpAny (model X.prog X.w) X.A (noteFrame e X.env) (fun _ s2 => wpAny (model X.prog X.w) X.A (setFlight e none) (fun _ s3 =>
    wpAny (model X.prog X.w) X.A (handleBy e X.env (.ExceptHandler (some (.Name x np)) (some n) (b0 :: suite) pos' :: hds)) (SP X pins D) X.xe s3) X.xe s2) X.xe s1) (fun u s' xx => ?_) PassesOwn.looking).run [] s σ H D (I.toTry _) h) (fun f s1 q => ?_) (fun _ _ z => z)
  · obtain ⟨a, B, sI, p', σ', H', cls, d, rfl, J0, nb, up, sky, na, os, ag, hm, go⟩ := xx
    have J := J0.ofTry ok
    rw [show (X.tr (X.pn ++ pins) _).stack = X.env :: X.outer from hs] at sky
    refine Sky.land Zc.steady fr hf sky fun g1 f1 u1 => ?_
    have J1 : Inv X pins σ' H' { s' with heap := g1 } := J.landed nb f1.1 (up.trans u1) os ag
    obtain ⟨o1, v1, e1, z1, d1⟩ := f1.there
    have nfr := sky_free f1.2.2.1 e1 d1
    have nL : a ≠ X.env.locals := fun z => nfr (List.mem_filterMap.mpr ⟨X.env, List.mem_cons_self, by rw [hf, z]⟩)
    have nF : a ∉ X.fs := fun q => by
      obtain ⟨e, q1, q2⟩ := List.mem_filterMap.mp q
      exact nfr (List.mem_filterMap.mpr ⟨e, List.mem_cons_of_mem _ q1, q2⟩)
    have S1 := J1.suite e1 d1 na nL nF
    refine wpAny_handleBy_cons (codeAny_handlers_test ?_) (fun q => nomatch q)
    have lt : PySem.W.Looks (model X.prog X.w) g1 (typeOf (.ref a)) cls := fun _ _ _ _ k q => wpAny_typeOf_ref (k _ _ e1) (by rw [z1.1]; exact q)
    have named : ∀ {Q : Value → Shared → Prop} {E : Value → Shared → Prop}, Q c { s' with heap := g1 } → wpAny (model X.prog X.w) (X.A.mark (some (.ref a))) (eval (.Name x np) X.env) Q E { s' with heap := g1 } := by
      intro Q E q
      obtain ⟨k1, k2, k3 | ⟨k3, k4, k5⟩⟩ := hc
      · exact ld_glob (X := X.suite a ((a, o1) :: (X.pn ++ pins))) S1 k1 k3 q k2
      · exact ld_blt (X := X.suite a ((a, o1) :: (X.pn ++ pins))) S1 k1 k3 k4 q k5 k2
    refine named ((PySem.W.exm_one (M := model X.prog X.w) J1.kIn lt hm).here ?_)
    refine codeAny_handlers_suite_as (HandSPX.lands_againZ f1 fun g2 f2 u2 => ?_)
    have J2 : Inv X pins σ' H' { s' with heap := g2 } := J.landed nb f2.1 ((up.trans u1).trans u2) os ag
    obtain ⟨o2, v2, e2, z2, d2⟩ := f2.there
    refine store_ok (X := X.suite a ((a, o2) :: (X.pn ++ pins))) (v := .ref a) (J2.suite e2 d2 na nL nF) hN hi (.inl hln) rfl (fun s5 S5 => ?_) (.inr hln)
    refine wpAny_mono ((hsu a o2 cls d (X.pn ++ pins) z2 ⟨_, d2⟩).run [] s5 _ H' _ S5 (go a na)) (fun f s6 q => ?_) (fun _ _ z => z.elim)
    cases f with
    | next =>
      obtain ⟨σ6, H6, S6, q6⟩ := q
      exact gone_ok (S6.unsuite ok) hN hi hln fun s7 J7 => ⟨_, _, J7, q6⟩
    | brk =>
      obtain ⟨σ6, H6, S6, q6⟩ := q
      exact gone_ok (S6.unsuite ok) hN hi hln fun s7 J7 => ⟨_, _, J7, q6⟩
    | cont =>
      obtain ⟨σ6, H6, S6, q6⟩ := q
      exact gone_ok (S6.unsuite ok) hN hi hln fun s7 J7 => ⟨_, _, J7, q6⟩
    | ret u =>
      obtain ⟨v6, σ6, H6, S6, r6, q6⟩ := q
      exact gone_ok (S6.unsuite ok) hN hi hln fun s7 J7 => ⟨_, _, _, J7, r6, q6⟩
  · cases f with
    | next =>
      obtain ⟨σ1, H1, J1, q⟩ := q
      exact wpAny_execs_nil ⟨σ1, H1, J1.ofTry ok, q⟩
    | brk =>
      obtain ⟨σ1, H1, J1, q⟩ := q
      exact ⟨σ1, H1, J1.ofTry ok, q⟩
    | cont =>
      obtain ⟨σ1, H1, J1, q⟩ := q
      exact ⟨σ1, H1, J1.ofTry ok, q⟩
    | ret u =>
      obtain ⟨v, σ1, H1, J1, r, q⟩ := q
      exact ⟨v, σ1, H1, J1.ofTry ok, r, q⟩
end
/-! ### a def that may raise, where it does not -/
theorem cr_no {P : Program} {w : World} {outer : List Env} {H : Hp} {s : Shared} {Q : VK} {r : Result} {s' : Shared} (h : CR (L2.CX P w) outer P w H s Q (fun _ _ _ => False) r s') (E : XK) : CR CX0 outer P w H s Q E r s' := by
  cases r with
  | error e =>
    obtain ⟨_, _, _, _, _, _, _, _, _, _, _, _, z⟩ := h
    exact z.elim
  | ok f => cases f <;> exact h
theorem fn_no {P : Program} {w : World} {K : PySem.W.Frag} {mg : Str → Option Value} {base : Heap} {k : Nat} {f : Addr} {fd : FuncData} {ps : List Str} {sp : Sp} (F : FnOk P w K mg base (L2.CX P w) k f fd ps sp) : FnOk P w K mg base CX0 k f fd ps (fun vs H Q _ => sp vs H Q fun _ _ _ => False) :=
  ⟨fun vs H Q E h => F.len vs H Q _ h, fun A outer s H args us vs Q E hr h0 hb r h => codeAny_mono (F.run A outer s H args us vs Q _ hr h0 hb r h) fun r s' q => cr_no q E⟩
theorem GtF.no {P : Program} {w : World} {K : PySem.W.Frag} {mg : Str → Option Value} {base : Heap} {k : Nat} {d : He.DefD} {ps : List Str} {sp : Sp} (G : GtF P w K mg base (L2.CX P w) k d ps sp) : GtF P w K mg base CX0 k d ps (fun vs H Q _ => sp vs H Q fun _ _ _ => False) := by
  obtain ⟨fd, h1, h2⟩ := G.ex
  exact ⟨fd, h1, fn_no h2⟩
theorem Gt.no {P : Program} {w : World} {K : PySem.W.Frag} {mg : Str → Option Value} {base : Heap} {k : Nat} {x : Str} {ps : List Str} {sp : Sp} (G : Gt P w K mg base (L2.CX P w) k x ps sp) : Gt P w K mg base CX0 k x ps (fun vs H Q _ => sp vs H Q fun _ _ _ => False) := by
  obtain ⟨f, fd, h1, h2, h3, h4⟩ := G.ex
  exact ⟨f, fd, h1, h2, h3, fn_no h4⟩
/-! ### rules of any things -/
def badOf : List (Str × Int) → List PyData → Option Str
  | (z, l) :: ks, d :: ds => if isFromD d l = true then badOf ks ds else some z
  | _, _ => none
abbrev LSl : List (Str × Int) := [("since", 0), ("base", 0), ("step", 1), ("more", 0), ("leg", 0), ("kept", 0), ("back", 0)]
theorem bad_step {ks : List (Str × Int)} {ds : List PyData} {i : Nat} {z : Str} {l : Int} {d : PyData} (h1 : ks[i]? = some (z, l)) (h2 : ds[i]? = some d) :
    badOf (ks.drop i) (ds.drop i) = if isFromD d l = true then badOf (ks.drop (i + 1)) (ds.drop (i + 1)) else some z := by
  obtain ⟨i1, e1⟩ := List.getElem?_eq_some_iff.mp h1
  obtain ⟨i2, e2⟩ := List.getElem?_eq_some_iff.mp h2
  rw [List.drop_eq_getElem_cons i1, List.drop_eq_getElem_cons i2, e1, e2]
  rfl
theorem rule_key {i : Nat} {x : V} (hi : i < 7) (h1 : (LKs[i]?).map V.str = some x) : ∃ (z : Str) (l : Int), x = .str z ∧ LSl[i]? = some (z, l) ∧ (z, He.Dv.int l) ∈ LKv := by
  have h : ∀ i : Nat, i < 7 → ∃ q, LKs[i]? = some q ∧ ∃ l : Int, LSl[i]? = some (q, l) ∧ (q, He.Dv.int l) ∈ LKv := by
    intro i hi
    match i, hi with
    | 0, _ => exact ⟨_, rfl, _, rfl, by simp [LKv]⟩
    | 1, _ => exact ⟨_, rfl, _, rfl, by simp [LKv]⟩
    | 2, _ => exact ⟨_, rfl, _, rfl, by simp [LKv]⟩
    | 3, _ => exact ⟨_, rfl, _, rfl, by simp [LKv]⟩
    | 4, _ => exact ⟨_, rfl, _, rfl, by simp [LKv]⟩
    | 5, _ => exact ⟨_, rfl, _, rfl, by simp [LKv]⟩
    | 6, _ => exact ⟨_, rfl, _, rfl, by simp [LKv]⟩
  obtain ⟨q, e1, l, e2, e3⟩ := h i hi
  rw [e1] at h1
  exact ⟨q, l, (Option.some.inj h1).symm, e2, e3⟩
abbrev V7 := V × V × V × V × V × V × V
def rfs (u0 u1 u2 u3 u4 u5 u6 : V) : List (Str × V) := [("since", u0), ("base", u1), ("step", u2), ("more", u3), ("leg", u4), ("kept", u5), ("back", u6)]
/-- a rule is made of anything -/
def spRuleX (K : PySem.W.Frag) : Sp := fun vs H Q E => ∃ (x dx : Addr) (u0 u1 u2 u3 u4 u5 u6 : V) (ds : List PyData), vs = [.ref x, u0, u1, u2, u3, u4, u5, u6] ∧ DrAll K H [u0, u1, u2, u3, u4, u5, u6] ds ∧ H x = some (.ins (He.ga K "Rule") dx []) ∧
  (badOf LSl ds = none → ∀ H', Wk x H H' → H' x = some (.ins (He.ga K "Rule") dx (rfs u0 u1 u2 u3 u4 u5 u6)) → Q .non H') ∧
  (∀ z, badOf LSl ds = some z → ∀ d H', Evl.Ex H H' → H d = none → H' d = some (.xd [("at", .str z)]) → E (.ref (eC K "NoRule")) (some d) H')
/-- the heap behind a raise -/
theorem raised {H : Hp} {a C dx : Addr} {fs : List (Str × V)} (hn : H a = none) (hd : upd H a (exo a C none) dx = none) (ne : dx ≠ a) :
    Evl.Ex H (upd (del (upd (upd (upd H a (exo a C none)) dx (exd dx fs)) a (exo a C (some dx))) a) dx (.xd fs)) ∧ H dx = none := by
  rw [upd_ne ne] at hd
  refine ⟨fun b o hb => ?_, hd⟩
  have n1 := ne_of_none hb hn
  have n2 := ne_of_none hb hd
  rw [upd_ne n2, del_ne n1, upd_ne n1, upd_ne n2, upd_ne n1]
  exact hb
end TP

namespace TP
open PySem PySem.Spec PyProof.Rows L2
/-! ### comprehensions by any invariant over all but the new list -/
theorem hid_upd {D : Addr} {H : Hp} {o : HO} : hid D (upd H D o) = hid D H := by
  funext b
  by_cases h : b = D
  · rw [h, hid_same, hid_same]
  · rw [hid_ne h, hid_ne h, upd_ne h]
theorem hid_free {D : Addr} {H : Hp} (h : H D = none) : hid D H = H := by
  funext b
  by_cases e : b = D
  · rw [e, hid_same, h]
  · rw [hid_ne e]
theorem Ex.hid {D : Addr} {H H' : Hp} (e : Evl.Ex H H') : Evl.Ex (hid D H) (hid D H') := (Ex.wk D e).hx
theorem lc_acc {J : It} {n : Nat} {G : Hp → Prop} {Y : Nat → Hp → V → Hp → Prop} (w : Walk J n G Y) {g : TG} {tt : TT} {te : TE} {vs : List Nat} {σ : L2.St} {H1 : Hp} {D : Addr} {Qd : Hp → Prop} (I : Nat → List V → Hp → Prop)
    (hD : H1 D = none) (hn : n < 1000000) (hl : ∀ i acc H, I i acc H → acc.length ≤ i) (h0 : I 0 [] H1) (hG : ∀ i acc H, H D = some (.lst acc) → I i acc (hid D H) → G H)
    (hs : ∀ (i : Nat) (x : V) (H H' : Hp) (acc : List V) (C : V → Hp → Prop) (N : Hp → Prop), i < n → H D = some (.lst acc) → I i acc (hid D H) → Y i H x H' → (∀ y H4, H4 D = some (.lst acc) → I (i + 1) (acc ++ [y]) (hid D H4) → C y H4) →
      (∀ H3, H3 D = some (.lst acc) → I (i + 1) acc (hid D H3) → N H3) → g x (wipe σ vs) H' fun σ2 H2 => wipe σ2 vs = wipe σ vs ∧ tt σ2 H2 fun b H3 => if b = true then te σ2 H3 C else N H3)
    (hd : ∀ H' acc, H' D = some (.lst acc) → I n acc (hid D H') → Qd H') :
    ∃ W : Nat → Nat → Hp → Prop, (∃ m, W 0 m (upd H1 D (.lst []))) ∧ ∀ i m H, W i m H →
      (J.stop i H ∧ Qd H) ∨ (J.go i H ∧ ∃ Nx : Hp → Prop, (∀ H', Nx H' → ∃ m', m' < m ∧ W (i + 1) m' H') ∧ ∀ x H', J.yld i H x H' → g x (wipe σ vs) H' fun σ2 H2 => wipe σ2 vs = wipe σ vs ∧ tt σ2 H2 fun b H3 =>
        if b = true then te σ2 H3 fun y H4 => ∃ acc, H4 D = some (.lst acc) ∧ acc.length < sizeLine ∧ Nx (upd H4 D (.lst (acc ++ [y]))) else Nx H3) := by
  refine lc_it w (fun i H => ∃ acc, H D = some (.lst acc) ∧ I i acc (hid D H)) ⟨[], upd_same, by rw [hid_upd, hid_free hD]; exact h0⟩ (fun i H _ ⟨acc, q1, q2⟩ => hG i acc H q1 q2) (fun i x H H' hi ⟨acc, q1, q2⟩ y => ?_) (fun H ⟨acc, q1, q2⟩ => hd H acc q1 q2)
  refine hs i x H H' acc _ _ hi q1 q2 y (fun v H4 e1 e2 => ⟨acc, e1, ?_, acc ++ [v], upd_same, by rw [hid_upd]; exact e2⟩) (fun H3 e1 e2 => ⟨acc, e1, e2⟩)
  have := hl i acc _ q2
  have : sizeLine = 16777216 := sizeLine_eq
  omega
/-! ### dicts of pairs -/
theorem putK_new {kvs : List (Key × V)} {k : Key} {v : V} (h : k ∉ kvs.map (·.1)) : putK kvs k v = kvs ++ [(k, v)] := by
  unfold putK
  rw [if_neg]
  intro e
  obtain ⟨q, hq, e⟩ := List.any_eq_true.mp e
  exact h (List.mem_map.mpr ⟨q, hq, of_decide_eq_true e⟩)
theorem mergeK_nodup : ∀ {more kvs : List (Key × V)}, ((kvs ++ more).map (·.1)).Nodup → mergeK kvs more = kvs ++ more
  | [], kvs, _ => by rw [List.append_nil]; rfl
  | (k, v) :: more, kvs, h => by
    show mergeK (putK kvs k v) more = _
    have hk : k ∉ kvs.map (·.1) := by
      rw [List.map_append, List.map_cons] at h
      intro z
      exact (List.nodup_append.mp h).2.2 k z k (List.mem_cons_self ..) rfl
    rw [putK_new hk, mergeK_nodup (by rw [List.append_assoc]; exact h), List.append_assoc]
    rfl
theorem paired_at {α β : Type} {R : α → β → Prop} : ∀ {xs : List α} {ys : List β}, xs.length = ys.length → (∀ (i : Nat) x y, xs[i]? = some x → ys[i]? = some y → R x y) → Paired R xs ys
  | [], [], _, _ => .nil
  | x :: xs, y :: ys, hl, h => .cons (h 0 x y rfl rfl) (paired_at (by simpa using hl) fun i a b e1 e2 => h (i + 1) a b e1 e2)
/-! ### what is new -/
def nw (H H' : Hp) : Hp := fun b => match H b with
  | none => H' b
  | some _ => none
theorem nw_of {H H' : Hp} {b : Addr} {o : HO} (h : H b = none) (h' : H' b = some o) : nw H H' b = some o := by
  unfold nw
  rw [h]
  exact h'
theorem nw_ne {H H' : Hp} {b c : Addr} {o u : HO} (h : nw H H' b = some o) (hc : H c = some u) : b ≠ c := fun z => by
  unfold nw at h
  rw [z, hc] at h
  cases h
theorem nw_ex {H H' : Hp} : Evl.Ex (nw H H') H' := fun b o h => by
  unfold nw at h
  cases e : H b with
  | none =>
    rw [e] at h
    exact h
  | some u =>
    rw [e] at h
    cases h
theorem nw_hid {H H' G : Hp} {a : Addr} {u : HO} (e : Evl.Ex (nw H H') G) (ha : H a = some u) : Evl.Ex (nw H H') (hid a G) := fun b o h => by
  rw [hid_ne (nw_ne h ha)]
  exact e b o h
theorem Wl.hid {H : Hp} {a D : Addr} {n : Nat} (h : Wl H a n) (ne : a ≠ D) : Wl (hid D H) a n := by
  obtain ⟨x, y, c, e, r⟩ := h
  exact ⟨x, y, c, by rw [hid_ne ne]; exact e, r⟩
theorem Wk.hid {a D : Addr} {H H' : Hp} (k : Wk a H H') : Wk a (hid D H) (hid D H') := fun b o nb h => by
  by_cases e : b = D
  · rw [e, hid_same] at h
    cases h
  · rw [hid_ne e] at h ⊢
    exact k b o nb h
theorem hid_hid_ex {a b : Addr} {H : Hp} : Evl.Ex (TP.hid a (TP.hid b H)) H := hid_ex.trans hid_ex
theorem nil_at {α : Type} {j : Nat} {x : α} {P : Prop} (h : ([] : List α)[j]? = some x) : P := absurd h (by simp)
/-- a row that has grown by one -/
theorem snoc_at {α : Type} {xs : List α} {x y : α} {j : Nat} (h : (xs ++ [x])[j]? = some y) : xs[j]? = some y ∨ (j = xs.length ∧ y = x) := by
  by_cases hj : j < xs.length
  · rw [List.getElem?_append_left hj] at h
    exact .inl h
  · rw [List.getElem?_append_right (by omega)] at h
    have hj0 : j - xs.length = 0 := by
      rcases Nat.eq_zero_or_pos (j - xs.length) with q | q
      · exact q
      · rw [List.getElem?_eq_none (by show 1 ≤ _; omega)] at h
        cases h
    rw [hj0] at h
    exact .inr ⟨by omega, (Option.some.inj h).symm⟩
end TP

namespace TP
open PySem PySem.Spec PyProof.Rows L2
/-! ### len(set(row of texts)) -/
def ddK (σ : List Str) (k : Str) : List Str := if σ.any (· == k) = true then σ else σ ++ [k]
def firsts (xs : List Str) : List Str := xs.foldl ddK []
theorem dd_any (σ : List Str) (v k : Str) : (ddK σ v).any (· == k) = (σ.any (· == k) || decide (k = v)) := by
  unfold ddK
  by_cases e : k = v
  · subst e
    by_cases h : σ.any (· == k) = true
    · rw [if_pos h, h]
      rfl
    · rw [if_neg h, List.any_append]
      simp
  · rw [decide_eq_false e, Bool.or_false]
    by_cases h : σ.any (· == v) = true
    · rw [if_pos h]
    · have q : (v == k) = false := by simpa using (fun z : v = k => e z.symm)
      rw [if_neg h, List.any_append]
      simp [q]
theorem dd_len (σ : List Str) (v : Str) : (ddK σ v).length = if σ.any (· == v) = true then σ.length else σ.length + 1 := by
  unfold ddK
  by_cases h : σ.any (· == v) = true
  · rw [if_pos h, if_pos h]
  · rw [if_neg h, if_neg h, List.length_append]
    rfl
theorem firsts_snoc {xs : List Str} {i : Nat} (h : i < xs.length) : firsts (xs.take (i + 1)) = ddK (firsts (xs.take i)) (xs.getD i Str.empty) := by
  unfold firsts
  rw [List.take_succ_eq_append_getElem h, List.foldl_append, List.getD_eq_getElem?_getD, List.getElem?_eq_getElem h]
  rfl
theorem firsts_le (xs : List Str) : ∀ i, i ≤ xs.length → (firsts (xs.take i)).length ≤ i
  | 0, _ => by rw [List.take_zero]; exact Nat.le_refl _
  | i + 1, h => by
    have := firsts_le xs i (by omega)
    rw [firsts_snoc (by omega), dd_len]
    split <;> omega
theorem firsts_nodup {xs : List Str} (h : xs.Nodup) : firsts xs = xs := by
  have key : ∀ (ys acc : List Str), (acc ++ ys).Nodup → ys.foldl ddK acc = acc ++ ys := by
    intro ys
    induction ys with
    | nil =>
      intro acc _
      rw [List.append_nil]
      rfl
    | cons y ys ih =>
      intro acc hn
      have q : ddK acc y = acc ++ [y] := by
        unfold ddK
        rw [if_neg]
        intro e
        obtain ⟨z, hz, e⟩ := List.any_eq_true.mp e
        have e : z = y := by simpa using e
        exact (List.nodup_append.mp hn).2.2 z hz y (List.mem_cons_self ..) e
      rw [List.foldl_cons, q, ih _ (by rw [List.append_assoc]; exact hn), List.append_assoc]
      rfl
  exact key xs [] h
/-- the row is gone through, each text is added -/
theorem addAll {prog : Program} {w : World} {A : Around} {R : Result → Shared → Prop} {J : Addr} {fp wr : List Addr} {G : Array GenState → Array GenState → Prop} {n : Nat} {P : Nat → Value → Prop} {St : Nat → Shared → Prop}
    (W : WalksS prog w A.in1 J fp wr G n P St) (S : Addr) (nS : S ∉ fp) (xs : List Str) (hn : xs.length = n) (few : n < 60) (tx : ∀ i v, P i v → ∃ t, v = .str (xs.getD i Str.empty) t) :
    ∀ (m i : Nat) (s : Shared), n - i = m → i ≤ n → St i s → s.heap.SetOf (strKind prog w) S (fun k => (firsts (xs.take i)).any (· == k)) (firsts (xs.take i)).length →
      (∀ s', Moved (S :: wr) G s s' → s'.heap.SetOf (strKind prog w) S (fun k => (firsts (xs.take n)).any (· == k)) (firsts (xs.take n)).length → R (.ok (.ret .none)) s') →
      codeAny (model prog w) A (.builtin "set.update.loop" ⟨[.ref S, .ref J], []⟩) R s := by
  have nw' : S ∉ wr := fun h => nS (W.sub _ h)
  have sub : ∀ b ∈ wr, b ∈ S :: wr := fun b h => List.mem_cons_of_mem _ h
  have keep : ∀ {s s' : Shared} {T : Str → Bool} {c : Nat}, Moved wr G s s' → s.heap.SetOf (strKind prog w) S T c → s'.heap.SetOf (strKind prog w) S T c := fun mv h => by
    obtain ⟨o, es, ep, tb, e, r⟩ := h
    exact ⟨o, es, ep, tb, mv.heap S _ nw' e, r⟩
  intro m
  induction m with
  | zero =>
    intro i s e1 e2 st hS hR
    obtain rfl : i = n := by omega
    refine codeAny_builtin PyProof.Rows.F.entry_set_update_loop ?_
    rw [Around.under_plainId PyProof.Rows.F.plain_set_update_loop _]
    exact wpAny_bind (W.done s _ _ st fun s' mv => wpAny_pure (hR s' (mv.mono sub) (keep mv hS)))
  | succ m ih =>
    intro i s e1 e2 st hS hR
    have lt : i < n := by omega
    refine codeAny_builtin PyProof.Rows.F.entry_set_update_loop ?_
    rw [Around.under_plainId PyProof.Rows.F.plain_set_update_loop _]
    refine wpAny_bind (W.item i s _ _ lt st fun v s' p st' mv => ?_)
    obtain ⟨t, rfl⟩ := tx i v p
    refine wpAny_bind (wpAny_holding ?_)
    unfold setAdd
    refine wpAny_holding (wpAny_bind ((strKind prog w).pyHash (k := xs.getD i Str.empty) (strKind_is _ _ _ _) ?_))
    have room : (firsts (xs.take i)).length + 1 < scanBound := by
      have := firsts_le xs i (by omega)
      unfold scanBound
      omega
    refine wpAny_setAddHashed_of (knd := strKind prog w) (s := { s' with toks := s'.toks + 1 }) (strKind_is _ _ _ _) rfl (keep (s' := s') mv hS) room fun h' but hS2 => ?_
    have hS3 : h'.SetOf (strKind prog w) S (fun k => (firsts (xs.take (i + 1))).any (· == k)) (firsts (xs.take (i + 1))).length :=
      SetOf_congr hS2 (fun k => by rw [firsts_snoc (by omega), dd_any]) (by rw [firsts_snoc (by omega), dd_len])
    refine wpAny_pure ⟨plainId_quiet PyProof.Rows.F.plain_set_update_loop _, ih (i + 1) _ (by omega) lt (W.frame _ s' _ _ st' (Nat.le_succ _) fun b hb o e => ?_) hS3 fun s2 mv2 q2 => ?_⟩
    · exact (but.2 b (fun z => nS (by rw [← z]; exact hb))).trans e
    · exact hR s2 (Moved.trans W.gtrans ((mv.mono sub).then_heap (Nat.le_succ _) fun b o hb e => (but.2 b (fun z => hb (by rw [z]; exact List.mem_cons_self))).trans e) mv2) q2
abbrev newSet (led : Bool) : Obj := { cls := .type "set", dict := none, data := .set #[] 0 (.fresh 0 0 led) }
/-- set(xs), xs a list of texts -/
theorem set_of_list {prog : Program} {w : World} {A : Around} {E : Value → Shared → Prop} {s : Shared} {l : Addr} {its : Array Value} {xs : List Str} {Q : Value → Shared → Prop} (hh : A.handled = none) (hl : s.heap.IsList l its) (hi : StrsAre its.toList xs) (few : xs.length < 60)
    (h : ∀ (h' : Heap) (tk : Nat), h'.SetOf (strKind prog w) s.heap.objs.size (fun k => (firsts xs).any (· == k)) (firsts xs).length → (∀ b o, b < s.heap.objs.size → s.heap.get? b = some o → h'.get? b = some o) → Q (.ref s.heap.objs.size) { s with heap := h', toks := tk }) :
    wpAny (model prog w) A (call (.type "set") [.ref l]) Q E s := by
  obtain ⟨c0, c1, mro⟩ := PySem.F.called_set.mro
  have made := PySem.F.called_set.made
  have sub0 := PySem.F.called_set.sub
  have not := PySem.F.called_set.notType
  have can := PySem.F.called_set.canCreate
  have tc := PySem.F.typeCall_set_1 (.ref l)
  refine wpAny_call (codeAny_of_tree (wpAny_pure ⟨Code.quiet_builtin _ (by decide +kernel), codeAny_builtin PySem.F.entry_type_call ?_⟩))
  rw [Around.under_plain (weight_type_call_type "set" [.ref l] []) rfl]
  repeat (any_goals (first | assumption | wp_step))
  refine codeAny_mono (code_set_new_1 (.ref l) (E := E) (Q₁ := fun ob s1 => ∃ led : Bool, ob = .ref s.heap.objs.size ∧ s1 = { s with heap := s.heap.push (newSet led) }) fun led => ⟨led, rfl, rfl⟩) fun r s1 hr => ?_
  cases r with
  | error e => exact hr
  | ok fl =>
    cases fl with
    | next => exact hr.elim
    | brk => exact hr.elim
    | cont => exact hr.elim
    | ret ob =>
      obtain ⟨led, rfl, rfl⟩ := hr
      have at0 : (s.heap.push (newSet led)).get? s.heap.objs.size = some (newSet led) := Heap.get?_push_size _ rfl
      have ty0 : Shared.TypeIs { s with heap := s.heap.push (newSet led) } (.ref s.heap.objs.size) "set" := ⟨_, at0, rfl⟩
      have li := PySem.F.called_set.init.lookup
      have bi := PySem.F.called_set.init.bind (.ref s.heap.objs.size)
      repeat (any_goals (first | assumption | wp_step))
      refine codeAny_mono (codeAny_call_builtin (R := wants (fun r s2 => r = .none ∧ ∃ h' tk, s2 = { s with heap := h', toks := tk } ∧ h'.SetOf (strKind prog w) s.heap.objs.size (fun k => (firsts xs).any (· == k)) (firsts xs).length ∧
          ∀ b o, b < s.heap.objs.size → s.heap.get? b = some o → h'.get? b = some o) E) PySem.F.called_set.init.plain PySem.F.entry_set_init (check_set_init_1 ty0 ?_)) fun r2 s2 hr2 => ?_
      · obtain ⟨⟨oc, od, odt, os⟩, ho, k1, nl, k2⟩ := hl
        dsimp only at k1 k2
        subst k1 k2
        have at1 : (s.heap.push (newSet led)).get? l = some { cls := .type "list", dict := od, data := .seq its nl, slots := os } := Heap.get?_push_of_some _ ho
        have b1 := PySem.F.sub_list_set
        have b2 := PySem.F.sub_list_frozenset
        have b3 : (Value.type "list" == Value.type "dict") = false := by decide
        have row : (s.heap.push (newSet led)).IsList l its := ⟨_, at1, rfl, nl, rfl⟩
        unfold Builtin.«set.__init__» noKeywords Builtin.Frozenset.updateFrom
        generalize hp : pyIter = PI
        wp_walk
        subst hp
        refine wpAny_pyIter_list row (wpAny_bind (wpAny_runValue ?_))
        have ls : l < s.heap.objs.size := Heap.lt_size ho
        have sz : xs.length = its.size := by rw [← StrsAre.len_eq hi, Array.length_toList]
        have e1 : (s.heap.push (newSet led)).objs.size = s.heap.objs.size + 1 := Heap.size_push ..
        refine addAll ((Walks.list (by simp [hh]) _ l (by rw [e1]; exact Nat.ne_of_lt (Nat.lt_succ_of_lt ls)) its).toS) s.heap.objs.size (by
            rw [e1]
            simp only [List.mem_cons, List.not_mem_nil, or_false, not_or]
            exact ⟨Nat.ne_of_lt (Nat.lt_succ_self _), Nat.ne_of_gt ls⟩) xs sz (by omega) (fun i v hv => SS.strs_at hi i v (by rw [Array.getElem?_toList]; exact hv)) (its.size - 0) 0 _ (by omega) (Nat.zero_le _)
          ⟨⟨_, Heap.get?_push_size _ rfl, rfl, rfl⟩, row.push _⟩ ?_ ?_
        · exact SetOf_congr ((setObjOf_fresh (knd := strKind prog w) led).setOf (Heap.get?_push_of_some _ at0) (by unfold scanBound; omega)) (fun _ => rfl) rfl
        · intro s' mv q
          obtain ⟨h', g', d', tk', os'⟩ := s'
          obtain rfl : g' = s.gens := mv.gens
          obtain rfl : d' = s.drawn := mv.drawn
          obtain rfl : os' = s.os := mv.os
          rw [← sz, List.take_length] at q
          refine wpAny_pure (wpAny_pure ⟨rfl, h', tk', rfl, q, fun b o hb e => ?_⟩)
          refine mv.heap b o ?_ (Heap.get?_push_of_some _ (Heap.get?_push_of_some _ e))
          rw [e1]
          simp only [List.mem_cons, List.not_mem_nil, or_false, not_or]
          exact ⟨Nat.ne_of_lt hb, Nat.ne_of_lt (Nat.lt_succ_of_lt hb)⟩
      · cases r2 with
        | error e => exact hr2
        | ok fl2 =>
          cases fl2 with
          | next => exact hr2.elim
          | brk => exact hr2.elim
          | cont => exact hr2.elim
          | ret r =>
            obtain ⟨rfl, h', tk, rfl, q1, q2⟩ := hr2
            repeat (any_goals (first | assumption | wp_step))
            exact h _ _ q1 q2
/-- set(xs), xs a tuple of texts -/
theorem set_of_tuple {prog : Program} {w : World} {A : Around} {E : Value → Shared → Prop} {s : Shared} {l : Addr} {its : Array Value} {xs : List Str} {Q : Value → Shared → Prop} (hh : A.handled = none) (hl : s.heap.IsTuple l its) (hi : StrsAre its.toList xs) (few : xs.length < 60)
    (h : ∀ (h' : Heap) (tk : Nat), h'.SetOf (strKind prog w) s.heap.objs.size (fun k => (firsts xs).any (· == k)) (firsts xs).length → (∀ b o, b < s.heap.objs.size → s.heap.get? b = some o → h'.get? b = some o) → Q (.ref s.heap.objs.size) { s with heap := h', toks := tk }) :
    wpAny (model prog w) A (call (.type "set") [.ref l]) Q E s := by
  obtain ⟨c0, c1, mro⟩ := PySem.F.called_set.mro
  have made := PySem.F.called_set.made
  have sub0 := PySem.F.called_set.sub
  have not := PySem.F.called_set.notType
  have can := PySem.F.called_set.canCreate
  have tc := PySem.F.typeCall_set_1 (.ref l)
  refine wpAny_call (codeAny_of_tree (wpAny_pure ⟨Code.quiet_builtin _ (by decide +kernel), codeAny_builtin PySem.F.entry_type_call ?_⟩))
  rw [Around.under_plain (weight_type_call_type "set" [.ref l] []) rfl]
  repeat (any_goals (first | assumption | wp_step))
  refine codeAny_mono (code_set_new_1 (.ref l) (E := E) (Q₁ := fun ob s1 => ∃ led : Bool, ob = .ref s.heap.objs.size ∧ s1 = { s with heap := s.heap.push (newSet led) }) fun led => ⟨led, rfl, rfl⟩) fun r s1 hr => ?_
  cases r with
  | error e => exact hr
  | ok fl =>
    cases fl with
    | next => exact hr.elim
    | brk => exact hr.elim
    | cont => exact hr.elim
    | ret ob =>
      obtain ⟨led, rfl, rfl⟩ := hr
      have at0 : (s.heap.push (newSet led)).get? s.heap.objs.size = some (newSet led) := Heap.get?_push_size _ rfl
      have ty0 : Shared.TypeIs { s with heap := s.heap.push (newSet led) } (.ref s.heap.objs.size) "set" := ⟨_, at0, rfl⟩
      have li := PySem.F.called_set.init.lookup
      have bi := PySem.F.called_set.init.bind (.ref s.heap.objs.size)
      repeat (any_goals (first | assumption | wp_step))
      refine codeAny_mono (codeAny_call_builtin (R := wants (fun r s2 => r = .none ∧ ∃ h' tk, s2 = { s with heap := h', toks := tk } ∧ h'.SetOf (strKind prog w) s.heap.objs.size (fun k => (firsts xs).any (· == k)) (firsts xs).length ∧
          ∀ b o, b < s.heap.objs.size → s.heap.get? b = some o → h'.get? b = some o) E) PySem.F.called_set.init.plain PySem.F.entry_set_init (check_set_init_1 ty0 ?_)) fun r2 s2 hr2 => ?_
      · obtain ⟨⟨oc, od, odt, os⟩, ho, k1, nl, k2⟩ := hl
        dsimp only at k1 k2
        subst k1 k2
        have at1 : (s.heap.push (newSet led)).get? l = some { cls := .type "tuple", dict := od, data := .seq its nl, slots := os } := Heap.get?_push_of_some _ ho
        have b1 := PySem.F.sub_tuple_set
        have b2 := PySem.F.sub_tuple_frozenset
        have b3 : (Value.type "tuple" == Value.type "dict") = false := by decide
        have row : (s.heap.push (newSet led)).IsTuple l its := ⟨_, at1, rfl, nl, rfl⟩
        unfold Builtin.«set.__init__» noKeywords Builtin.Frozenset.updateFrom
        generalize hp : pyIter = PI
        wp_walk
        subst hp
        refine wpAny_pyIter_tuple row (wpAny_bind (wpAny_runValue ?_))
        have ls : l < s.heap.objs.size := Heap.lt_size ho
        have sz : xs.length = its.size := by rw [← StrsAre.len_eq hi, Array.length_toList]
        have e1 : (s.heap.push (newSet led)).objs.size = s.heap.objs.size + 1 := Heap.size_push ..
        refine addAll ((Walks.tuple (by simp [hh]) _ l (by rw [e1]; exact Nat.ne_of_lt (Nat.lt_succ_of_lt ls)) its).toS) s.heap.objs.size (by
            rw [e1]
            simp only [List.mem_cons, List.not_mem_nil, or_false, not_or]
            exact ⟨Nat.ne_of_lt (Nat.lt_succ_self _), Nat.ne_of_gt ls⟩) xs sz (by omega) (fun i v hv => SS.strs_at hi i v (by rw [Array.getElem?_toList]; exact hv)) (its.size - 0) 0 _ (by omega) (Nat.zero_le _)
          ⟨⟨_, Heap.get?_push_size _ rfl, rfl, rfl⟩, row.push _⟩ ?_ ?_
        · exact SetOf_congr ((setObjOf_fresh (knd := strKind prog w) led).setOf (Heap.get?_push_of_some _ at0) (by unfold scanBound; omega)) (fun _ => rfl) rfl
        · intro s' mv q
          obtain ⟨h', g', d', tk', os'⟩ := s'
          obtain rfl : g' = s.gens := mv.gens
          obtain rfl : d' = s.drawn := mv.drawn
          obtain rfl : os' = s.os := mv.os
          rw [← sz, List.take_length] at q
          refine wpAny_pure (wpAny_pure ⟨rfl, h', tk', rfl, q, fun b o hb e => ?_⟩)
          refine mv.heap b o ?_ (Heap.get?_push_of_some _ (Heap.get?_push_of_some _ e))
          rw [e1]
          simp only [List.mem_cons, List.not_mem_nil, or_false, not_or]
          exact ⟨Nat.ne_of_lt hb, Nat.ne_of_lt (Nat.lt_succ_of_lt hb)⟩
      · cases r2 with
        | error e => exact hr2
        | ok fl2 =>
          cases fl2 with
          | next => exact hr2.elim
          | brk => exact hr2.elim
          | cont => exact hr2.elim
          | ret r =>
            obtain ⟨rfl, h', tk, rfl, q1, q2⟩ := hr2
            repeat (any_goals (first | assumption | wp_step))
            exact h _ _ q1 q2
def tLenSetN (K : PySem.W.Frag) (ta : TE) : TE := fun σ H Q => ta σ H fun x H1 => ∃ (l : Addr) (xs : List Str), x = .ref l ∧ (SqL K H1 l (xs.map V.str) ∨ SqT K H1 l (xs.map V.str)) ∧ xs.length < 60 ∧ Q (.int (firsts xs).length) H1
theorem pe_lenSetN {X : Cx} {a : Expr} {ta : TE} {p p2 q pos : Pos} (hc : X.calm = true) (hg : Gl X "len") (hm : X.mg "len" = none) (hg2 : Gl X "set") (hm2 : X.mg "set" = none) (ha : PE X a ta)
    (na : starEach [a] X.env = (false, eval a X.env) :: starEach [] X.env := by rfl) : PE X (.Call (.Name "len" p) [.Call (.Name "set" p2) [a] [] q] [] pos) (tLenSetN X.K ta) := by
  constructor
  intro pins s σ H Q I h
  refine Call_ (ld_blt I hg hm boot_len (PyProof.Rows.callWith_builtin1 (PyProof.Rows.args_cons ?_ rfl) rfl rfl))
  refine Call_ (ld_blt I hg2 hm2 boot_set (PyProof.Rows.callWith_type1 (PyProof.Rows.args_cons (thn (ha.run pins s σ H _ I h) fun v s1 z => PyProof.Rows.args_nil ?_) na) na rfl))
  obtain ⟨x, H1, I1, r1, l, xs, rfl, hq, few, k⟩ := z
  cases r1
  have fl : (firsts xs).length ≤ xs.length := by
    have := firsts_le xs xs.length (Nat.le_refl _)
    rwa [List.take_length] at this
  have fin : ∀ (h' : Heap) (tk : Nat), h'.SetOf (strKind X.prog X.w) s1.heap.objs.size (fun k => (firsts xs).any (· == k)) (firsts xs).length → (∀ b o, b < s1.heap.objs.size → s1.heap.get? b = some o → h'.get? b = some o) →
      wpAny (model X.prog X.w) X.A (spliced (backTo pos (starEach [] X.env))) (fun vs s2 => wpAny (model X.prog X.w) X.A (call (.builtin "len") (Value.ref s1.heap.objs.size :: vs)) (EP X pins σ Q) X.xe s2) X.xe { s1 with heap := h', toks := tk } := by
    intro h' tk hS hk
    refine PyProof.Rows.args_nil ?_
    obtain ⟨o, es, ep, t, ho, hex, hd, _, _, _, hf, hn⟩ := hS
    have I2 : Inv X pins σ H1 { s1 with heap := h', toks := tk } := I1.kept fun b o e => hk b o (Heap.lt_size e) e
    exact call_len_set ho hex hd hf (by rw [hn]; omega) ⟨.int (firsts xs).length, H1, I2.tok _, ⟨_, by rw [hn]⟩, k⟩
  rcases hq with hq | hq
  · obtain ⟨its, r, pl, hz⟩ := I1.list hq
    exact set_of_list (I1.ok.hd hc) pl.isList (by simpa using strsAre_of r) few fin
  · obtain ⟨its, r, pl, hz⟩ := I1.tuple hq
    exact set_of_tuple (I1.ok.hd hc) pl (by simpa using strsAre_of r) few fin
end TP

namespace TP
open PySem PySem.Spec PyProof.Rows L2
section
variable {X : Cx} {CX : CXT} {k n : Nat} {d : He.DefD} {C : Addr} {ps ks : List Str} {sp : Sp} {E : XK} {x m f : Str} {p pos apos : Pos} {o e : Expr} {es : List Expr} {kws : List Keyword} {t tk : TA} {ta : TE} {js is : List Nat}
/-- o.m(k = v, ..) within a comprehension: the written part by its name -/
theorem GtF.methKL (K : PySem.W.Frag) (G : GtF X.prog X.w X.K X.mg X.base CX k d ps sp) (B : Kb d ps 1 ks js is) (c : Cls X.K C) (hm : Meth X.K C m (He.fAd X.K d.at_)) (hr : Room k X.A) (hx : Passes CX X E) (he : PE X o ta) (hkw : PK X kws tk) {pl : Sem Bool} (hK : X.K = K := by rfl)
    (hall : (backToKw pos (keywordEach kws X.env)).all (·.1.isSome) = true := by rfl) (hks : (backToKw pos (keywordEach kws X.env)).filterMap (·.1) = ks := by rfl)
    (hpl : ((backTo pos (starEach [] X.env)).any (·.1) || (backToKw pos (keywordEach kws X.env)).any (·.1.isNone)) = false := by rfl)
    (ht : eval (.Call (.Attribute o m apos) [] kws pos) X.env = (do
      let ov ← eval o X.env
      standAt apos.atName
      let (f, first) ← holding [ov] (getMethod ov m pl)
      callWith pos f first (backTo pos (starEach [] X.env)) (backToKw pos (keywordEach kws X.env))) := by rfl) :
    PE X (.Call (.Attribute o m apos) [] kws pos) (tMethK C m ks.length sp (gK d js is K) E ta tk) := by
  subst hK
  exact GtF.methK (pl := pl) G B c hm hr hx he hkw hall hks hpl ht
theorem pe_fldL (K : PySem.W.Frag) (he : PE X e ta) (hb : attributeBase e f X.env (eval e X.env) = eval e X.env) (hK : X.K = K := by rfl) : PE X (.Attribute e f pos) (tFld K ta f) := by
  subst hK
  exact pe_fld he hb
end
theorem in_two {i m : Int} (h : i = 0 ∨ i = m) : inV (.int i) [.int 0, .int m] = true := by
  rcases h with rfl | rfl <;> simp [inV, eqV]
/-! ### fees by parts -/
theorem fee_leg (r : RN) (wt lg : Int) (c : Bool) : r.fee wt (lg + 1) c = r.fee wt lg c + r.l := by
  unfold RN.fee
  rw [Int.mul_add, Int.mul_one]
  omega
theorem fee_step {r : RN} (ok : r.ok) (wt lg : Int) (c : Bool) : r.fee (wt + r.st) lg c = r.fee wt lg c + r.m := by
  unfold RN.fee
  have h := ok.st
  rw [show wt + r.st - 1 = wt - 1 + 1 * r.st by omega, Int.add_mul_ediv_right _ _ (by omega), Int.mul_add, Int.mul_one]
  omega
theorem fee_first {r : RN} (ok : r.ok) (wt lg : Int) (c : Bool) : r.fee (wt - (wt - 1) % r.st) lg c = r.fee wt lg c := by
  unfold RN.fee
  have h := ok.st
  have e : (wt - (wt - 1) % r.st - 1) / r.st = (wt - 1) / r.st := by
    have h1 := Int.emod_add_mul_ediv (wt - 1) r.st
    rw [show wt - (wt - 1) % r.st - 1 = (wt - 1) / r.st * r.st by rw [Int.mul_comm]; omega]
    exact Int.mul_ediv_cancel _ (by omega)
  rw [e]
theorem fee_next {r : RN} (ok : r.ok) (wt lg : Int) (c : Bool) : r.fee (wt + 1) lg c - r.fee wt lg c = 0 ∨ r.fee (wt + 1) lg c - r.fee wt lg c = r.m := by
  unfold RN.fee
  have h := ok.st
  have e : (wt + 1 - 1) / r.st = (wt - 1) / r.st ∨ (wt + 1 - 1) / r.st = (wt - 1) / r.st + 1 := by
    have h1 : (wt - 1) / r.st ≤ (wt + 1 - 1) / r.st := Int.ediv_le_ediv (by omega) (by omega)
    have h2 : (wt + 1 - 1) / r.st ≤ (wt - 1 + 1 * r.st) / r.st := Int.ediv_le_ediv (by omega) (by omega)
    rw [Int.add_mul_ediv_right _ _ (by omega)] at h2
    omega
  rcases e with e | e
  · left
    rw [e]
    omega
  · right
    rw [e, Int.mul_add, Int.mul_one]
    omega
theorem fee_by {r : RN} (b wt lg : Int) (c : Bool) (s bk : Int) : RN.fee ⟨s, r.b * b, r.st, r.m * b, r.l * b, r.k * b, bk⟩ wt lg c = r.fee wt lg c * b := by
  unfold RN.fee
  simp only [Int.add_mul, Int.mul_right_comm]
  cases c <;> simp
theorem fee_parts (r : RN) (wt lg : Int) (c : Bool) : RN.fee ⟨0, r.b, r.st, 0, 0, 0, 0⟩ wt lg c + (RN.fee ⟨0, 0, r.st, r.m, 0, 0, 0⟩ wt lg c + (RN.fee ⟨0, 0, r.st, 0, r.l, 0, 0⟩ wt lg c + (RN.fee ⟨0, 0, r.st, 0, 0, r.k, 0⟩ wt lg c + 0))) = r.fee wt lg c := by
  unfold RN.fee
  cases c <;> simp <;> omega
theorem fee_kept (r : RN) (wt lg : Int) : r.fee wt lg true = r.fee wt lg false + r.k := by
  unfold RN.fee
  simp
end TP

namespace TP
open PySem PySem.Spec PyProof.Rows L2
/-! ### empty tuples as defaults -/
def kwAd (f : Str × Option Str) (x : Str) (K : PySem.W.Frag) : Addr := match K.lookup (He.fAd K f) with
  | some ⟨_, _, .func fd, _⟩ => (match fd.kwdefaults with
    | .ref D => (match PySem.W.nsIn K D x with
      | some (some (.ref a)) => a
      | _ => 0)
    | _ => 0)
  | _ => 0
def emB (K : PySem.W.Frag) (a : Addr) : Bool := match K.lookup a with
  | some ⟨.type t, _, .seq its _, _⟩ => decide (t = "tuple") && its.isEmpty
  | _ => false
theorem emB_ok {K : PySem.W.Frag} {a : Addr} (h : emB K a = true) (H : Hp) : SqT K H a [] := by
  unfold emB at h
  split at h
  · rename_i t dd its n sl ho
    obtain ⟨h1, h2⟩ := Bool.and_eq_true_iff.mp h
    obtain rfl : t = "tuple" := of_decide_eq_true h1
    have e : its = #[] := by simpa using h2
    subst e
    exact .inr ⟨_, #[], n, ho, rfl, rfl, Nat.zero_le _, .nil⟩
  · cases h
/-! ### isinstance with an own class -/
def insB (K : PySem.W.Frag) (x : Str) : Bool := He.eqO (PySem.W.findIn K (.ref (He.ga K x)) "__class__") (some (some (.builtin "object.__class__"))) && (He.eqO (PySem.W.specialIn K (.builtin "object.__class__") "__get__") (some (some (.builtin "getset_descriptor.__get__"))) &&
  (decide (PySem.W.takesIn K (.builtin "object.__class__") = some true) && (decide (PySem.W.mroIn K (He.ga K x) (.type "object") = some true) && (decide (PySem.W.kitOne K (.ref (He.ga K x)) (.ref (He.ga K x)) = some true) &&
    tyNs.all fun t => decide (PySem.W.kitOne K (.type t) (.ref (He.ga K x)) = some false)))))
structure InsC (K : PySem.W.Frag) (x : Str) : Prop where
  ha : PySem.W.findIn K (.ref (He.ga K x)) "__class__" = some (some (.builtin "object.__class__"))
  hn : PySem.W.specialIn K (.builtin "object.__class__") "__get__" = some (some (.builtin "getset_descriptor.__get__"))
  ht : PySem.W.takesIn K (.builtin "object.__class__") = some true
  hm : PySem.W.mroIn K (He.ga K x) (.type "object") = some true
  hk : PySem.W.kitOne K (.ref (He.ga K x)) (.ref (He.ga K x)) = some true
  no : ∀ t ∈ tyNs, PySem.W.kitOne K (.type t) (.ref (He.ga K x)) = some false
theorem insB_ok {K : PySem.W.Frag} {x : Str} (h : insB K x = true) : InsC K x := by
  obtain ⟨h1, h⟩ := He.ba h
  obtain ⟨h2, h⟩ := He.ba h
  obtain ⟨h3, h⟩ := He.ba h
  obtain ⟨h4, h⟩ := He.ba h
  obtain ⟨h5, h6⟩ := He.ba h
  exact ⟨He.eqO_ok h1, He.eqO_ok h2, of_decide_eq_true h3, of_decide_eq_true h4, of_decide_eq_true h5, fun t ht => of_decide_eq_true (List.all_eq_true.mp h6 t ht)⟩
theorem InsC.ty {K : PySem.W.Frag} {x : Str} {H : Hp} {a dx : Addr} {fs : List (Str × V)} (I : InsC K x) (c : Cls K (He.ga K x)) (h : H a = some (.ins (He.ga K x) dx fs)) : TyX K H (.ref a) (.ref (He.ga K x)) := .base (.ins h c I.ha I.hn I.ht I.hm)
/-! ### rows: lists or tuples -/
def Rw (K : PySem.W.Frag) (H : Hp) (a : Addr) (xs : List V) : Prop := SqL K H a xs ∨ SqT K H a xs
def RIt (K : PySem.W.Frag) (H : Hp) (a : Addr) (xs : List V) (J : It) : Prop := (SqL K H a xs ∧ J = Itl K a) ∨ (SqT K H a xs ∧ J = Itt K a)
def iRow (K : PySem.W.Frag) (tl : TE) : TI := fun σ H R => tl σ H fun x H1 => ∃ a xs, x = .ref a ∧ Rw K H1 a xs ∧ ∀ J, RIt K H1 a xs J → R J H1
theorem pi_row {X : Cx} {tg l : Expr} {tl : TE} (hl : PE X l tl) : PI X tg l (iRow X.K tl) := by
  constructor
  intro pins s σ H R I h
  refine thn (hl.run pins s σ H _ I h) fun v s1 z => ?_
  obtain ⟨x, H1, I1, r1, a, xs, rfl, hq, q⟩ := z
  cases r1
  have fresh : ∀ b ∈ [s1.heap.objs.size], b = s1.heap.objs.size := fun b hb => by simpa using hb
  have kp : ∀ o, Inv X pins σ H1 { s1 with heap := s1.heap.push o } := fun o => I1.kept (t' := s1.toks) fun b o e => Heap.get?_push_of_some _ e
  rcases hq with hq | hq
  · obtain ⟨its, rv, p, hz⟩ := I1.list hq
    refine wpAny_pyIter_list p.isList ⟨s1.heap.objs.size, [s1.heap.objs.size], _, _, H1, rfl, kp _, turn_list a _, ⟨_, Heap.get?_push_size _ rfl, rfl, rfl⟩, fun b hb => ?_, q _ (.inl ⟨hq, rfl⟩)⟩
    obtain rfl := fresh b hb
    exact I1.fpOk (Nat.le_refl _) (I1.hok.fresh (Nat.le_refl _))
  · obtain ⟨its, rv, p, hz⟩ := I1.tuple hq
    refine wpAny_pyIter_tuple (show s1.heap.IsTuple a its.toArray from p) ⟨s1.heap.objs.size, [s1.heap.objs.size], _, _, H1, rfl, kp _, turn_tuple a _, ⟨_, Heap.get?_push_size _ rfl, rfl, rfl⟩, fun b hb => ?_, q _ (.inr ⟨hq, rfl⟩)⟩
    obtain rfl := fresh b hb
    exact I1.fpOk (Nat.le_refl _) (I1.hok.fresh (Nat.le_refl _))
theorem rd_stay {H H' : Hp} {a : Addr} {u : HO} (e : ∀ o, H a = some o → H' a = some o) (h : Rd H a u) : Rd H' a u := by
  rcases h with h | ⟨o, h⟩
  · exact .inl (e _ h)
  · exact .inr ⟨o, e _ h⟩
theorem sql_stay {K : PySem.W.Frag} {H H' : Hp} {a : Addr} {xs : List V} (e : ∀ o, H a = some o → H' a = some o) (h : SqL K H a xs) : SqL K H' a xs := by
  rcases h with h | h
  · exact .inl (rd_stay e h)
  · exact .inr h
theorem sqt_stay {K : PySem.W.Frag} {H H' : Hp} {a : Addr} {xs : List V} (e : ∀ o, H a = some o → H' a = some o) (h : SqT K H a xs) : SqT K H' a xs := by
  rcases h with h | h
  · exact .inl (rd_stay e h)
  · exact .inr h
theorem Rw.stay {K : PySem.W.Frag} {H H' : Hp} {a : Addr} {xs : List V} (e : ∀ o, H a = some o → H' a = some o) (h : Rw K H a xs) : Rw K H' a xs := by
  rcases h with h | h
  · exact .inl (sql_stay e h)
  · exact .inr (sqt_stay e h)
theorem Rw.ex {K : PySem.W.Frag} {H H' : Hp} {a : Addr} {xs : List V} (h : Rw K H a xs) (e : Evl.Ex H H') : Rw K H' a xs := h.stay fun o q => e _ _ q
theorem sqt_ex {K : PySem.W.Frag} {H H' : Hp} {a : Addr} {xs : List V} (h : SqT K H a xs) (e : Evl.Ex H H') : SqT K H' a xs := sqt_stay (fun o q => e _ _ q) h
theorem sql_ex {K : PySem.W.Frag} {H H' : Hp} {a : Addr} {xs : List V} (h : SqL K H a xs) (e : Evl.Ex H H') : SqL K H' a xs := sql_stay (fun o q => e _ _ q) h
theorem walk_row {K : PySem.W.Frag} {H : Hp} {a : Addr} {xs : List V} {J : It} (h : RIt K H a xs J) : ∃ G : Hp → Prop, Walk J xs.length G (YAt xs) ∧ ∀ H', (∀ o, H a = some o → H' a = some o) → G H' := by
  rcases h with ⟨h, rfl⟩ | ⟨h, rfl⟩
  · exact ⟨_, walk_list (K := K) (a := a) (xs := xs), fun H' e => sql_stay e h⟩
  · exact ⟨_, walk_tup (K := K) (a := a) (xs := xs), fun H' e => sqt_stay e h⟩
/-- is_row -/
def isRowT (t : String) : Bool := decide (t = "list") || decide (t = "tuple")
theorem sql_ty {K : PySem.W.Frag} {H : Hp} {a : Addr} {xs : List V} (h : SqL K H a xs) : TyX K H (.ref a) (.type "list") := by
  rcases h with (a | ⟨o, a⟩) | a
  · exact .base (.lst a)
  · exact .base (.frz a)
  · obtain ⟨o, its, n, h1, h2, _⟩ := a
    exact .kList h1 h2
theorem sqt_ty {K : PySem.W.Frag} {H : Hp} {a : Addr} {xs : List V} (h : SqT K H a xs) : TyX K H (.ref a) (.type "tuple") := by
  rcases h with (a | ⟨o, a⟩) | a
  · exact .base (.tup a)
  · exact .fTuple a
  · obtain ⟨o, its, n, h1, h2, _⟩ := a
    exact .kTuple h1 h2
theorem Rw.ty {K : PySem.W.Frag} {H : Hp} {a : Addr} {xs : List V} (h : Rw K H a xs) : ∃ t, t ∈ tyNs ∧ isRowT t = true ∧ ∀ H', Evl.Ex H H' → TyX K H' (.ref a) (.type t) := by
  rcases h with h | h
  · exact ⟨"list", by simp [tyNs], rfl, fun H' e => sql_ty (sql_stay (fun o q => e _ _ q) h)⟩
  · exact ⟨"tuple", by simp [tyNs], rfl, fun H' e => sqt_ty (sqt_stay (fun o q => e _ _ q) h)⟩
def spRow (K : PySem.W.Frag) : Sp := fun vs H Q _ => ∃ (x : V) (t : String), vs = [x] ∧ t ∈ tyNs ∧ (∀ H', Evl.Ex H H' → TyX K H' x (.type t)) ∧ ∀ H', Evl.Ex H H' → Q (.bl (isRowT t)) H'
theorem kit_row {K : PySem.W.Frag} {t : String} (h : t ∈ tyNs) : PySem.W.kitAny K (.type t) [.type "list", .type "tuple"] = some (isRowT t) := by
  have h1 := kit_ty (K := K) (kit_tab t h "list" (by simp))
  have h2 := kit_ty (K := K) (kit_tab t h "tuple" (by simp))
  unfold PySem.W.kitAny isRowT
  rw [h1]
  cases decide (t = "list")
  · show PySem.W.kitAny K (.type t) [.type "tuple"] = _
    unfold PySem.W.kitAny
    rw [h2]
    cases decide (t = "tuple") <;> rfl
  · rfl
/-- is_between -/
def isBetwD (d : PyData) (l m : Int) : Bool := match d with
  | .int i => decide (l ≤ i) && decide (i ≤ m)
  | _ => false
def spBetw (K : PySem.W.Frag) : Sp := fun vs H Q _ => ∃ (x : V) (d : PyData) (l m : Int), vs = [x, .int l, .int m] ∧ Dr K H x d ∧ Q (.bl (isBetwD d l m)) H
/-! ### houses, streets, roads -/
structure HsOk (hs : List Str) : Prop where
  lo : 1 ≤ hs.length
  hi : hs.length ≤ 8
  nm : ∀ z ∈ hs, NmP z
  nd : hs.Nodup
def spHouses (K : PySem.W.Frag) : Sp := fun vs H Q _ => ∃ (a : Addr) (hs : List Str), vs = [.ref a] ∧ Rw K H a (hs.map V.str) ∧ HsOk hs ∧ ∀ H', Evl.Ex H H' → Q (.bl true) H'
def ssK (ss : List (Str × Str)) : List (Key × V) := ss.map fun q => (.inr q.1, .str q.2)
structure SsOk (hs : List Str) (ss : List (Str × Str)) : Prop where
  lo : 1 ≤ ss.length
  hi : ss.length ≤ 20
  nm : ∀ q ∈ ss, NmP q.1 ∧ NmP q.2 ∧ q.2 ∈ hs
  nd : (ss.map (·.1)).Nodup
def spStreets (K : PySem.W.Frag) : Sp := fun vs H Q _ => ∃ (a h : Addr) (ss : List (Str × Str)) (hs : List Str), vs = [.ref a, .ref h] ∧ H a = some (.dK (ssK ss)) ∧ Rw K H h (hs.map V.str) ∧ a ≠ h ∧ SsOk hs ss ∧ ∀ H', Evl.Ex H H' → Q (.bl true) H'
structure RD where
  b : Str
  g : Str
  f : Int
  e : Int
  t : Int
def RD.vs (r : RD) : List V := [.str r.b, .str r.g, .int r.f, .int r.e, .int r.t]
structure RD.ok (hs : List Str) (r : RD) : Prop where
  nb : NmP r.b
  ng : NmP r.g
  ne : r.b ≠ r.g
  hb : r.b ∈ hs
  hg : r.g ∈ hs
  f0 : 0 ≤ r.f
  e1 : 1 ≤ r.e
  t1 : 1 ≤ r.t
def spRoad (K : PySem.W.Frag) : Sp := fun vs H Q _ => ∃ (p h : Addr) (r : RD) (hs : List Str), vs = [.ref p, .ref h] ∧ SqT K H p r.vs ∧ Rw K H h (hs.map V.str) ∧ r.ok hs ∧ ∀ H', Evl.Ex H H' → Q (.bl true) H'
def rqV (rq : List (Addr × RD)) : List V := rq.map fun q => V.ref q.1
def spRoads (K : PySem.W.Frag) : Sp := fun vs H Q _ => ∃ (a h : Addr) (rq : List (Addr × RD)) (hs : List Str), vs = [.ref a, .ref h] ∧ Rw K H a (rqV rq) ∧ (∀ q ∈ rq, SqT K H q.1 q.2.vs ∧ q.2.ok hs) ∧ rq.length ≤ 16 ∧ Rw K H h (hs.map V.str) ∧ ∀ H', Evl.Ex H H' → Q (.bl true) H'
theorem inV_str {z : Str} {hs : List Str} : inV (.str z) (hs.map V.str) = decide (z ∈ hs) := by
  unfold inV
  induction hs with
  | nil => rfl
  | cons y hs ih =>
    rw [List.map_cons, List.any_cons, ih]
    by_cases e : y = z
    · subst e
      simp [eqV]
    · have e2 : eqV (.str y) (.str z) = false := by simp [eqV, e]
      rw [e2, Bool.false_or]
      refine decide_eq_decide.mpr ⟨fun h => List.mem_cons_of_mem _ h, fun h => ?_⟩
      rcases List.mem_cons.mp h with h | h
      · exact absurd h.symm e
      · exact h
theorem flat_strs' (hs : List Str) : (hs.map V.str).all flatV = true := by
  rw [List.all_eq_true]
  intro x hx
  obtain ⟨z, _, rfl⟩ := List.mem_map.mp hx
  rfl
theorem map_at {α β : Type} {f : α → β} {l : List α} {i : Nat} {y : β} (h : (l.map f)[i]? = some y) : ∃ x, l[i]? = some x ∧ y = f x := by
  rw [List.getElem?_map] at h
  cases e : l[i]? with
  | none =>
    rw [e] at h
    cases h
  | some x =>
    rw [e] at h
    exact ⟨x, rfl, (Option.some.inj h).symm⟩
/-! ### rules -/
def uqV (uq : List (Addr × RN)) : List V := uq.map fun q => V.ref q.1
def rising : List Int → Bool
  | a :: b :: l => decide (a < b) && rising (b :: l)
  | _ => true
def rulesOk : List Int → Bool
  | [] => false
  | t :: l => decide (t = 0) && rising (t :: l)
def spRules (K : PySem.W.Frag) : Sp := fun vs H Q _ => ∃ (a : Addr) (uq : List (Addr × RN)), vs = [.ref a] ∧ Rw K H a (uqV uq) ∧ (∀ q ∈ uq, Ru K H q.1 q.2) ∧ uq.length ≤ 60 ∧ ∀ H', Evl.Ex H H' → Q (.bl (rulesOk (uq.map fun q => q.2.s))) H'
/-! ### reaching -/
inductive Rc (ps : List (Str × Str)) (h : Str) : Str → Prop
  | here : Rc ps h h
  | step {b g : Str} : Rc ps h b → (b, g) ∈ ps → Rc ps h g
def pqV (pq : List (Addr × Str × Str)) : List V := pq.map fun q => V.ref q.1
def pqP (pq : List (Addr × Str × Str)) : List (Str × Str) := pq.map fun q => q.2
def spReached (K : PySem.W.Frag) : Sp := fun vs H Q _ => ∃ (a : Addr) (pq : List (Addr × Str × Str)) (h : Str), vs = [.ref a, .str h] ∧ SqL K H a (pqV pq) ∧ (∀ q ∈ pq, SqT K H q.1 [.str q.2.1, .str q.2.2]) ∧ pq.length ≤ 100 ∧
  ∀ (l : Addr) (f : List Str) H', Evl.Ex H H' → H' l = some (.lst (f.map V.str)) → f.Nodup → (∀ z, z ∈ f ↔ Rc (pqP pq) h z) → f.length ≤ 200 → Q (.ref l) H'
def sw (ps : List (Str × Str)) : List (Str × Str) := ps.map fun q => (q.2, q.1)
def rdP (rq : List (Addr × RD)) : List (Str × Str) := rq.map fun q => (q.2.b, q.2.g)
def Tied (hs : List Str) (ps : List (Str × Str)) : Prop := ∀ h0 ∈ hs.head?, ∀ z ∈ hs, Rc ps h0 z ∧ Rc (sw ps) h0 z
def spTied (K : PySem.W.Frag) : Sp := fun vs H Q _ => ∃ (h a : Addr) (hs : List Str) (rq : List (Addr × RD)), vs = [.ref h, .ref a] ∧ Rw K H h (hs.map V.str) ∧ HsOk hs ∧ Rw K H a (rqV rq) ∧ (∀ q ∈ rq, SqT K H q.1 q.2.vs ∧ q.2.ok hs) ∧ rq.length ≤ 16 ∧
  ∀ (b : Bool) H', Evl.Ex H H' → (b = true ↔ Tied hs (rdP rq)) → Q (.bl b) H'
theorem rc_len {hs f : List Str} {ps : List (Str × Str)} {h0 : Str} (hnd : hs.Nodup) (h0m : h0 ∈ hs) (hp : ∀ q ∈ ps, q.2 ∈ hs) (fnd : f.Nodup) (hf : ∀ z, z ∈ f ↔ Rc ps h0 z) : f.length = hs.length ↔ ∀ z ∈ hs, Rc ps h0 z := by
  have sub : ∀ z ∈ f, z ∈ hs := fun z hz => by
    have := (hf z).mp hz
    induction this with
    | here => exact h0m
    | step _ q _ => exact hp _ q
  constructor
  · intro e z hz
    refine (hf z).mp ?_
    refine Classical.byContradiction fun no => ?_
    have n1 : (z :: f).Nodup := List.nodup_cons.mpr ⟨no, fnd⟩
    have s1 : z :: f ⊆ hs := fun y hy => by
      rcases List.mem_cons.mp hy with rfl | hy
      · exact hz
      · exact sub y hy
    have := n1.length_le_of_subset s1
    rw [List.length_cons] at this
    omega
  · intro h
    have p : f.Perm hs := (List.perm_ext_iff_of_nodup fnd hnd).mpr fun z => ⟨sub z, fun hz => (hf z).mpr (h z hz)⟩
    exact p.length_eq
def rLenS (K : PySem.W.Frag) : List V → Hp → VK → Prop := fun xs H Q => ∃ p ys, xs = [.ref p] ∧ (SqL K H p ys ∨ SqT K H p ys) ∧ Q (.int ys.length) H
theorem call_lenS {X : Cx} : CallR X (.builtin "len") (rLenS X.K) := call_len_seq
/-- a comprehension that gives True at each turn -/
def trues (n : Nat) : List Bool := (List.range n).map fun _ => true
theorem allT (n : Nat) : (trues n).all id = true := by simp [trues]
theorem lc_true {J : It} {n : Nat} {G : Hp → Prop} {Y : Nat → Hp → V → Hp → Prop} (w : Walk J n G Y) {g : TG} {tt : TT} {te : TE} {vs : List Nat} {σ : L2.St} {H1 : Hp} {D : Addr} {Qd : Hp → Prop} (hD : H1 D = none) (hn : n < 1000000) (hG : ∀ H, Evl.Ex H1 H → G H)
    (hs : ∀ (i : Nat) (x : V) (H H' : Hp) (C : V → Hp → Prop) (N : Hp → Prop), i < n → Evl.Ex H1 H → Y i H x H' → (∀ H4, Evl.Ex H H4 → C (.bl true) H4) → g x (wipe σ vs) H' fun σ2 H2 => wipe σ2 vs = wipe σ vs ∧ tt σ2 H2 fun b H3 => if b = true then te σ2 H3 C else N H3)
    (hd : ∀ H', Evl.Ex H1 H' → H' D = some (.lst ((trues n).map V.bl)) → Qd H') :
    ∃ W : Nat → Nat → Hp → Prop, (∃ m, W 0 m (upd H1 D (.lst []))) ∧ ∀ i m H, W i m H →
      (J.stop i H ∧ Qd H) ∨ (J.go i H ∧ ∃ Nx : Hp → Prop, (∀ H', Nx H' → ∃ m', m' < m ∧ W (i + 1) m' H') ∧ ∀ x H', J.yld i H x H' → g x (wipe σ vs) H' fun σ2 H2 => wipe σ2 vs = wipe σ vs ∧ tt σ2 H2 fun b H3 =>
        if b = true then te σ2 H3 fun y H4 => ∃ acc, H4 D = some (.lst acc) ∧ acc.length < sizeLine ∧ Nx (upd H4 D (.lst (acc ++ [y]))) else Nx H3) := by
  refine lc_fm w (fun _ => true) (fun _ => .bl true) hD hn hG (fun i x H H' C N hi he y hc _ => hs i x H H' C N hi he y (hc rfl)) (fun H' he hD' => hd H' he ?_)
  rw [hD', filter_yes, trues, List.map_map]
  rfl
theorem iteT' {b : Bool} {A B : Prop} (h : b = true) (a : A) : if b = true then A else B := by rw [if_pos h]; exact a
theorem unlock {H H' : Hp} {l : Addr} {o : Obj} {u : HO} (hl : H l = some u) (e : Evl.Ex (upd H l (.frz o u)) H') : Evl.Ex H (upd H' l u) := fun b v hb => by
  by_cases h : b = l
  · rw [h] at hb ⊢
    rw [upd_same, ← hl, hb]
  · rw [upd_ne h]
    exact e _ _ (by rw [upd_ne h]; exact hb)
end TP
namespace TP
open PySem PySem.Spec PyProof.Rows L2
theorem rIx_mono {K : PySem.W.Frag} {x y : V} {H : Hp} {Q Q' : VK} (h : rIx K x y H Q) (m : ∀ v H', Q v H' → Q' v H') : rIx K x y H Q' := by
  rcases h with ⟨p, xs, i, v, e1, e2, s, a, q⟩ | ⟨p, xs, i, v, e1, e2, s, a, q⟩ | ⟨z, i, c, e1, e2, s, a, q⟩
  · exact .inl ⟨p, xs, i, v, e1, e2, s, a, m _ _ q⟩
  · exact .inr (.inl ⟨p, xs, i, v, e1, e2, s, a, m _ _ q⟩)
  · exact .inr (.inr ⟨z, i, c, e1, e2, s, a, m _ _ q⟩)
end TP

namespace TP
open PySem PySem.Spec PyProof.Rows L2
theorem rd_hid {H : Hp} {x a : Addr} {o u : HO} (hx : H x = some o) (n1 : o ≠ u) (n2 : ∀ ob, o ≠ .frz ob u) (h : Rd H a u) : Rd (hid x H) a u := by
  rcases h with h | ⟨ob, h⟩
  · exact .inl (hid_of h fun e => n1 (by rw [e, hx] at h; exact Option.some.inj h))
  · exact .inr ⟨ob, hid_of h fun e => n2 ob (by rw [e, hx] at h; exact Option.some.inj h)⟩
/-- what stands at x is no row -/
structure NoRow (o : HO) : Prop where
  l : ∀ xs, o ≠ .lst xs
  t : ∀ xs, o ≠ .tup xs
  f : ∀ ob u, o ≠ .frz ob u
theorem noRow_ins {C dx : Addr} {fs : List (Str × V)} : NoRow (.ins C dx fs) := ⟨fun _ h => (nomatch h), fun _ h => (nomatch h), fun _ _ h => nomatch h⟩
theorem sqt_hid {K : PySem.W.Frag} {H : Hp} {x a : Addr} {o : HO} {xs : List V} (hx : H x = some o) (n1 : ∀ xs, o ≠ .tup xs) (n2 : ∀ ob u, o ≠ .frz ob u) (h : SqT K H a xs) : SqT K (hid x H) a xs := by
  rcases h with h | h
  · exact .inl (rd_hid hx (n1 _) (fun _ => n2 _ _) h)
  · exact .inr h
theorem sql_hid {K : PySem.W.Frag} {H : Hp} {x a : Addr} {o : HO} {xs : List V} (hx : H x = some o) (n1 : ∀ xs, o ≠ .lst xs) (n2 : ∀ ob u, o ≠ .frz ob u) (h : SqL K H a xs) : SqL K (hid x H) a xs := by
  rcases h with h | h
  · exact .inl (rd_hid hx (n1 _) (fun _ => n2 _ _) h)
  · exact .inr h
theorem Rw.hid {K : PySem.W.Frag} {H : Hp} {x a : Addr} {o : HO} {xs : List V} (hx : H x = some o) (n : NoRow o) (h : Rw K H a xs) : Rw K (hid x H) a xs := by
  rcases h with h | h
  · exact .inl (sql_hid hx n.l n.f h)
  · exact .inr (sqt_hid hx n.t n.f h)
theorem Ru.hid {K : PySem.W.Frag} {H : Hp} {x a : Addr} {o : HO} {r : RN} (hx : H x = some o) (n : ∀ dx, o ≠ .ins (He.ga K "Rule") dx r.fs) (h : Ru K H a r) : Ru K (TP.hid x H) a r := by
  obtain ⟨dx, h⟩ := h
  exact ⟨dx, hid_of h fun e => n dx (by rw [e, hx] at h; exact Option.some.inj h)⟩
theorem tupOf {K : PySem.W.Frag} {H : Hp} {p : Addr} {ys : List V} {Q : VK} (h : Rw K H p ys) (k : ∀ l H', Evl.Ex H H' → SqT K H' l ys → Q (.ref l) H') :
    ∃ p' ys', [V.ref p] = [.ref p'] ∧ ((SqL K H p' ys' ∧ ∀ l, H l = none → Q (.ref l) (upd H l (.tup ys'))) ∨ (SqT K H p' ys' ∧ Q (.ref p') H)) := by
  rcases h with h | h
  · exact ⟨p, ys, rfl, .inl ⟨h, fun l hl => k l _ (Evl.Ex.new hl) (SqT.of upd_same)⟩⟩
  · exact ⟨p, ys, rfl, .inr ⟨h, k p H (Evl.Ex.refl _) h⟩⟩
/-- tuple(row) -/
def rTup (K : PySem.W.Frag) : List V → Hp → VK → Prop := fun xs H Q => ∃ p ys, xs = [.ref p] ∧ Rw K H p ys ∧ ∀ l H', Evl.Ex H H' → SqT K H' l ys → Q (.ref l) H'
theorem call_tupR {X : Cx} : CallR X (.type "tuple") (rTup X.K) := by
  intro pins s σ H xs us Q I r h
  obtain ⟨p, ys, rfl, hr, k⟩ := h
  exact call_tuple_of pins s σ H _ us Q I r (tupOf hr k)
structure LandD where
  hs : List Str
  ss : List (Str × Str)
  rq : List (Addr × RD)
  bn : Int
  uq : List (Addr × RN)
def landFs (ht st rt : Addr) (bn : Int) (ut : Addr) : List (Str × V) := [("houses", .ref ht), ("streets", .ref st), ("roads", .ref rt), ("bins", .int bn), ("rules", .ref ut)]
/-- a land lies at a -/
structure LandI (K : PySem.W.Frag) (H : Hp) (a dx ht st rt ut : Addr) (L : LandD) : Prop where
  o : H a = some (.ins (He.ga K "Land") dx (landFs ht st rt L.bn ut))
  h : SqT K H ht (L.hs.map V.str)
  s : H st = some (.dK (ssK L.ss))
  r : SqT K H rt (rqV L.rq)
  rs : ∀ q ∈ L.rq, SqT K H q.1 q.2.vs
  u : SqT K H ut (uqV L.uq)
  us : ∀ q ∈ L.uq, Ru K H q.1 q.2
def LandAt (K : PySem.W.Frag) (H : Hp) (a : Addr) (L : LandD) : Prop := ∃ dx ht st rt ut, LandI K H a dx ht st rt ut L
theorem LandI.ex {K : PySem.W.Frag} {H H' : Hp} {a dx ht st rt ut : Addr} {L : LandD} (h : LandI K H a dx ht st rt ut L) (e : Evl.Ex H H') : LandI K H' a dx ht st rt ut L :=
  ⟨e _ _ h.o, sqt_ex h.h e, e _ _ h.s, sqt_ex h.r e, fun q hq => sqt_ex (h.rs q hq) e, sqt_ex h.u e, fun q hq => (h.us q hq).ex e⟩
theorem LandAt.ex {K : PySem.W.Frag} {H H' : Hp} {a : Addr} {L : LandD} (h : LandAt K H a L) (e : Evl.Ex H H') : LandAt K H' a L := by
  obtain ⟨dx, ht, st, rt, ut, h⟩ := h
  exact ⟨dx, ht, st, rt, ut, h.ex e⟩
theorem LandAt.hid {K : PySem.W.Frag} {H : Hp} {a w : Addr} {L : LandD} {xs : List V} (h : LandAt K H a L) (hw : H w = some (.lst xs)) : LandAt K (TP.hid w H) a L := by
  obtain ⟨dx, ht, st, rt, ut, h⟩ := h
  have ne : ∀ {b : Addr} {o : HO}, H b = some o → o ≠ .lst xs → TP.hid w H b = some o := fun {b o} hb no => hid_of hb fun e => no (by rw [e, hw] at hb; exact (Option.some.inj hb).symm)
  have t1 : ∀ {p : Addr} {ys : List V}, SqT K H p ys → SqT K (TP.hid w H) p ys := fun h => sqt_hid hw (fun _ z => nomatch z) (fun _ _ z => nomatch z) h
  exact ⟨dx, ht, st, rt, ut, ⟨ne h.o (fun z => nomatch z), t1 h.h, ne h.s (fun z => nomatch z), t1 h.r, fun q hq => t1 (h.rs q hq), t1 h.u, fun q hq => (h.us q hq).hid hw (fun _ z => nomatch z)⟩⟩
def r0 : RN := ⟨0, 0, 1, 0, 0, 0, 0⟩
/-- what a land is made of, as handed in -/
structure LandIn (K : PySem.W.Frag) (H : Hp) (ha sa ra ua : Addr) (L : LandD) : Prop where
  h : Rw K H ha (L.hs.map V.str)
  hok : HsOk L.hs
  s : H sa = some (.dK (ssK L.ss))
  sok : SsOk L.hs L.ss
  ne : sa ≠ ha
  r : Rw K H ra (rqV L.rq)
  rs : ∀ q ∈ L.rq, SqT K H q.1 q.2.vs ∧ q.2.ok L.hs
  rl : L.rq.length ≤ 16
  u : Rw K H ua (uqV L.uq)
  us : ∀ q ∈ L.uq, Ru K H q.1 q.2
  ul : L.uq.length ≤ 60
theorem LandIn.ex {K : PySem.W.Frag} {H H' : Hp} {ha sa ra ua : Addr} {L : LandD} (h : LandIn K H ha sa ra ua L) (e : Evl.Ex H H') : LandIn K H' ha sa ra ua L :=
  ⟨h.h.ex e, h.hok, e _ _ h.s, h.sok, h.ne, h.r.ex e, fun q hq => ⟨sqt_ex (h.rs q hq).1 e, (h.rs q hq).2⟩, h.rl, h.u.ex e, fun q hq => (h.us q hq).ex e, h.ul⟩
def bnOk (b : Int) : Bool := isBetwD (.int b) 2 5
def ruOk (uq : List (Addr × RN)) : Bool := match uq with
  | [] => true
  | _ => rulesOk (uq.map fun q => q.2.s)
/-- a land lies at a, its table of streets is new -/
def LandNw (K : PySem.W.Frag) (H0 H : Hp) (a : Addr) (L : LandD) : Prop := ∃ dx ht st rt ut, LandI K H a dx ht st rt ut L ∧ H0 st = none
theorem LandNw.at {K : PySem.W.Frag} {H0 H : Hp} {a : Addr} {L : LandD} (h : LandNw K H0 H a L) : LandAt K H a L := by
  obtain ⟨dx, ht, st, rt, ut, h, _⟩ := h
  exact ⟨dx, ht, st, rt, ut, h⟩
def spLandX (K : PySem.W.Frag) : Sp := fun vs H Q E => ∃ (x dx ha sa ra ua : Addr) (L : LandD), vs = [.ref x, .ref ha, .ref sa, .ref ra, .int L.bn, .ref ua] ∧ H x = some (.ins (He.ga K "Land") dx []) ∧ He.ga K "Land" ≠ He.ga K "Rule" ∧ LandIn K H ha sa ra ua L ∧
  (bnOk L.bn = true → ruOk L.uq = true → Tied L.hs (rdP L.rq) → ∀ H' uq, Wk x H H' → (L.uq ≠ [] → uq = L.uq) → (L.uq = [] → ∃ u, H u = none ∧ uq = [(u, r0)]) → LandNw K H H' x { L with uq := uq } → Q .non H') ∧
  (∀ w : Str, (bnOk L.bn = false ∧ w = "bins" ∨ bnOk L.bn = true ∧ ruOk L.uq = false ∧ w = "rules" ∨ bnOk L.bn = true ∧ ruOk L.uq = true ∧ ¬ Tied L.hs (rdP L.rq) ∧ w = "ways") → ∀ d H', Evl.Ex H H' → H' d = some (.xd [("why", .str w)]) → E (.ref (eC K "NoLand")) (some d) H')
section
variable {X : Cx} {CX : CXT} {k n : Nat} {d : He.DefD} {ps ks : List Str} {js is : List Nat} {sp : Sp} {E : XK} {x : Str} {p pos : Pos} {e : Expr} {es : List Expr} {kws : List Keyword} {t tk : TA}
/-- f(e, .., k = v, ..) -/
theorem GtF.callK (G : GtF X.prog X.w X.K X.mg X.base CX k d ps sp) (B : Kb d ps n ks js is) (hm : X.mg x = some (.ref (He.fAd X.K d.at_))) (hr : Room k X.A) (hx : Passes CX X E) (ha : PA X (e :: es) t) (hkw : PK X kws tk) (hg : Gl X x := by rfl)
    (hall : (backToKw pos (keywordEach kws X.env)).all (·.1.isSome) = true := by rfl) (hks : (backToKw pos (keywordEach kws X.env)).filterMap (·.1) = ks := by rfl) (hdb : (x == ("__debug__" : Str)) = false := by decide)
    (he : starEach (e :: es) X.env = (false, eval e X.env) :: starEach es X.env := by rfl) (hpl : ((backTo pos (starEach (e :: es) X.env)).any (·.1) || (backToKw pos (keywordEach kws X.env)).any (·.1.isNone)) = false := by rfl) :
    PE X (.Call (.Name x p) (e :: es) kws pos) (tCallN n ks.length sp (gK d js is X.K) E t tk) := by
  obtain ⟨_, F0, _⟩ := G.ex
  obtain ⟨fd, mv, F, hb⟩ := G.kbn B
  exact pe_callN F hr hg hm F0.kp hb hx ha hkw hall hks hdb he hpl
/-- f(e, ..), all keyword-only parameters left out -/
theorem GtF.callD (G : GtF X.prog X.w X.K X.mg X.base CX k d ps sp) (B : Kb0 d ps n) (hm : X.mg x = some (.ref (He.fAd X.K d.at_))) (hr : Room k X.A) (hx : Passes CX X E) (ha : PA X (e :: es) t) (hg : Gl X x := by rfl) (hdb : (x == ("__debug__" : Str)) = false := by decide)
    (he : starEach (e :: es) X.env = (false, eval e X.env) :: starEach es X.env := by rfl) (hpl : (backTo pos (starEach es X.env)).any (·.1) = false := by rfl) :
    PE X (.Call (.Name x p) (e :: es) [] pos) (tCall sp ((d.kws X.K).map (·.2)) E t) := by
  obtain ⟨_, F0, _⟩ := G.ex
  obtain ⟨fd, ds, F, hd, hb⟩ := G.kb0 B
  exact pe_call F hr hg hm F0.kp hb hd hx ha hdb he hpl
end
/-! ### roads -/
def RD.goes (r : RD) (k : Int) : Int := r.f + k * r.e
def RD.comes (r : RD) (k : Int) : Int := r.f + k * r.e + r.t
def spLeav (K : PySem.W.Frag) : Sp := fun vs H Q _ => ∃ (a : Addr) (L : LandD) (i : Nat) (q : Addr × RD) (k : Int), vs = [.ref a, .int i, .int k] ∧ LandAt K H a L ∧ L.rq[i]? = some q ∧ Bd k ∧ Bd q.2.e ∧ Q (.int (q.2.goes k)) H
def spCome (K : PySem.W.Frag) : Sp := fun vs H Q _ => ∃ (a : Addr) (L : LandD) (i : Nat) (q : Addr × RD) (k : Int), vs = [.ref a, .int i, .int k] ∧ LandAt K H a L ∧ L.rq[i]? = some q ∧ Bd k ∧ Bd q.2.e ∧ Q (.int (q.2.comes k)) H
/-- the first one from k on that is not in a row -/
structure Nx (sh : List Int) (k r : Int) : Prop where
  le : k ≤ r
  no : r ∉ sh
  all : ∀ j, k ≤ j → j < r → j ∈ sh
theorem Nx.uniq {sh : List Int} {k r s : Int} (h : Nx sh k r) (g : Nx sh k s) : r = s := by
  rcases Int.lt_trichotomy r s with q | q | q
  · exact absurd (g.all r h.le q) h.no
  · exact q
  · exact absurd (h.all s g.le q) g.no
def RD.behind (r : RD) (t : Int) : Int := if (t - r.f) / r.e + 1 > 0 then (t - r.f) / r.e + 1 else 0
def spFirst (K : PySem.W.Frag) : Sp := fun vs H Q _ => ∃ (a sa : Addr) (L : LandD) (i : Nat) (q : Addr × RD) (t : Int) (sh : List Int), vs = [.ref a, .int i, .int t, .ref sa] ∧ LandAt K H a L ∧ L.rq[i]? = some q ∧ 1 ≤ q.2.e ∧ q.2.e < 2 ^ 600 ∧ Rw K H sa (sh.map V.int) ∧ ∀ r, Nx sh (q.2.behind t) r → Q (.int r) H
theorem inV_int {z : Int} {l : List Int} : inV (.int z) (l.map V.int) = decide (z ∈ l) := by
  unfold inV
  induction l with
  | nil => rfl
  | cons y l ih =>
    rw [List.map_cons, List.any_cons, ih]
    by_cases e : y = z
    · subst e
      simp [eqV]
    · have e2 : eqV (.int y) (.int z) = false := by simp [eqV, e]
      rw [e2, Bool.false_or]
      refine decide_eq_decide.mpr ⟨fun h => List.mem_cons_of_mem _ h, fun h => ?_⟩
      rcases List.mem_cons.mp h with h | h
      · exact absurd h.symm e
      · exact h
theorem flat_ints (l : List Int) : (l.map V.int).all flatV = true := by
  rw [List.all_eq_true]
  intro x hx
  obtain ⟨z, _, rfl⟩ := List.mem_map.mp hx
  rfl
theorem fil_lt {sh : List Int} {k : Int} (h : k ∈ sh) : (sh.filter fun j => decide (k + 1 ≤ j)).length < (sh.filter fun j => decide (k ≤ j)).length := by
  have e : (sh.filter fun j => decide (k + 1 ≤ j)) = (sh.filter fun j => decide (k ≤ j)).filter fun j => decide (k + 1 ≤ j) := by
    rw [List.filter_filter]
    refine List.filter_congr fun j _ => ?_
    by_cases q : k + 1 ≤ j
    · rw [decide_eq_true q, decide_eq_true (show k ≤ j by omega)]
      rfl
    · rw [decide_eq_false q]
      rfl
  rw [e]
  have hm : k ∈ sh.filter fun j => decide (k ≤ j) := List.mem_filter.mpr ⟨h, by simp⟩
  rcases Nat.lt_or_ge ((sh.filter fun j => decide (k ≤ j)).filter fun j => decide (k + 1 ≤ j)).length (sh.filter fun j => decide (k ≤ j)).length with q | q
  · exact q
  · have e2 := List.length_filter_eq_length_iff.mp (Nat.le_antisymm (List.length_filter_le _ _) q) k hm
    have := of_decide_eq_true e2
    omega
theorem run_le {sh : List Int} {k f : Int} (h : ∀ j, k ≤ j → j < f → j ∈ sh) : f - k ≤ sh.length := by
  rcases Int.lt_or_le f k with q | q
  · have : (0 : Int) ≤ sh.length := Int.natCast_nonneg _
    omega
  · have nd : ((List.range (f - k).toNat).map fun (i : Nat) => k + (i : Int)).Nodup := by
      exact List.Pairwise.map _ (fun a b e z => e (by omega)) List.nodup_range
    have sub : ((List.range (f - k).toNat).map fun (i : Nat) => k + (i : Int)) ⊆ sh := fun x hx => by
      obtain ⟨i, hi, rfl⟩ := List.mem_map.mp hx
      have := List.mem_range.mp hi
      exact h _ (by omega) (by omega)
    have := nd.length_le_of_subset sub
    rw [List.length_map, List.length_range] at this
    omega
theorem Rw.dr {K : PySem.W.Frag} {H : Hp} {a : Addr} {l : List Int} (h : Rw K H a (l.map V.int)) (hl : l.length ≤ 60) (hb : ∀ i ∈ l, i.natAbs < 10 ^ 100) : ∃ d, Dr K H (.ref a) d ∧ Sz 10000 1 d := by
  have hs : ∀ d ∈ l.map PyData.int, Sz 101 0 d := fun d hd => by
    obtain ⟨i, hi, rfl⟩ := List.mem_map.mp hd
    exact Sz.int (hb i hi)
  rcases h with h | h
  · exact ⟨_, .lst h (drInts l), (Sz.lst (n := 60) hs (by rw [List.length_map]; exact hl)).mono (by decide) (by decide)⟩
  · exact ⟨_, .tup h (drInts l), (Sz.tup (n := 60) hs (by rw [List.length_map]; exact hl)).mono (by decide) (by decide)⟩
theorem fil_le (sh : List Int) (k : Int) : (sh.filter fun j => decide (k + 1 ≤ j)).length ≤ (sh.filter fun j => decide (k ≤ j)).length := by
  have e : (sh.filter fun j => decide (k + 1 ≤ j)) = (sh.filter fun j => decide (k ≤ j)).filter fun j => decide (k + 1 ≤ j) := by
    rw [List.filter_filter]
    refine List.filter_congr fun j _ => ?_
    by_cases q : k + 1 ≤ j
    · rw [decide_eq_true q, decide_eq_true (show k ≤ j by omega)]
      rfl
    · rw [decide_eq_false q]
      rfl
  rw [e]
  exact List.length_filter_le _ _
end TP

namespace TP
open PySem PySem.Spec PyProof.Rows L2
theorem dpInts {K : PySem.W.Frag} {H : Hp} : ∀ l : List Int, DpAll K H (l.map V.int) (l.map PyData.int)
  | [] => .nil
  | _ :: l => .cons (.int _) (dpInts l)
theorem canInts : ∀ l : List Int, PyData.canLayAll0 (l.map PyData.int) = true ∧ PyData.depthAll (l.map PyData.int) = 0
  | [] => ⟨rfl, rfl⟩
  | i :: l => by
    obtain ⟨h1, h2⟩ := canInts l
    exact ⟨by show (true && PyData.canLayAll0 (l.map PyData.int)) = true; rw [h1]; rfl, by show max 0 (PyData.depthAll _) = 0; rw [h2]; rfl⟩
theorem shapedInts (l : List Int) : SeqAt.shaped (.list (l.map PyData.int)) = true := by
  unfold SeqAt.shaped
  rw [show PyData.canLay0 (.list (l.map PyData.int)) = true from (canInts l).1, show (PyData.list (l.map PyData.int)).depth = PyData.depthAll (l.map PyData.int) + 1 from rfl, (canInts l).2]
  decide
theorem neInts {K : PySem.W.Frag} {H : Hp} {p q : Addr} {l : List Int} {xs ys : List V} {Q : VK} (h1 : H p = some (.lst xs)) (h2 : H q = some (.lst ys)) (e1 : xs = l.map V.int) (e2 : ys = l.map V.int) (k : Q (.bl false) H) : rNeD K (.ref p) (.ref q) H Q := by
  subst e1 e2
  refine ⟨_, _, .lst (SqL.of h1) (dpInts l), .lst (SqL.of h2) (dpInts l), shapedInts l, shapedInts l, ?_⟩
  rw [show PyData.eqv (.list (l.map PyData.int)) (.list (l.map PyData.int)) = true from PySem.SeqAt.eqv_refl _ (canInts l).1]
  exact k
theorem nx_nil {k r : Int} (h : Nx [] k r) : r = k := h.uniq ⟨Int.le_refl _, by simp, fun j a b => by omega⟩
theorem behind_of {r : RD} {t : Int} (e1 : 1 ≤ r.e) (h : r.f ≤ t) : r.behind t = (t - r.f) / r.e + 1 ∧ 0 ≤ (t - r.f) / r.e ∧ r.f + (t - r.f) / r.e * r.e ≤ t := by
  have h0 : 0 ≤ (t - r.f) / r.e := Int.ediv_nonneg (by omega) (by omega)
  refine ⟨if_pos (by omega), h0, ?_⟩
  have := Int.ediv_mul_le (t - r.f) (show r.e ≠ 0 by omega)
  omega
theorem behind_no {r : RD} {t : Int} (e1 : 1 ≤ r.e) (h : t < r.f) : r.behind t = 0 := by
  refine if_neg ?_
  have h1 : (t - r.f) / r.e < 0 := Int.ediv_neg_of_neg_of_pos (by omega) (by omega)
  omega
theorem behind_gt {r : RD} {t j : Int} (e1 : 1 ≤ r.e) (hj : r.behind t ≤ j) (hj0 : 0 ≤ j) : t < r.f + j * r.e := by
  rcases Int.lt_or_le t r.f with h | h
  · have : 0 ≤ j * r.e := Int.mul_nonneg hj0 (by omega)
    omega
  · obtain ⟨a1, a2, a3⟩ := behind_of e1 h
    have h2 := Int.lt_ediv_add_one_mul_self (t - r.f) (show 0 < r.e by omega)
    have h3 : ((t - r.f) / r.e + 1) * r.e ≤ j * r.e := Int.mul_le_mul_of_nonneg_right (by omega) (by omega)
    omega
theorem behind_nn {r : RD} {t : Int} : 0 ≤ r.behind t := by
  unfold RD.behind
  split <;> omega
theorem behind_le {r : RD} {t : Int} (e1 : 1 ≤ r.e) (f0 : 0 ≤ r.f) (ht : 0 ≤ t) : r.behind t ≤ t + 1 := by
  unfold RD.behind
  split
  · rcases Int.lt_or_le t r.f with h | h
    · have h1 : (t - r.f) / r.e < 0 := Int.ediv_neg_of_neg_of_pos (by omega) (by omega)
      omega
    · have := Int.ediv_le_self r.e (show 0 ≤ t - r.f by omega)
      omega
  · omega
theorem behind_goes {r : RD} {k : Int} (e1 : 1 ≤ r.e) (k0 : 0 ≤ k) : r.behind (r.goes k) = k + 1 := by
  unfold RD.behind RD.goes
  have h : (r.f + k * r.e - r.f) / r.e = k := by
    rw [show r.f + k * r.e - r.f = k * r.e by omega]
    exact Int.mul_ediv_cancel _ (by omega)
  rw [h]
  exact if_pos (by omega)
theorem rep_one (v : V) : ∀ n : Nat, (List.replicate n [v]).flatten = List.replicate n v
  | 0 => rfl
  | n + 1 => by
    rw [List.replicate_succ, List.flatten_cons, rep_one v n, List.replicate_succ]
    rfl
end TP

namespace TP
open PySem PySem.Spec PyProof.Rows L2
/-- a method of a built-in type within a comprehension -/
theorem pe_bmL {X : Cx} {T : String} {name : Str} {id : String} {r : V → List V → Hp → VK → Prop} {o e : Expr} {es : List Expr} {to : TE} {t : TA} {apos cpos : Pos} (K : PySem.W.Frag) (pa : PlainAttrs T) (slot : Slot T name id) (hty : typeOf (.builtin id) = pure (.type "method_descriptor")) (hm : MtR X id r) (ho : PE X o to) (ha : PA X (e :: es) t)
    (hK : X.K = K := by rfl) (hbase : attributeBase o name X.env (eval o X.env) = eval o X.env := by rfl)
    (hfew : ((backTo cpos (starEach (e :: es) X.env)).all (fun x => !x.1) && (backToKw cpos (keywordEach [] X.env)).all (fun x => x.1.isSome)
      && decide ((e :: es).length + ([] : List Keyword).length + (if ([] : List Keyword).isEmpty then 0 else 1) < 30)) = true := by rfl)
    (hline : (apos.endLine == cpos.line) = true := by rfl) (hs : starEach (e :: es) X.env = (false, eval e X.env) :: starEach es X.env := by rfl) (hplain : (backTo cpos (starEach es X.env)).any (·.1) = false := by rfl) :
    PE X (.Call (.Attribute o name apos) (e :: es) [] cpos) (tBM K T r to t) := by
  subst hK
  exact pe_bm pa slot hty hm ho ha hbase hfew hline hs hplain
/-! ### rows of unlike names, mixed rows -/
def spNames : Sp := fun vs H Q _ => ∃ (w : Addr) (n m : Nat), vs = [.ref w, .int m] ∧ Wl H w n ∧ n < 800000 ∧ m ≤ 20 ∧
  ∀ (l : Addr) (zs : List Str) (H' : Hp), Dn w (n + 20 * m) H H' → H l = none → l ≠ w → H' l = some (.lst (zs.map V.str)) → zs.length = m → zs.Nodup → (∀ z ∈ zs, NmP z) → Q (.ref l) H'
def spMixed (K : PySem.W.Frag) : Sp := fun vs H Q _ => ∃ (w p : Addr) (n : Nat) (xs : List V), vs = [.ref w, .ref p] ∧ Wl H w n ∧ n < 800000 ∧ Rw K H p xs ∧ p ≠ w ∧ xs.length ≤ 60 ∧
  ∀ (l : Addr) (ys : List V) (H' : Hp), Dn w (n + xs.length) H H' → H l = none → l ≠ w → H' l = some (.lst ys) → ys.Perm xs → Q (.ref l) H'
def vNm (j : Nat) : Str := ("v" : Str) ++ (⟨#[97 + j]⟩ : Str)
theorem vNm_inj {i j : Nat} (h : vNm i = vNm j) : i = j := by
  have e := congrArg (fun z : Str => z.cps.toList) h
  dsimp only [vNm] at e
  rw [app_codes, app_codes] at e
  have e2 := List.append_cancel_left e
  have e3 : (97 + i) = 97 + j := by simpa using e2
  omega
theorem vNm_nm {j : Nat} (h : j < 26) : NmP (vNm j) := by
  have hl : (vNm j).length = 2 := by
    unfold vNm
    rw [strLen_append]
    rfl
  refine ⟨by omega, by omega, fun c hc => ?_⟩
  unfold vNm at hc
  rw [app_codes] at hc
  rcases List.mem_append.mp hc with h1 | h1
  · have : c = 118 := by
      have e : ("v" : Str).cps.toList = [118] := by decide +kernel
      rw [e] at h1
      simpa using h1
    exact LT_mem.mpr (by omega)
  · have : c = 97 + j := by simpa using h1
    exact LT_mem.mpr (by omega)
theorem LT_at {j : Nat} (h : j < 26) : LT.cps.toList[j]? = some (97 + j) := by
  rw [LT_list]
  have hd : ∀ j, j < 26 → ([97, 98, 99, 100, 101, 102, 103, 104, 105, 106, 107, 108, 109, 110, 111, 112, 113, 114, 115, 116, 117, 118, 119, 120, 121, 122] : List Nat)[j]? = some (97 + j) := by decide
  exact hd j h
/-- so many of these are in a row at most -/
theorem v_few {f : List Str} {k : Nat} (h : ∀ j, j < k → vNm j ∈ f) : k ≤ f.length := by
  have nd : ((List.range k).map vNm).Nodup := List.Pairwise.map _ (fun a b e z => e (vNm_inj z)) List.nodup_range
  have sub : ((List.range k).map vNm) ⊆ f := fun x hx => by
    obtain ⟨j, hj, rfl⟩ := List.mem_map.mp hx
    exact h j (List.mem_range.mp hj)
  have := nd.length_le_of_subset sub
  rwa [List.length_map, List.length_range] at this
theorem Dn.putL {w l : Addr} {m : Nat} {H H' : Hp} {o : HO} (d : Dn w m H H') (hl : H l = none) (n : l ≠ w) : Dn w m H (upd H' l o) := d.put hl n
end TP

namespace TP
open PySem PySem.Spec PyProof.Rows L2
def spLStreets (K : PySem.W.Frag) : Sp := fun vs H Q _ => ∃ (w hl : Addr) (n : Nat) (hs : List Str), vs = [.ref w, .ref hl] ∧ Wl H w n ∧ n < 700000 ∧ SqL K H hl (hs.map V.str) ∧ hl ≠ w ∧ HsOk hs ∧
  ∀ (d : Addr) (ss : List (Str × Str)) (H' : Hp), Dn w (n + 500) H H' → H d = none → d ≠ w → H' d = some (.dK (ssK ss)) → SsOk hs ss → Q (.ref d) H'
structure RB (r : RD) : Prop where
  f : r.f < 10 ^ 7
  e : r.e < 100
  t : r.t < 10 ^ 7
def spLRoads (K : PySem.W.Frag) : Sp := fun vs H Q _ => ∃ (w hl : Addr) (n : Nat) (hs : List Str), vs = [.ref w, .ref hl] ∧ Wl H w n ∧ n < 700000 ∧ SqL K H hl (hs.map V.str) ∧ hl ≠ w ∧ HsOk hs ∧
  ∀ (pl : Addr) (rq : List (Addr × RD)) (H' : Hp), Dn w (n + 500) H H' → H pl = none → pl ≠ w → H' pl = some (.lst (rqV rq)) → (∀ q ∈ rq, H q.1 = none ∧ q.1 ≠ w ∧ q.1 ≠ pl ∧ H' q.1 = some (.tup q.2.vs) ∧ q.2.ok hs ∧ RB q.2) → rq.length ≤ 16 → Tied hs (rdP rq) → Q (.ref pl) H'
theorem perm_strs {ys : List V} {hs : List Str} (h : ys.Perm (hs.map V.str)) : ∃ os : List Str, ys = os.map V.str ∧ os.Perm hs := by
  have hall : ∀ y ∈ ys, ∃ z, y = V.str z := fun y hy => by
    obtain ⟨z, _, e⟩ := List.mem_map.mp (h.mem_iff.mp hy)
    exact ⟨z, e.symm⟩
  have g : ∀ ys : List V, (∀ y ∈ ys, ∃ z, y = V.str z) → ∃ os : List Str, ys = os.map V.str := by
    intro ys
    induction ys with
    | nil => exact fun _ => ⟨[], rfl⟩
    | cons y ys ih =>
      intro hh
      obtain ⟨os, e⟩ := ih fun z hz => hh z (List.mem_cons_of_mem _ hz)
      obtain ⟨z, ez⟩ := hh y (List.mem_cons_self ..)
      exact ⟨z :: os, by rw [e, ez]; rfl⟩
  obtain ⟨os, rfl⟩ := g ys hall
  refine ⟨os, rfl, ?_⟩
  have m := h.map (fun v => match v with | V.str z => z | _ => Str.empty)
  rw [List.map_map, List.map_map] at m
  have i : ∀ l : List Str, l.map ((fun v => match v with | V.str z => z | _ => Str.empty) ∘ V.str) = l := fun l => by
    rw [show ((fun v => match v with | V.str z => z | _ => Str.empty) ∘ V.str) = id from rfl, List.map_id]
  rw [i, i] at m
  exact m
theorem perm_refs {α : Type} {ys : List V} {fq : List (Addr × α)} (h : ys.Perm (fq.map fun q => V.ref q.1)) : ∃ gq : List (Addr × α), ys = (gq.map fun q => V.ref q.1) ∧ gq.Perm fq := by
  have key : ∀ (ys zs : List V), ys.Perm zs → ∀ fq : List (Addr × α), zs = (fq.map fun q => V.ref q.1) → ∃ gq : List (Addr × α), ys = (gq.map fun q => V.ref q.1) ∧ gq.Perm fq := by
    intro ys zs h
    induction h with
    | nil =>
      intro fq e
      cases fq with
      | nil => exact ⟨[], rfl, .nil⟩
      | cons q l => cases e
    | cons x _ ih =>
      intro fq e
      cases fq with
      | nil => cases e
      | cons q l =>
        obtain ⟨e1, e2⟩ := List.cons.inj e
        obtain ⟨gq, g1, g2⟩ := ih l e2
        exact ⟨q :: gq, by rw [e1, g1]; rfl, .cons _ g2⟩
    | swap x y l =>
      intro fq e
      match fq, e with
      | q :: r :: l', e =>
        obtain ⟨e1, e2⟩ := List.cons.inj e
        obtain ⟨e3, e4⟩ := List.cons.inj e2
        exact ⟨r :: q :: l', by rw [e1, e3, e4]; rfl, .swap _ _ _⟩
    | trans _ _ ih1 ih2 =>
      intro fq e
      obtain ⟨gq, g1, g2⟩ := ih2 fq e
      obtain ⟨hq, h1, h2⟩ := ih1 gq g1
      exact ⟨hq, h1, h2.trans g2⟩
  exact key ys _ h fq rfl
/-- a ring ties all -/
theorem ring_tied {hs os : List Str} {ps : List (Str × Str)} (hp : os.Perm hs) (hr : ∀ i x y, os[i]? = some x → os[(i + 1) % os.length]? = some y → (x, y) ∈ ps) : Tied hs ps := by
  intro h0 hh z hz
  have h0m : h0 ∈ os := hp.mem_iff.mpr (List.mem_of_mem_head? hh)
  have hzm : z ∈ os := hp.mem_iff.mpr hz
  obtain ⟨s, hs1⟩ := List.mem_iff_getElem?.mp h0m
  obtain ⟨t, ht1⟩ := List.mem_iff_getElem?.mp hzm
  have ls := (List.getElem?_eq_some_iff.mp hs1).1
  have lt := (List.getElem?_eq_some_iff.mp ht1).1
  have N0 : 0 < os.length := by omega
  have at_ : ∀ i, ∃ x, os[i % os.length]? = some x := fun i => ⟨_, List.getElem?_eq_getElem (Nat.mod_lt _ N0)⟩
  have fwd : ∀ (k a : Nat) (x y : Str), os[a % os.length]? = some x → os[(a + k) % os.length]? = some y → Rc ps x y := by
    intro k
    induction k with
    | zero =>
      intro a x y h1 h2
      rw [Nat.add_zero, h1] at h2
      obtain rfl := Option.some.inj h2
      exact .here
    | succ k ih =>
      intro a x y h1 h2
      obtain ⟨u, hu⟩ := at_ (a + k)
      refine .step (ih a x u h1 hu) (hr ((a + k) % os.length) u y hu ?_)
      rw [← h2, Nat.mod_add_mod]
      rfl
  have bwd : ∀ (k a : Nat) (x y : Str), os[(a + k) % os.length]? = some x → os[a % os.length]? = some y → Rc (sw ps) x y := by
    intro k
    induction k with
    | zero =>
      intro a x y h1 h2
      rw [Nat.add_zero, h2] at h1
      obtain rfl := Option.some.inj h1
      exact .here
    | succ k ih =>
      intro a x y h1 h2
      obtain ⟨u, hu⟩ := at_ (a + 1)
      refine .step (ih (a + 1) x u (by rw [← h1, show a + 1 + k = a + (k + 1) by omega]) hu) (List.mem_map.mpr ⟨(y, u), hr (a % os.length) y u h2 ?_, rfl⟩)
      rw [← hu, Nat.mod_add_mod]
  have es : os[s % os.length]? = some h0 := by rw [Nat.mod_eq_of_lt ls]; exact hs1
  have et : os[t % os.length]? = some z := by rw [Nat.mod_eq_of_lt lt]; exact ht1
  refine ⟨fwd (t + os.length - s) s h0 z es ?_, bwd (s + os.length - t) t h0 z ?_ et⟩
  · rw [show s + (t + os.length - s) = t + os.length by omega, Nat.add_mod_right]
    exact et
  · rw [show t + (s + os.length - t) = s + os.length by omega, Nat.add_mod_right]
    exact es
theorem atI_neg {α : Type} {xs : List α} {i : Int} {j : Nat} {v : α} (h1 : i < 0) (h2 : i + (xs.length : Int) = (j : Int)) (h : xs[j]? = some v) : atI xs i = some v := by
  have hj : j < xs.length := (List.getElem?_eq_some_iff.mp h).1
  have e : ixN xs.length i = some j := by
    unfold ixN
    rw [if_neg (by omega), if_pos (by omega)]
    congr 1
    omega
  unfold atI; rw [e]; exact h
end TP

namespace TP
open PySem PySem.Spec PyProof.Rows L2
theorem atI_str {os : List Str} {i : Int} (h1 : -(os.length : Int) ≤ i) (h2 : i < (os.length : Int)) : ∃ (j : Nat) (x : Str), os[j]? = some x ∧ atI (os.map V.str) i = some (.str x) ∧ ((j : Int) = i ∨ (j : Int) = i + os.length) := by
  have hl : (os.map V.str).length = os.length := List.length_map ..
  by_cases h0 : 0 ≤ i
  · obtain ⟨j, rfl⟩ := Int.eq_ofNat_of_zero_le h0
    have hj : j < os.length := by omega
    exact ⟨j, os[j], List.getElem?_eq_getElem hj, atI_nat (by rw [List.getElem?_map, List.getElem?_eq_getElem hj]; rfl), .inl rfl⟩
  · obtain ⟨j, hj⟩ := Int.eq_ofNat_of_zero_le (show 0 ≤ i + (os.length : Int) by omega)
    have hj' : j < os.length := by omega
    exact ⟨j, os[j], List.getElem?_eq_getElem hj', atI_neg (j := j) (by omega) (by rw [hl]; exact hj) (by rw [List.getElem?_map, List.getElem?_eq_getElem hj']; rfl), .inr hj.symm⟩
/-- the found pairs of a round of houses -/
structure FqAt (w ol fl : Addr) (os : List Str) (Hb H : Hp) (fq : List (Addr × Str × Str)) (m : Nat) : Prop where
  d : Dn w m Hb H
  o : H ol = some (.lst (os.map V.str))
  f : H fl = some (.lst (pqV fq))
  q : ∀ q ∈ fq, q.1 ≠ w ∧ q.1 ≠ fl ∧ H q.1 = some (.tup [.str q.2.1, .str q.2.2]) ∧ q.2.1 ∈ os ∧ q.2.2 ∈ os ∧ q.2.1 ≠ q.2.2
theorem FqAt.step {w ol fl p : Addr} {os : List Str} {Hb H H' : Hp} {fq : List (Addr × Str × Str)} {m m' : Nat} {x y : Str} (F : FqAt w ol fl os Hb H fq m) (hb : Hb fl = none) (nfl : fl ≠ w) (nol : ol ≠ w) (hol : ol ≠ fl) (D : Dn w m' H H') (hp : H' p = none) (hx : x ∈ os) (hy : y ∈ os) (hn : x ≠ y) :
    FqAt w ol fl os Hb (upd (upd H' p (.tup [.str x, .str y])) fl (.lst (pqV fq ++ [.ref p]))) (fq ++ [(p, x, y)]) m' := by
  have npw : p ≠ w := D.wl.nep hp
  have hf' := D.k _ _ nfl F.f
  have npf : p ≠ fl := Ne.symm (ne_of_none hf' hp)
  have ho' := D.k _ _ nol F.o
  have npo : p ≠ ol := Ne.symm (ne_of_none ho' hp)
  refine ⟨((F.d.trans D).new hp).put hb nfl, ?_, ?_, fun q hq => ?_⟩
  · rw [upd_ne hol, upd_ne (Ne.symm npo)]
    exact ho'
  · rw [upd_same]
    unfold pqV
    rw [List.map_append]
    rfl
  · rcases List.mem_append.mp hq with h | h
    · obtain ⟨h1, h2, h3, h4⟩ := F.q q h
      have h3' := D.k _ _ h1 h3
      refine ⟨h1, h2, ?_, h4⟩
      rw [upd_ne h2, upd_ne (ne_of_none h3' hp)]
      exact h3'
    · obtain rfl : q = (p, x, y) := by simpa using h
      refine ⟨npw, npf, ?_, hx, hy, hn⟩
      show upd _ fl _ p = _
      rw [upd_ne npf, upd_same]
theorem nodup_at {os : List Str} (h : os.Nodup) {i j : Nat} {x y : Str} (hi : os[i]? = some x) (hj : os[j]? = some y) (n : i ≠ j) : x ≠ y := by
  rintro rfl
  obtain ⟨a, ha⟩ := List.getElem?_eq_some_iff.mp hi
  obtain ⟨b, hb⟩ := List.getElem?_eq_some_iff.mp hj
  exact n ((List.getElem_inj h).mp (ha.trans hb.symm))
theorem FqAt.dn {w ol fl : Addr} {os : List Str} {Hb H H' : Hp} {fq : List (Addr × Str × Str)} {m m' : Nat} (F : FqAt w ol fl os Hb H fq m) (nfl : fl ≠ w) (nol : ol ≠ w) (D : Dn w m' H H') : FqAt w ol fl os Hb H' fq m' :=
  ⟨F.d.trans D, D.k _ _ nol F.o, D.k _ _ nfl F.f, fun q hq => by
    obtain ⟨h1, h2, h3, h4⟩ := F.q q hq
    exact ⟨h1, h2, D.k _ _ h1 h3, h4⟩⟩
theorem cutV_all {xs : List V} {k : Nat} (h : xs.length ≤ k) : cutV xs none (some (k : Int)) = xs := by
  unfold cutV
  rw [HT.sIx_none, HT.sIx_nat, List.drop_zero, Nat.sub_zero, List.take_of_length_le (by omega)]
theorem tied_one {hs : List Str} {ps : List (Str × Str)} (h : hs.length = 1) : Tied hs ps := by
  match hs, h with
  | [a], _ =>
    intro h0 hh z hz
    obtain rfl : a = h0 := by simpa using hh
    obtain rfl : z = a := by simpa using hz
    exact ⟨.here, .here⟩
end TP

namespace TP
open PySem PySem.Spec PyProof.Rows L2
def hasD (hs : List Str) : PyData → Bool
  | .str z => isNm z && decide (z ∈ hs)
  | _ => false
def spHas (K : PySem.W.Frag) : Sp := fun vs H Q _ => ∃ (a : Addr) (L : LandD) (v : V) (D : PyData), vs = [.ref a, v] ∧ LandAt K H a L ∧ Dr K H v D ∧ (∀ z, D = .str z → z.length ≤ 1000000) ∧ ∀ H', Evl.Ex H H' → Q (.bl (hasD L.hs D)) H'
def spHasS (K : PySem.W.Frag) : Sp := fun vs H Q _ => ∃ (a : Addr) (L : LandD) (v : V) (D : PyData), vs = [.ref a, v] ∧ LandAt K H a L ∧ Dr K H v D ∧ (∀ z, D = .str z → z.length ≤ 1000000) ∧ ∀ H', Evl.Ex H H' → Q (.bl (hasD (L.ss.map (·.1)) D)) H'
theorem isNmD_str {K : PySem.W.Frag} {H : Hp} {v : V} {D : PyData} (h : Dr K H v D) (e : isNmD D = true) : ∃ z, v = .str z ∧ D = .str z ∧ NmP z := by
  cases D <;> try cases e
  obtain ⟨z, e1, e2⟩ := h.str_of rfl
  cases e2
  exact ⟨_, e1, rfl, isNm_iff.mp e⟩
theorem hasD_no {hs : List Str} {D : PyData} (e : isNmD D = false) : hasD hs D = false := by
  cases D <;> try rfl
  show (isNm _ && _) = false
  rw [show isNm _ = false from e]
  rfl
theorem hasD_yes {hs : List Str} {z : Str} (e : NmP z) : hasD hs (.str z) = decide (z ∈ hs) := by
  show (isNm _ && _) = _
  rw [isNm_iff.mpr e]
  rfl
def ssGet : List (Str × Str) → Str → Option Str
  | [], _ => none
  | q :: r, z => if q.1 = z then some q.2 else ssGet r z
theorem ssGet_val (ss : List (Str × Str)) (z : Str) : valV (ssK ss) (.inr z) = (ssGet ss z).map V.str := by
  induction ss with
  | nil => rfl
  | cons q r ih =>
    show valV ((.inr q.1, .str q.2) :: ssK r) (.inr z) = _
    unfold ssGet
    by_cases e : q.1 = z
    · subst e
      simp [valV]
    · rw [if_neg e, ← ih]
      have : (Sum.inr q.1 : Key) ≠ Sum.inr z := fun h => e (Sum.inr.inj h)
      simp [valV, this]
theorem ssGet_some (ss : List (Str × Str)) (z : Str) : (ssGet ss z).isSome = decide (z ∈ ss.map (·.1)) := by
  induction ss with
  | nil => rfl
  | cons q r ih =>
    unfold ssGet
    by_cases e : q.1 = z
    · subst e
      simp
    · rw [if_neg e, ih]
      have : z ≠ q.1 := fun h => e h.symm
      simp [this]
def spHouseX (K : PySem.W.Frag) : Sp := fun vs H Q E => ∃ (a : Addr) (L : LandD) (v : V) (D : PyData), vs = [.ref a, v] ∧ LandAt K H a L ∧ Dr K H v D ∧ (∀ z, D = .str z → z.length ≤ 1000000) ∧
  (∀ z s, v = .str z → hasD (L.ss.map (·.1)) D = true → ssGet L.ss z = some s → ∀ H', Evl.Ex H H' → Q (.str s) H') ∧
  (hasD (L.ss.map (·.1)) D = false → ∀ d H', Evl.Ex H H' → H' d = some (.xd [("street", v)]) → E (.ref (eC K "NoStreet")) (some d) H')
def rdFrom (z : Str) : Nat → List RD → List Int
  | _, [] => []
  | i, r :: rs => if r.b = z then (i : Int) :: rdFrom z (i + 1) rs else rdFrom z (i + 1) rs
def spFromX (K : PySem.W.Frag) : Sp := fun vs H Q E => ∃ (a : Addr) (L : LandD) (v : V) (D : PyData), vs = [.ref a, v] ∧ LandAt K H a L ∧ L.rq.length ≤ 16 ∧ Dr K H v D ∧ (∀ z, D = .str z → z.length ≤ 1000000) ∧
  (∀ z, v = .str z → hasD L.hs D = true → ∀ l H', Evl.Ex H H' → H l = none → H' l = some (.lst ((rdFrom z 0 (L.rq.map (·.2))).map V.int)) → Q (.ref l) H') ∧
  (hasD L.hs D = false → ∀ d H', Evl.Ex H H' → H' d = some (.xd [("house", v)]) → E (.ref (eC K "NoHouse")) (some d) H')
def lastAt (t : Int) : Addr × RN → List (Addr × RN) → Addr × RN
  | f, [] => f
  | f, q :: r => lastAt t (if q.2.s ≤ t then q else f) r
def spRuleAt (K : PySem.W.Frag) : Sp := fun vs H Q _ => ∃ (a : Addr) (L : LandD) (t : Int) (q : Addr × RN) (r : List (Addr × RN)), vs = [.ref a, .int t] ∧ LandAt K H a L ∧ L.uq = q :: r ∧ L.uq.length ≤ 60 ∧ Q (.ref (lastAt t q L.uq).1) H
end TP

namespace TP
open PySem PySem.Spec PyProof.Rows L2
/-! ### enumerate of a tuple (own text, on the kit's road for lists) -/
set_option maxHeartbeats 1000000 in
theorem meets_enumB {v : Value} {o : Obj} {H : Heap → Prop} (B : Begins v o H) :
    Meets (Builtin.«enumerate.__new__» ⟨[.type "enumerate", v], []⟩) (fun _ R s => H s.heap ∧
      R (.ok (.ret (.ref (s.heap.push o).objs.size))) { s with heap := (s.heap.push o).push { cls := .type "enumerate", data := .fields #[.none, .bool false, .ref s.heap.objs.size, rawInt 0, .none, .none] } }) :=
  .of_wp fun prog w A R s h => by
    obtain ⟨hp, g, d, tk, os⟩ := s
    obtain ⟨h1, h⟩ := h
    have hsub := sub_enumerate
    have q1 : ∀ {A' : Around} {E : Value → Shared → Prop} {Q : Value → Shared → Prop}, Q (.ref hp.objs.size) ⟨hp.push o, g, d, tk, os⟩ → wpAny (model prog w) A' (pyIter v) Q E ⟨hp, g, d, tk, os⟩ :=
      fun q => B.iter prog w _ _ ⟨hp, g, d, tk, os⟩ _ h1 q
    wp_walk using q1
    refine wpAny_stack_any fun st => wpAny_pure ?_
    split
    · rename_i c _ _ _ _ _
      cases (c == Value.type "enumerate")
      · wp_walk using q1
        exact ⟨_, rfl, h⟩
      · wp_walk using q1
        exact ⟨_, rfl, h⟩
    · wp_walk using q1
      exact ⟨_, rfl, h⟩
section
variable {prog : Program} {w : World} {A : Around} {E : Value → Shared → Prop} {s : Shared}
theorem call_enumT {t : Addr} {items : Array Value} {Q : Value → Shared → Prop} (ht : s.heap.IsTuple t items)
    (h : ∀ h', IsEnum h' (s.heap.objs.size + 1) s.heap.objs.size 0 .none → h'.IsTupleIter s.heap.objs.size t 0 → h'.objs.size = s.heap.objs.size + 2 →
      (∀ b o, s.heap.get? b = some o → h'.get? b = some o) → Q (.ref (s.heap.objs.size + 1)) { s with heap := h' }) :
    wpAny (model prog w) A (call (.type "enumerate") [.ref t]) Q E s := by
  have B := begins_tuple t items
  refine callType_new F.called_enumerate (by decide) (F.typeCall_enumerate_1 _) (F.newCall_enumerate_1 _) (fun obj => F.args_object_init_2 obj _) F.entry_enumerate_new
    (meets_enumB B) ⟨ht, ?_⟩
  have hz : ∀ o, (s.heap.push o).objs.size = s.heap.objs.size + 1 := fun o => Heap.size_push ..
  show _ ∧ _
  rw [hz]
  have he : ∀ o, IsEnum ((s.heap.push o).push { cls := .type "enumerate", data := .fields #[.none, .bool false, .ref s.heap.objs.size, rawInt 0, .none, .none] }) (s.heap.objs.size + 1) s.heap.objs.size 0 .none := fun o => by
    have := Heap.get?_push_size (s.heap.push o) (o := { cls := .type "enumerate", data := .fields #[.none, .bool false, .ref s.heap.objs.size, rawInt 0, .none, .none] }) rfl
    rw [hz] at this
    exact this
  exact ⟨⟨_, he _, rfl⟩, h _ (he _) ⟨_, Heap.get?_push_of_some _ (Heap.get?_push_size _ B.free), rfl, rfl⟩ (by rw [Heap.size_push, hz]) fun b o x => Heap.get?_push_of_some _ (Heap.get?_push_of_some _ x)⟩
end
/-- the tuple at a, each item in a new pair -/
def IteT (K : PySem.W.Frag) (a : Addr) : It :=
  ⟨fun i H => ∃ (xs : List V) (x : V), SqT K H a xs ∧ xs[i]? = some x, fun i H v H' => ∃ T x, v = .ref T ∧ H T = none ∧ H' = upd H T (.tup [.int (i : Nat), x]) ∧ ∀ xs, SqT K H a xs → xs[i]? = some x, fun i H => ∃ xs : List V, SqT K H a xs ∧ xs.length = i⟩
theorem tup_isT {h : Heap} {a : Addr} {its : Array Value} (p : IsTup h a its) : h.IsTuple a its := p
theorem turn_enumT {P : Program} {w : World} {K : PySem.W.Frag} {elts : List Expr} {kk : Nat} {tpos : Pos} (a e it : Addr) :
    Turn P w K (.Tuple elts kk tpos) (IteT K a) [e, it] e (fun i h => (∃ old, IsEnum h e it ((i : Nat) : Int) old) ∧ h.IsTupleIter it a i ∧ e ≠ it ∧ a ≠ it ∧ e ≠ a) where
  mem := by simp
  obj := fun i h st b hb => by
    obtain ⟨⟨old, he⟩, ⟨o, ho, hc, hd⟩, _⟩ := st
    have e' : b = e ∨ b = it := by simpa using hb
    rcases e' with z | z
    · rw [z]; exact ⟨_, he, fun v q => nomatch q⟩
    · rw [z]; exact ⟨o, ho, fun v q => by rw [hd] at q; cases q⟩
  keep := fun i h h' st k => let ⟨⟨old, he⟩, hi, hne⟩ := st; ⟨⟨old, k e (by simp) _ he⟩, hi.at fun o q => k it (by simp) o q, hne⟩
  item := by
    intro X hP hw hK hc i pins s σ H E I hf st hg
    subst hP hw hK
    obtain ⟨⟨old, he⟩, hit, hne, hai, hea⟩ := st
    obtain ⟨xs, x, hq, hx⟩ := hg
    obtain ⟨its, rv, p, hz⟩ := I.tuple hq
    obtain ⟨u, hu, ru⟩ := rv.get hx
    have hel : e < s.heap.objs.size := Heap.lt_size he
    have hil : it < s.heap.objs.size := by obtain ⟨_, q, _⟩ := hit; exact Heap.lt_size q
    have hlt : i < its.toArray.size := by
      have := (List.getElem?_eq_some_iff.mp hu).1
      simpa using this
    refine wpAny_pyNext_enum_itemD (Draws.tuple (A := X.A.in1) (show X.A.in1.handled = none from I.ok.hd hc) it a hai its.toArray) he ⟨hit, tup_isT p⟩ hlt hne (by simp [hne, hea]) fun x' h' tk hx' ho hit' hT hsz hk => ?_
    obtain rfl : x' = u := by
      have h2 : its.toArray[i]? = some u := by simpa using hu
      exact Option.some.inj (hx'.symm.trans h2)
    refine ⟨_, rfl, wpAny_letOwnedTupleGo_enum (s := { s with heap := h', toks := tk + 1 }) ho fun h'' he' sb => ?_⟩
    have hT2 : h''.get? s.heap.objs.size = some { cls := .type "tuple", data := .seq #[.int i tk, x'] } := (sb.2 _ (Nat.ne_of_gt hel)).trans hT
    have new : ObjOk X.prog X.w (upd H s.heap.objs.size (.tup [.int (i : Nat), x])) h'' s.heap.objs.size (.tup [.int (i : Nat), x]) :=
      ⟨by show 2 ≤ sizeLine; decide, [.int i tk, x'], .cons ⟨_, rfl⟩ (.cons ru .nil), ⟨_, hT2, rfl, _, rfl⟩⟩
    have I1 : Inv X pins σ (upd H s.heap.objs.size (.tup [.int (i : Nat), x])) { s with heap := h'', toks := tk + 1 } :=
      I.turnedNew (ch := [e, it]) (fun b ob hb q => (sb.2 b (fun z => hb (by simp [z]))).trans (hk b ob (fun z => hb (by simp [z])) (fun z => hb (by simp [z])) q)) hf (Nat.le_refl _) new
    refine ⟨.ref s.heap.objs.size, _, I1, rfl, ⟨_, x, rfl, I.hok.fresh (Nat.le_refl _), rfl, fun ys hy => by rw [I.tuple_inj hy hq]; exact hx⟩, ⟨⟨x', ?_⟩, hit'.1.at fun o q => (sb.2 it (Ne.symm hne)).trans q, hne, hai, hea⟩, fun b hb => ?_⟩
    · have e1 : ((i + 1 : Nat) : Int) = (i : Int) + 1 := by omega
      rw [e1]; exact he'
    · have hb' : b < s.heap.objs.size := by
        have e' : b = e ∨ b = it := by simpa using hb
        rcases e' with z | z
        · rw [z]; exact hel
        · rw [z]; exact hil
      rw [upd_ne (Nat.ne_of_lt hb')]
      exact (hf b hb).1
  done := by
    intro X hP hw hK hc i pins s σ H E I hf st hg
    subst hP hw hK
    obtain ⟨⟨old, he⟩, hit, hne, hai, hea⟩ := st
    obtain ⟨xs, hq, hx⟩ := hg
    obtain ⟨its, rv, p, hz⟩ := I.tuple hq
    obtain ⟨f0, f1, f2, f3, f4, f5⟩ := hf it (by simp)
    have hl := rv.length
    have hn : its.toArray.size = i := by simp; omega
    subst hn
    exact wpAny_pyNext_enum_endD (Draws.tuple (A := X.A.in1) (show X.A.in1.handled = none from I.ok.hd hc) it a hai its.toArray) he ⟨hit, tup_isT p⟩ fun h' eb => ⟨rfl, I.turned (t' := s.toks) (fun b o hb q => eb b o hb q) f0 f1 f3 f4 f5⟩
  self := fun A i s Q E st h => let ⟨⟨_, he⟩, _⟩ := st; wpAny_pyIter_enum he h
def iEnumT (K : PySem.W.Frag) (ta : TA) : TI := fun σ H R => ta σ H fun vs H1 => ∃ a xs, vs = [.ref a] ∧ SqT K H1 a xs ∧ R (IteT K a) H1
theorem pi_enumT {X : Cx} {e : Expr} {ta : TA} {p pos tpos : Pos} {elts : List Expr} {kk : Nat} (hg : Gl X "enumerate") (hm : X.mg "enumerate" = none) (ha : PA X [e] ta) (hs : starEach [e] X.env = [(false, eval e X.env)] := by rfl) :
    PI X (.Tuple elts kk tpos) (.Call (.Name "enumerate" p) [e] [] pos) (iEnumT X.K ta) := by
  refine ⟨fun pins s σ H R I h => ?_⟩
  refine Call_ (ld_blt I hg hm boot_enumerate (PyProof.Rows.callWith_type1 (thn (ha.run pos pins s σ H _ I h) fun us s1 ⟨vs, H1, I1, r1, q1⟩ => ?_) hs rfl))
  obtain ⟨a, xs, ex, hq, q⟩ := q1
  subst ex
  cases r1 with
  | cons r rr =>
    cases rr
    cases r
    obtain ⟨its, rv, p', hz⟩ := I1.tuple hq
    have hal : a < s1.heap.objs.size := by obtain ⟨_, q, _⟩ := p'; exact Heap.lt_size q
    refine call_enumT (tup_isT p') fun h' he hit hsz hk => wpAny_pyIter_enum he ?_
    have I2 : Inv X pins σ H1 { s1 with heap := h' } := I1.kept (t' := s1.toks) hk
    refine ⟨s1.heap.objs.size + 1, [s1.heap.objs.size + 1, s1.heap.objs.size], _, _, H1, rfl, I2, turn_enumT a (s1.heap.objs.size + 1) s1.heap.objs.size, ⟨⟨.none, he⟩, hit, Nat.succ_ne_self _, Nat.ne_of_lt hal, Nat.ne_of_gt (Nat.lt_succ_of_lt hal)⟩, fun b hb => ?_, q⟩
    have e' : b = s1.heap.objs.size + 1 ∨ b = s1.heap.objs.size := by simpa using hb
    have hle : s1.heap.objs.size ≤ b := by
      rcases e' with z | z
      · rw [z]; exact Nat.le_add_right _ _
      · rw [z]; exact Nat.le_refl _
    exact I1.fpOk hle (I1.hok.fresh hle)
theorem walk_enumT {K : PySem.W.Frag} {a : Addr} {xs : List V} : Walk (IteT K a) xs.length (fun H => SqT K H a xs) (YPair (fun i => some (.int (i : Nat))) (fun i => xs[i]?)) := by
  refine ⟨fun i _ hi q => ⟨xs, xs[i], q, by simp [hi]⟩, fun _ q => ⟨xs, q, rfl⟩, fun i H v H' _ q y => ?_⟩
  obtain ⟨T, x, h1, h2, h3, h4⟩ := y
  exact ⟨T, .int (i : Nat), x, h1, h2, h3, rfl, h4 xs q⟩
theorem rdFrom_snoc (z : Str) (r : RD) : ∀ (l : List RD) (j : Nat), rdFrom z j (l ++ [r]) = rdFrom z j l ++ (if r.b = z then [((j + l.length : Nat) : Int)] else [])
  | [], j => by
    show (if r.b = z then _ else _) = _
    by_cases h : r.b = z
    · rw [if_pos h, if_pos h]
      rfl
    · rw [if_neg h, if_neg h]
      rfl
  | q :: l, j => by
    show (if q.b = z then (j : Int) :: rdFrom z (j + 1) (l ++ [r]) else rdFrom z (j + 1) (l ++ [r])) = (if q.b = z then _ else _) ++ _
    rw [rdFrom_snoc z r l (j + 1), List.length_cons, show j + 1 + l.length = j + (l.length + 1) by omega]
    by_cases h : q.b = z
    · rw [if_pos h, if_pos h]
      rfl
    · rw [if_neg h, if_neg h]
theorem rdFrom_len (z : Str) : ∀ (l : List RD) (j : Nat), (rdFrom z j l).length ≤ l.length
  | [], _ => Nat.le_refl _
  | q :: l, j => by
    show (if q.b = z then _ else _ : List Int).length ≤ _
    have := rdFrom_len z l (j + 1)
    split
    · rw [List.length_cons, List.length_cons]
      omega
    · rw [List.length_cons]
      omega
end TP

namespace TP
open PySem PySem.Spec PyProof.Rows L2
structure TkOk (ts : List Int) : Prop where
  hd : ts.head? = some 0
  pw : ts.Pairwise (· < ·)
  nn : ∀ t ∈ ts, 0 ≤ t ∧ t < 10 ^ 11
  ln : ts.length ≤ 4
def spLRules (K : PySem.W.Frag) : Sp := fun vs H Q _ => ∃ (w : Addr) (n : Nat), vs = [.ref w] ∧ Wl H w n ∧ n < 700000 ∧
  ∀ (l : Addr) (ts : List Int) (H' : Hp), Dn w (n + 10) H H' → H l = none → l ≠ w → H' l = some (.lst (ts.map V.int)) → TkOk ts → Q (.ref l) H'
def dueAt (ts : List Int) (t : Int) : Int := ((ts.filter fun b => decide (b ≤ t)).length : Int) - 1
def spDueAt (K : PySem.W.Frag) : Sp := fun vs H Q _ => ∃ (l : Addr) (ts : List Int) (t : Int), vs = [.ref l, .int t] ∧ SqL K H l (ts.map V.int) ∧ ts.length ≤ 60 ∧ ∀ H', Evl.Ex H H' → Q (.int (dueAt ts t)) H'
end TP

namespace TP
open PySem PySem.Spec PyProof.Rows L2
theorem kv_vals {kvs : List (Key × V)} {vs : List (Key × Value)} (r : KV kvs vs) : Vals (kvs.map (·.2)) (vs.map (·.2)) := by
  unfold KV at r
  induction r with
  | nil => exact .nil
  | cons h _ ih => exact .cons h.2 ih
/-- list(d.values()) -/
def tListV (td : TE) : TE := fun σ H Q => td σ H fun x H1 => ∃ d kvs, x = .ref d ∧ H1 d = some (.dK kvs) ∧ ∀ q, H1 q = none → Q (.ref q) (upd H1 q (.lst (kvs.map (·.2))))
theorem pe_listVals {X : Cx} {e : Expr} {td : TE} {p pos apos cpos : Pos} (hc : X.calm = true) (hg : Gl X "list") (hm : X.mg "list" = none) (he : PE X e td) (hbase : attributeBase e "values" X.env (eval e X.env) = eval e X.env := by rfl) (hline : (apos.endLine == cpos.line) = true := by rfl)
    (na : starEach [.Call (.Attribute e "values" apos) [] [] cpos] X.env = (false, eval (.Call (.Attribute e "values" apos) [] [] cpos) X.env) :: starEach [] X.env := by rfl) : PE X (.Call (.Name "list" p) [.Call (.Attribute e "values" apos) [] [] cpos] [] pos) (tListV td) := by
  refine ⟨fun pins s σ H Q I h => ?_⟩
  refine Call_ (ld_blt I hg hm boot_list (PyProof.Rows.callWith_type1 (args_cons ?_ na) na))
  refine wpAny_Call_method (T := "dict") (id := "dict.values") hbase rfl hline F.plainAttrs_dict F.slot_dict_values F.type_dict_values (thn (he.run pins s σ H _ I h) fun u s1 ⟨x, H1, I1, rx, d, kvs, ex, hd, q⟩ => ?_)
  subst ex
  obtain rfl : u = Value.ref d := rx
  obtain ⟨z, lo, vs, rk, hdd⟩ := (show ObjOk X.prog X.w H1 s1.heap d (.dK kvs) from I1.hok d _ hd)
  obtain ⟨ep, hat⟩ := hdd.dictAt
  have hl : kvs.length = vs.length := Paired.length rk
  refine ⟨hat.dictOf.typeIs, hat.dictOf.mapOf.noDict, ?_⟩
  show wpAny _ _ (callWith cpos (.builtin "dict.values") [.ref d] [] []) _ X.xe s1
  refine method_meetsIn F.slot_dict_values F.entry_dict_values rfl (PySem.evalArgs_none ⟨rfl, hat.dictOf.typeIs, F.args_dict_values_1 _, _, meets_dict_values (mixKind X.prog X.w) d lo, ⟨vs, hat.dictOf⟩, ?_⟩)
  have I2 : Inv X pins σ H1 { s1 with heap := s1.heap.push { cls := .type "dict_values", data := .fields #[.ref d] } } := I1.kept (t' := s1.toks) fun b ob q => Heap.get?_push_of_some _ q
  refine args_nil ?_
  refine PySem.W.kdl_call (PySem.W.kdl_values (knd := mixKind X.prog X.w) (kvs := vs) (ep := ep) (r := s1.heap.objs.size) (d := d)) (I2.ok.hd hc) ⟨⟨_, Heap.get?_push_size _ rfl, rfl, rfl⟩, hat.push _⟩ (by rw [← hl]; exact z) fun h' tk acc' c' hkeep hS hacc => ?_
  refine ⟨.ref _, upd H1 _ (.lst (kvs.map (·.2))), I2.laid hkeep (Nat.le_refl _) (show ObjOk X.prog X.w _ _ _ (.lst (kvs.map (·.2))) from ⟨?_, acc'.toList, c', ?_, ?_⟩), rfl, q _ (I2.hok.fresh (Nat.le_refl _))⟩
  · rw [List.length_map]
    exact z
  · have el : acc'.toList.length = acc'.size := by simp
    refine vals_of_at (by rw [List.length_map, el, hacc.1, hl]) fun j x w h1 h2 => ?_
    obtain ⟨k, hky⟩ := hacc.2 j w (by rw [← Array.getElem?_toList]; exact h2)
    obtain ⟨u, hu, ru⟩ := (kv_vals rk).get h1
    rw [List.getElem?_map, hky] at hu
    obtain rfl : w = u := Option.some.inj hu
    exact ru
  · rw [Array.toArray_toList]
    exact hS
def uqT (uq : List (Addr × RN)) : List (Int × Int) := uq.map fun q => (q.2.s, q.2.b)
def LandNe (K : PySem.W.Frag) (H : Hp) (a : Addr) (L : LandD) (b : Addr) : Prop := ∃ dx ht st rt ut, LandI K H a dx ht st rt ut L ∧ st ≠ b
structure RtIn (K : PySem.W.Frag) (H : Hp) (la ha sa pa ta : Addr) (bn : Int) (L : LandD) (hs : List Str) (ss : List (Str × Str)) (rq : List (Addr × RD)) (ts : List Int) : Prop where
  l : LandNe K H la L sa
  h : SqL K H ha (hs.map V.str)
  s : H sa = some (.dK (ssK ss))
  r : SqL K H pa (rqV rq)
  rs : ∀ q ∈ rq, SqT K H q.1 q.2.vs
  t : SqL K H ta (ts.map V.int)
  eh : L.hs = hs
  es : L.ss = ss
  er : L.rq.map (·.2) = rq.map (·.2)
  eb : L.bn = bn
  eu : uqT L.uq = ts.map fun t => (t, t % 7)
  hok : HsOk hs
  sok : SsOk hs ss
  rok : ∀ q ∈ rq, q.2.ok hs ∧ RB q.2
  rl : rq.length ≤ 16
  b0 : 0 ≤ bn
  b9 : bn ≤ 9
  tok : TkOk ts
def spRight (K : PySem.W.Frag) : Sp := fun vs H Q _ => ∃ (la ha sa pa ta : Addr) (bn : Int) (L : LandD) (hs : List Str) (ss : List (Str × Str)) (rq : List (Addr × RD)) (ts : List Int), vs = [.ref la, .ref ha, .ref sa, .ref pa, .int bn, .ref ta] ∧ RtIn K H la ha sa pa ta bn L hs ss rq ts ∧ ∀ H', Evl.Ex H H' → Q (.bl true) H'
end TP

namespace TP
open PySem PySem.Spec PyProof.Rows L2
def rdD (r : RD) : PyData := .tuple [.str r.b, .str r.g, .int r.f, .int r.e, .int r.t]
def landD (hs : List Str) (rs : List RD) (bn : Int) : PyData := .tuple [.tuple (hs.map PyData.str), .tuple (rs.map rdD), .int bn]
theorem drAll_strs' {K : PySem.W.Frag} {H : Hp} : ∀ hs : List Str, DrAll K H (hs.map V.str) (hs.map PyData.str)
  | [] => .nil
  | z :: hs => .cons (.str z) (drAll_strs' hs)
theorem drAll_roads {K : PySem.W.Frag} {H : Hp} : ∀ {rq : List (Addr × RD)}, (∀ q ∈ rq, SqT K H q.1 q.2.vs) → DrAll K H (rqV rq) ((rq.map (·.2)).map rdD)
  | [], _ => .nil
  | q :: rq, h => .cons (.tup (h q (List.mem_cons_self ..)) (.cons (.str _) (.cons (.str _) (.cons (.int _) (.cons (.int _) (.cons (.int _) .nil)))))) (drAll_roads fun q' hq => h q' (List.mem_cons_of_mem _ hq))
theorem sz_land {hs : List Str} {rq : List (Addr × RD)} {bn : Int} (hok : HsOk hs) (rok : ∀ q ∈ rq, q.2.ok hs ∧ RB q.2) (rl : rq.length ≤ 16) (b0 : 0 ≤ bn) (b9 : bn ≤ 9) :
    (landD hs (rq.map (·.2)) bn).showable = true ∧ (landD hs (rq.map (·.2)) bn).depth ≤ 50 ∧ (landD hs (rq.map (·.2)) bn).shown.length ≤ sizeLine := by
  have s8 : ∀ {z : Str}, NmP z → Sz 100 0 (.str z) := fun {z} h => (Sz.str h.as).mono (by decide) (Nat.le_refl _)
  have nI : ∀ {i : Int}, 0 ≤ i → i < 10 ^ 8 → Sz 100 0 (.int i) := fun h0 h1 => Sz.nat h0 (Int.lt_trans h1 (by decide))
  have h1 : Sz 9000 2 (.tuple (hs.map PyData.str)) := (Sz.tup (B := 100) (k := 0) (n := 8) (fun d hd => by
    obtain ⟨z, hz, rfl⟩ := List.mem_map.mp hd
    exact s8 (hok.nm z hz)) (by rw [List.length_map]; exact hok.hi)).mono (by decide) (by decide)
  have h2 : Sz 9000 2 (.tuple ((rq.map (·.2)).map rdD)) := (Sz.tup (B := 513) (k := 1) (n := 16) (fun d hd => by
    obtain ⟨r, hr, rfl⟩ := List.mem_map.mp hd
    obtain ⟨q, hq, rfl⟩ := List.mem_map.mp hr
    obtain ⟨ok, rb⟩ := rok q hq
    have := ok.f0
    have := ok.e1
    have := ok.t1
    have := rb.f
    have := rb.e
    have := rb.t
    exact (Sz.tup (B := 100) (k := 0) (n := 5) (fun d hd => by
      simp only [List.mem_cons, List.not_mem_nil, or_false] at hd
      rcases hd with rfl | rfl | rfl | rfl | rfl
      · exact s8 ok.nb
      · exact s8 ok.ng
      · exact nI (by omega) (by omega)
      · exact nI (by omega) (by omega)
      · exact nI (by omega) (by omega)) (Nat.le_refl _)).mono (by decide) (by decide)) (by rw [List.length_map, List.length_map]; exact rl)).mono (by decide) (by decide)
  have h3 : Sz 9000 2 (.int bn) := (nI b0 (by omega)).mono (by decide) (by decide)
  exact (Sz.tup (B := 9000) (k := 2) (n := 3) (fun d hd => by
    simp only [List.mem_cons, List.not_mem_nil, or_false] at hd
    rcases hd with rfl | rfl | rfl
    · exact h1
    · exact h2
    · exact h3) (Nat.le_refl _)).rp
theorem land_repr {K : PySem.W.Frag} {H : Hp} {v : V} {Q : VK} {d : PyData} (z : d.showable = true ∧ d.depth ≤ 50 ∧ d.shown.length ≤ sizeLine) (hd : Dr K H v d) (q : Q (.str d.shown) H) : rRepr K [v] H Q :=
  ⟨v, d, rfl, hd, z.1, z.2.1, z.2.2, q⟩
theorem iteF' {b : Bool} {A B : Prop} (h : b = false) (a : B) : if b = true then A else B := by
  rw [h]
  exact a
theorem ss_same {ss : List (Str × Str)} (nd : (ss.map (·.1)).Nodup) : ∀ p ∈ ssK ss, valV (ssK ss) p.1 = some p.2 ∧ flatB p.2 = true := by
  intro p hp
  obtain ⟨q, hq, rfl⟩ := List.mem_map.mp hp
  refine ⟨?_, rfl⟩
  show valV (ssK ss) (.inr q.1) = _
  rw [ssGet_val]
  induction ss with
  | nil => cases hq
  | cons r rs ih =>
    unfold ssGet
    rw [List.map_cons, List.nodup_cons] at nd
    rcases List.mem_cons.mp hq with e | h
    · rw [e, if_pos rfl]
      rfl
    · have ne : r.1 ≠ q.1 := fun e => nd.1 (by rw [e]; exact List.mem_map.mpr ⟨q, h, rfl⟩)
      rw [if_neg ne]
      exact ih nd.2 h (List.mem_map.mpr ⟨q, h, rfl⟩)
end TP

namespace TP
open PySem PySem.Spec PyProof.Rows L2
/-! lists of pairs of numbers compared; lists of texts compared -/
def prD (p : Int × Int) : PyData := .tuple [.int p.1, .int p.2]
theorem dpPrs {K : PySem.W.Frag} {H : Hp} : ∀ {as : List Addr} {l : List (Int × Int)}, as.length = l.length → (∀ (j : Nat) a p, as[j]? = some a → l[j]? = some p → H a = some (.tup [.int p.1, .int p.2])) → DpAll K H (as.map V.ref) (l.map prD)
  | [], [], _, _ => .nil
  | [], _ :: _, h, _ => by simp at h
  | _ :: _, [], h, _ => by simp at h
  | a :: as, p :: l, h, f => .cons (.tup (SqT.of (f 0 a p rfl rfl)) (.cons (.int _) (.cons (.int _) .nil))) (dpPrs (by simpa using h) fun j b q h1 h2 => f (j + 1) b q (by simpa using h1) (by simpa using h2))
theorem canPrs : ∀ l : List (Int × Int), PyData.canLayAll0 (l.map prD) = true ∧ PyData.depthAll (l.map prD) ≤ 1
  | [] => ⟨rfl, by show 0 ≤ 1; decide⟩
  | i :: l => by
    obtain ⟨h1, h2⟩ := canPrs l
    exact ⟨by show (PyData.canLay0 (prD i) && PyData.canLayAll0 (l.map prD)) = true; rw [h1]; rfl, by show max (prD i).depth (PyData.depthAll _) ≤ 1; exact Nat.max_le.mpr ⟨by show 1 ≤ 1; decide, h2⟩⟩
theorem shapedPrs (l : List (Int × Int)) : SeqAt.shaped (.list (l.map prD)) = true := by
  unfold SeqAt.shaped
  have h := (canPrs l).2
  rw [show PyData.canLay0 (.list (l.map prD)) = true from (canPrs l).1, show (PyData.list (l.map prD)).depth = PyData.depthAll (l.map prD) + 1 from rfl, decide_eq_true (by omega)]
  rfl
theorem nePrs {K : PySem.W.Frag} {H : Hp} {p q : Addr} {l : List (Int × Int)} {as bs : List Addr} {Q : VK} (h1 : H p = some (.lst (as.map V.ref))) (h2 : H q = some (.lst (bs.map V.ref))) (la : as.length = l.length) (lb : bs.length = l.length)
    (fa : ∀ (j : Nat) a p, as[j]? = some a → l[j]? = some p → H a = some (.tup [.int p.1, .int p.2])) (fb : ∀ (j : Nat) a p, bs[j]? = some a → l[j]? = some p → H a = some (.tup [.int p.1, .int p.2])) (k : Q (.bl false) H) : rNeD K (.ref p) (.ref q) H Q := by
  refine ⟨_, _, .lst (SqL.of h1) (dpPrs la fa), .lst (SqL.of h2) (dpPrs lb fb), shapedPrs l, shapedPrs l, ?_⟩
  rw [show PyData.eqv (.list (l.map prD)) (.list (l.map prD)) = true from PySem.SeqAt.eqv_refl _ (canPrs l).1]
  exact k
theorem dpStrs2 {K : PySem.W.Frag} {H : Hp} : ∀ l : List Str, DpAll K H (l.map V.str) (l.map PyData.str)
  | [] => .nil
  | _ :: l => .cons (.str _) (dpStrs2 l)
theorem canStrs2 : ∀ l : List Str, (∀ z ∈ l, PyData.strOk z = true) → PyData.canLayAll0 (l.map PyData.str) = true ∧ PyData.depthAll (l.map PyData.str) = 0
  | [], _ => ⟨rfl, rfl⟩
  | i :: l, hg => by
    obtain ⟨h1, h2⟩ := canStrs2 l fun z hz => hg z (List.mem_cons_of_mem _ hz)
    refine ⟨?_, by show max 0 (PyData.depthAll _) = 0; rw [h2]; rfl⟩
    show (PyData.canLay0 (.str i) && PyData.canLayAll0 (l.map PyData.str)) = true
    rw [h1, show PyData.canLay0 (.str i) = true from hg i (List.mem_cons_self ..)]
    rfl
theorem neStrs {K : PySem.W.Frag} {H : Hp} {p q : Addr} {l : List Str} {xs ys : List V} {Q : VK} (h1 : H p = some (.lst xs)) (h2 : H q = some (.lst ys)) (e1 : xs = l.map V.str) (e2 : ys = l.map V.str) (hg : ∀ z ∈ l, PyData.strOk z = true) (k : Q (.bl false) H) : rNeD K (.ref p) (.ref q) H Q := by
  subst e1 e2
  have sh : SeqAt.shaped (.list (l.map PyData.str)) = true := by
    unfold SeqAt.shaped
    rw [show PyData.canLay0 (.list (l.map PyData.str)) = true from (canStrs2 l hg).1, show (PyData.list (l.map PyData.str)).depth = PyData.depthAll (l.map PyData.str) + 1 from rfl, (canStrs2 l hg).2]
    decide
  refine ⟨_, _, .lst (SqL.of h1) (dpStrs2 l), .lst (SqL.of h2) (dpStrs2 l), sh, sh, ?_⟩
  rw [show PyData.eqv (.list (l.map PyData.str)) (.list (l.map PyData.str)) = true from PySem.SeqAt.eqv_refl _ (canStrs2 l hg).1]
  exact k
end TP

namespace TP
open PySem PySem.Spec PyProof.Rows L2
section
variable {X : Cx} {CX : CXT} {k n : Nat} {d : He.DefD} {C : Addr} {ps ks : List Str} {sp : Sp} {E : XK} {x : Str} {p pos : Pos} {kws : List Keyword} {tk : TA} {js is : List Nat}
theorem GtF.makeK0L (K : PySem.W.Frag) (G : GtF X.prog X.w X.K X.mg X.base CX k d ps sp) (B : Kb d ps 1 ks js is) (M : Mk X.K C (He.fAd X.K d.at_)) (hm : X.mg x = some (.ref C)) (hr : Room (k + 1) X.A) (hx : Passes CX X E) (hkw : PK X kws tk) (hK : X.K = K := by rfl) (hg : Gl X x := by rfl)
    (hall : (backToKw pos (keywordEach kws X.env)).all (·.1.isSome) = true := by rfl) (hks : (backToKw pos (keywordEach kws X.env)).filterMap (·.1) = ks := by rfl) (hdb : (x == ("__debug__" : Str)) = false := by decide)
    (hpl : ((backTo pos (starEach [] X.env)).any (·.1) || (backToKw pos (keywordEach kws X.env)).any (·.1.isNone)) = false := by rfl) :
    PE X (.Call (.Name x p) [] kws pos) (tMakeK C 0 ks.length sp (gK d js is K) E tNil tk) := by
  subst hK
  exact GtF.makeK0 G B M hm hr hx hkw hg hall hks hdb hpl
end
/-! what is neither a tuple nor locked nor an object -/
inductive Loose : HO → Prop
  | lst (xs : List V) : Loose (.lst xs)
  | dK (kvs : List (Key × V)) : Loose (.dK kvs)
theorem Loose.tup {u : HO} (l : Loose u) (xs : List V) : u ≠ .tup xs := by cases l <;> intro z <;> cases z
theorem Loose.frz {u : HO} (l : Loose u) (o : Obj) (v : HO) : u ≠ .frz o v := by cases l <;> intro z <;> cases z
theorem Loose.ins {u : HO} (l : Loose u) (C dx : Addr) (fs : List (Str × V)) : u ≠ .ins C dx fs := by cases l <;> intro z <;> cases z
theorem at_put {H : Hp} {b p : Addr} {o u v : HO} (h : H p = some v) (hb : H b = some u) (n : u ≠ v) : upd H b o p = some v := by
  rw [upd_ne (fun e => n (by rw [e, hb] at h; exact Option.some.inj h))]
  exact h
theorem sqt_put {K : PySem.W.Frag} {H : Hp} {b p : Addr} {o u : HO} {ys : List V} (h : SqT K H p ys) (hb : H b = some u) (l : Loose u) : SqT K (upd H b o) p ys := by
  rcases h with (h | ⟨o', h⟩) | h
  · exact .inl (.inl (at_put h hb (l.tup _)))
  · exact .inl (.inr ⟨o', at_put h hb (l.frz _ _)⟩)
  · exact .inr h
theorem sql_put {K : PySem.W.Frag} {H : Hp} {b p : Addr} {o : HO} {ys : List V} (h : SqL K H p ys) (n : p ≠ b) : SqL K (upd H b o) p ys := sql_stay (fun o' q => by rw [upd_ne n]; exact q) h
theorem Rw.put {K : PySem.W.Frag} {H : Hp} {b p : Addr} {o u : HO} {ys : List V} (h : Rw K H p ys) (hb : H b = some u) (l : Loose u) (n : p ≠ b) : Rw K (upd H b o) p ys := by
  rcases h with h | h
  · exact .inl (sql_put h n)
  · exact .inr (sqt_put h hb l)
theorem Ru.put {K : PySem.W.Frag} {H : Hp} {b p : Addr} {o u : HO} {r : RN} (h : Ru K H p r) (hb : H b = some u) (l : Loose u) : Ru K (upd H b o) p r := by
  obtain ⟨dx, h⟩ := h
  exact ⟨dx, at_put h hb (l.ins _ _ _)⟩
theorem LandI.put {K : PySem.W.Frag} {H : Hp} {a dx ht st rt ut b : Addr} {o u : HO} {L : LandD} (h : LandI K H a dx ht st rt ut L) (hb : H b = some u) (l : Loose u) (n : st ≠ b) : LandI K (upd H b o) a dx ht st rt ut L :=
  ⟨at_put h.o hb (l.ins _ _ _), sqt_put h.h hb l, by rw [upd_ne n]; exact h.s, sqt_put h.r hb l, fun q hq => sqt_put (h.rs q hq) hb l, sqt_put h.u hb l, fun q hq => (h.us q hq).put hb l⟩
theorem LandNe.put {K : PySem.W.Frag} {H : Hp} {a b c : Addr} {o u : HO} {L : LandD} (h : LandNe K H a L c) (hb : H b = some u) (l : Loose u) (n : ∀ st, H st = some (.dK (ssK L.ss)) → st ≠ c → st ≠ b) : LandNe K (upd H b o) a L c := by
  obtain ⟨dx, ht, st, rt, ut, h, ne⟩ := h
  exact ⟨dx, ht, st, rt, ut, h.put hb l (n st h.s ne), ne⟩
theorem LandNe.putL {K : PySem.W.Frag} {H : Hp} {a b c : Addr} {o : HO} {L : LandD} {xs : List V} (h : LandNe K H a L c) (hb : H b = some (.lst xs)) : LandNe K (upd H b o) a L c :=
  h.put hb (.lst _) fun st hs _ => ne_of hs hb fun z => nomatch z
theorem LandNe.ex {K : PySem.W.Frag} {H H' : Hp} {a b : Addr} {L : LandD} (h : LandNe K H a L b) (e : Evl.Ex H H') : LandNe K H' a L b := by
  obtain ⟨dx, ht, st, rt, ut, h, ne⟩ := h
  exact ⟨dx, ht, st, rt, ut, h.ex e, ne⟩
/-- locked while it is walked, and back -/
theorem unlock_ex {H H' : Hp} {d : Addr} {od : Obj} {u : HO} (h : H d = some u) (e : Evl.Ex (upd H d (.frz od u)) H') : Evl.Ex H (upd H' d u) := fun b o hb => by
  by_cases q : b = d
  · subst q
    rw [upd_same, ← h]
    exact hb
  · rw [upd_ne q]
    exact e b o (by rw [upd_ne q]; exact hb)
/-! ### a comprehension that lays a tuple at each turn -/
theorem lc_tups {J : It} {n : Nat} {G : Hp → Prop} {Y : Nat → Hp → V → Hp → Prop} (w : Walk J n G Y) {g : TG} {tt : TT} {te : TE} {vs : List Nat} {σ : L2.St} {H1 : Hp} {D : Addr} {Qd : Hp → Prop} (F : Nat → List V)
    (hD : H1 D = none) (hn : n < 1000000) (hG : ∀ H, Evl.Ex H1 H → G H)
    (hs : ∀ (i : Nat) (x : V) (H H' : Hp) (C : V → Hp → Prop) (N : Hp → Prop), i < n → Evl.Ex H1 H → Y i H x H' → (∀ p H4, H p = none → Evl.Ex H H4 → H4 p = some (.tup (F i)) → C (.ref p) H4) →
      g x (wipe σ vs) H' fun σ2 H2 => wipe σ2 vs = wipe σ vs ∧ tt σ2 H2 fun b H3 => if b = true then te σ2 H3 C else N H3)
    (hd : ∀ H' (as : List Addr), Evl.Ex H1 H' → H' D = some (.lst (as.map V.ref)) → as.length = n → (∀ (j : Nat) a, as[j]? = some a → H' a = some (.tup (F j)) ∧ H1 a = none) → Qd H') :
    ∃ W : Nat → Nat → Hp → Prop, (∃ m, W 0 m (upd H1 D (.lst []))) ∧ ∀ i m H, W i m H →
      (J.stop i H ∧ Qd H) ∨ (J.go i H ∧ ∃ Nx : Hp → Prop, (∀ H', Nx H' → ∃ m', m' < m ∧ W (i + 1) m' H') ∧ ∀ x H', J.yld i H x H' → g x (wipe σ vs) H' fun σ2 H2 => wipe σ2 vs = wipe σ vs ∧ tt σ2 H2 fun b H3 =>
        if b = true then te σ2 H3 fun y H4 => ∃ acc, H4 D = some (.lst acc) ∧ acc.length < sizeLine ∧ Nx (upd H4 D (.lst (acc ++ [y]))) else Nx H3) := by
  refine lc_it w (fun i H => Evl.Ex H1 H ∧ ∃ as : List Addr, H D = some (.lst (as.map V.ref)) ∧ as.length = i ∧ ∀ (j : Nat) a, as[j]? = some a → H a = some (.tup (F j)) ∧ H1 a = none) ⟨Evl.Ex.new hD, [], upd_same, rfl, fun j a h => nil_at h⟩ (fun i H _ q => hG H q.1) (fun i x H H' hi q y => ?_) (fun H q => ?_)
  · obtain ⟨e, as, ha, hl, hf⟩ := q
    refine hs i x H H' _ _ hi e y fun p H4 hp e4 h4 => ⟨_, e4 _ _ ha, ?_, fun b o hb => ?_, as ++ [p], ?_, by simp [hl], fun j a hj => ?_⟩
    · rw [List.length_map, hl]
      have : sizeLine = 16777216 := sizeLine_eq
      omega
    · rw [upd_ne (ne_of_none hb hD)]
      exact e4 _ _ (e _ _ hb)
    · rw [upd_same, List.map_append]
      rfl
    · have hpD : p ≠ D := Ne.symm (ne_of_none ha hp)
      rcases snoc_at hj with h | ⟨h1, h2⟩
      · obtain ⟨f1, f2⟩ := hf j a h
        have : a ≠ D := ne_of f1 ha (fun z => nomatch z)
        rw [upd_ne this]
        exact ⟨e4 _ _ f1, f2⟩
      · rw [h2, h1, hl, upd_ne hpD]
        exact ⟨h4, Ex.free e hp⟩
  · obtain ⟨e, as, ha, hl, hf⟩ := q
    exact hd H as e ha hl hf
/-! ### the rule of a tick -/
theorem filter_prefix {t : Int} : ∀ {l : List Int}, l.Pairwise (· < ·) → l.filter (fun b => decide (b ≤ t)) = l.take (l.filter fun b => decide (b ≤ t)).length
  | [], _ => rfl
  | a :: l, h => by
    obtain ⟨h1, h2⟩ := List.pairwise_cons.mp h
    by_cases q : a ≤ t
    · rw [List.filter_cons_of_pos (by simpa using q), List.length_cons, List.take_succ_cons, ← filter_prefix h2]
    · have e : l.filter (fun b => decide (b ≤ t)) = [] := List.filter_eq_nil_iff.mpr fun b hb => by
        have := h1 b hb
        simp
        omega
      rw [List.filter_cons_of_neg (by simpa using q), e]
      rfl
theorem lastAt_filter (t : Int) : ∀ (l : List (Addr × RN)) (f : Addr × RN), (lastAt t f l).2.s = ((l.map fun q => q.2.s).filter fun b => decide (b ≤ t)).getLastD f.2.s
  | [], f => rfl
  | q :: l, f => by
    show (lastAt t (if q.2.s ≤ t then q else f) l).2.s = _
    rw [lastAt_filter t l, List.map_cons]
    by_cases e : q.2.s ≤ t
    · rw [if_pos e, List.filter_cons_of_pos (by simpa using e), List.getLastD_cons]
    · rw [if_neg e, List.filter_cons_of_neg (by simpa using e)]
theorem due_last {ts : List Int} {t : Int} {q : Addr × RN} {l : List (Addr × RN)} (ok : TkOk ts) (h : l.map (fun q => q.2.s) = ts) (t0 : 0 ≤ t) : ∃ j : Nat, dueAt ts t = (j : Int) ∧ ts[j]? = some (lastAt t q l).2.s := by
  have hp := filter_prefix (t := t) ok.pw
  have h0 : (0 : Int) ∈ ts := List.mem_of_mem_head? (by rw [ok.hd]; rfl)
  have hm : (0 : Int) ∈ ts.filter fun b => decide (b ≤ t) := List.mem_filter.mpr ⟨h0, by simpa using t0⟩
  have hl : 0 < (ts.filter fun b => decide (b ≤ t)).length := List.length_pos_of_mem hm
  refine ⟨(ts.filter fun b => decide (b ≤ t)).length - 1, by unfold dueAt; omega, ?_⟩
  rw [lastAt_filter, h]
  generalize hf : ts.filter (fun b => decide (b ≤ t)) = F at hp hl
  have e1 : F[F.length - 1]? = some (F.getLastD q.2.s) := by
    cases F with
    | nil => simp at hl
    | cons a F =>
      rw [← List.getLast?_eq_getElem?, List.getLastD_eq_getLast?]
      cases h : (a :: F).getLast? with
      | none => simp at h
      | some z => rfl
  rw [← e1]
  have e2 : F[F.length - 1]? = (ts.take F.length)[F.length - 1]? := by rw [← hp]
  rw [e2, List.getElem?_take, if_pos (by omega)]
theorem rdFrom_filter (z : Str) (rs : List RD) : rdFrom z 0 rs = ((List.range rs.length).filter fun i => decide ((rs[i]?).map (·.b) = some z)).map fun (i : Nat) => (i : Int) := by
  have h : ∀ n, n ≤ rs.length → rdFrom z 0 (rs.take n) = ((List.range n).filter fun i => decide ((rs[i]?).map (·.b) = some z)).map fun (i : Nat) => (i : Int) := by
    intro n
    induction n with
    | zero => intro _; rfl
    | succ n ih =>
      intro hn
      have hr : rs[n]? = some rs[n] := List.getElem?_eq_getElem hn
      rw [List.take_succ, hr, range_filter_succ, List.map_append, ← ih (by omega), Option.toList_some, rdFrom_snoc, List.length_take, Nat.zero_add, Nat.min_eq_left (by omega), hr]
      by_cases e : rs[n].b = z
      · rw [if_pos e, if_pos (by simp [e])]
        rfl
      · rw [if_neg e, if_neg (by simp [e])]
        rfl
  have := h rs.length (Nat.le_refl _)
  rwa [List.take_length] at this
theorem lastAt_mem (t : Int) : ∀ (l : List (Addr × RN)) (f : Addr × RN), lastAt t f l = f ∨ lastAt t f l ∈ l
  | [], f => .inl rfl
  | q :: l, f => by
    show lastAt t (if q.2.s ≤ t then q else f) l = f ∨ _
    rcases lastAt_mem t l (if q.2.s ≤ t then q else f) with h | h
    · by_cases e : q.2.s ≤ t
      · rw [if_pos e] at h
        right
        show lastAt t (if q.2.s ≤ t then q else f) l ∈ _
        rw [if_pos e, h]
        exact List.mem_cons_self ..
      · rw [if_neg e] at h ⊢
        exact .inl h
    · exact .inr (List.mem_cons_of_mem _ h)
def prV : Option (Int × Int) → List V
  | some p => [.int p.1, .int p.2]
  | none => []
theorem NmP.ok {z : Str} (h : NmP z) : PyData.strOk z = true := by
  unfold PyData.strOk
  rw [Array.all_eq_true_iff_forall_mem]
  intro c hc
  have := LT_mem.mp (h.sg c (by simpa using hc))
  simp
  omega
end TP

namespace TP
open PySem PySem.Spec PyProof.Rows L2
/-! ### a comprehension that lays an object at each turn -/
theorem lc_objs {J : It} {n : Nat} {G : Hp → Prop} {Y : Nat → Hp → V → Hp → Prop} (w : Walk J n G Y) {g : TG} {tt : TT} {te : TE} {vs : List Nat} {σ : L2.St} {H1 : Hp} {D : Addr} {Qd : Hp → Prop} (F : Nat → HO → Prop) (hF : ∀ i xs, ¬ F i (.lst xs))
    (hD : H1 D = none) (hn : n < 1000000) (hG : ∀ H, Evl.Ex H1 H → G H)
    (hs : ∀ (i : Nat) (x : V) (H H' : Hp) (C : V → Hp → Prop) (N : Hp → Prop), i < n → Evl.Ex H1 H → Y i H x H' → (∀ p H4 o, H p = none → Evl.Ex H H4 → H4 p = some o → F i o → C (.ref p) H4) →
      g x (wipe σ vs) H' fun σ2 H2 => wipe σ2 vs = wipe σ vs ∧ tt σ2 H2 fun b H3 => if b = true then te σ2 H3 C else N H3)
    (hd : ∀ H' (as : List Addr), Evl.Ex H1 H' → H' D = some (.lst (as.map V.ref)) → as.length = n → (∀ (j : Nat) a, as[j]? = some a → (∃ o, H' a = some o ∧ F j o) ∧ H1 a = none) → Qd H') :
    ∃ W : Nat → Nat → Hp → Prop, (∃ m, W 0 m (upd H1 D (.lst []))) ∧ ∀ i m H, W i m H →
      (J.stop i H ∧ Qd H) ∨ (J.go i H ∧ ∃ Nx : Hp → Prop, (∀ H', Nx H' → ∃ m', m' < m ∧ W (i + 1) m' H') ∧ ∀ x H', J.yld i H x H' → g x (wipe σ vs) H' fun σ2 H2 => wipe σ2 vs = wipe σ vs ∧ tt σ2 H2 fun b H3 =>
        if b = true then te σ2 H3 fun y H4 => ∃ acc, H4 D = some (.lst acc) ∧ acc.length < sizeLine ∧ Nx (upd H4 D (.lst (acc ++ [y]))) else Nx H3) := by
  refine lc_it w (fun i H => Evl.Ex H1 H ∧ ∃ as : List Addr, H D = some (.lst (as.map V.ref)) ∧ as.length = i ∧ ∀ (j : Nat) a, as[j]? = some a → (∃ o, H a = some o ∧ F j o) ∧ H1 a = none) ⟨Evl.Ex.new hD, [], upd_same, rfl, fun j a h => nil_at h⟩ (fun i H _ q => hG H q.1) (fun i x H H' hi q y => ?_) (fun H q => ?_)
  · obtain ⟨e, as, ha, hl, hf⟩ := q
    refine hs i x H H' _ _ hi e y fun p H4 o hp e4 h4 ho => ⟨_, e4 _ _ ha, ?_, fun b o hb => ?_, as ++ [p], ?_, by simp [hl], fun j a hj => ?_⟩
    · rw [List.length_map, hl]
      have : sizeLine = 16777216 := sizeLine_eq
      omega
    · rw [upd_ne (ne_of_none hb hD)]
      exact e4 _ _ (e _ _ hb)
    · rw [upd_same, List.map_append]
      rfl
    · have hpD : p ≠ D := Ne.symm (ne_of_none ha hp)
      rcases snoc_at hj with h | ⟨h1, h2⟩
      · obtain ⟨⟨o1, f1, f3⟩, f2⟩ := hf j a h
        have : a ≠ D := ne_of f1 ha (fun z => hF j _ (z ▸ f3))
        rw [upd_ne this]
        exact ⟨⟨o1, e4 _ _ f1, f3⟩, f2⟩
      · rw [h2, h1, hl, upd_ne hpD]
        exact ⟨⟨o, h4, ho⟩, Ex.free e hp⟩
  · obtain ⟨e, as, ha, hl, hf⟩ := q
    exact hd H as e ha hl hf
/-! ### lands made, all being right -/
theorem LandNw.ex {K : PySem.W.Frag} {H0 H H' : Hp} {a : Addr} {L : LandD} (h : LandNw K H0 H a L) (e : Evl.Ex H H') : LandNw K H0 H' a L := by
  obtain ⟨dx, ht, st, rt, ut, h, n⟩ := h
  exact ⟨dx, ht, st, rt, ut, h.ex e, n⟩
theorem LandNw.base {K : PySem.W.Frag} {H0 H1 H : Hp} {a : Addr} {L : LandD} (h : LandNw K H1 H a L) (e : Evl.Ex H0 H1) : LandNw K H0 H a L := by
  obtain ⟨dx, ht, st, rt, ut, h, n⟩ := h
  exact ⟨dx, ht, st, rt, ut, h, Ex.free e n⟩
theorem LandNw.put {K : PySem.W.Frag} {H0 H : Hp} {a b : Addr} {L : LandD} {o u v : HO} (h : LandNw K H0 H a L) (h0 : H0 b = some v) (hb : H b = some u) (l : Loose u) : LandNw K H0 (upd H b o) a L := by
  obtain ⟨dx, ht, st, rt, ut, h, n⟩ := h
  exact ⟨dx, ht, st, rt, ut, h.put hb l (Ne.symm (ne_of_none h0 n)), n⟩
theorem LandNw.ne {K : PySem.W.Frag} {H0 H : Hp} {a b : Addr} {L : LandD} {v : HO} (h : LandNw K H0 H a L) (h0 : H0 b = some v) : LandNe K H a L b := by
  obtain ⟨dx, ht, st, rt, ut, h, n⟩ := h
  exact ⟨dx, ht, st, rt, ut, h, Ne.symm (ne_of_none h0 n)⟩
theorem made_new {H : Hp} {x dx : Addr} {o o' : HO} (hx : H x = none) (hd : H dx = none) : Evl.Ex H (upd (upd H dx o') x o) := fun b u hb => by
  rw [upd_ne (ne_of_none hb hx), upd_ne (ne_of_none hb hd)]
  exact hb
theorem make_land {K : PySem.W.Frag} {H : Hp} {x dx ha sa ra ua : Addr} {L : LandD} {Q : Hp → Prop} (hx : H x = none) (hd : H dx = none) (nLR : He.ga K "Land" ≠ He.ga K "Rule") (IN : LandIn K H ha sa ra ua L) (bn : bnOk L.bn = true) (ro : ruOk L.uq = true) (ti : Tied L.hs (rdP L.rq))
    (k : ∀ H' uq, Evl.Ex H H' → (L.uq ≠ [] → uq = L.uq) → (L.uq = [] → ∃ u, uq = [(u, r0)]) → LandNw K H H' x { L with uq := uq } → Q H') :
    spLandX K [.ref x, .ref ha, .ref sa, .ref ra, .int L.bn, .ref ua] (upd (upd H dx (.own x)) x (.ins (He.ga K "Land") dx [])) (fun v H' => v = .non ∧ Q H') fun _ _ _ => False := by
  refine ⟨x, dx, ha, sa, ra, ua, L, rfl, upd_same, nLR, IN.ex (made_new hx hd), fun _ _ _ H' uq wk h1 h2 LA => ⟨rfl, k H' uq (made_ex hx hd wk) h1 (fun h => by obtain ⟨u, _, e⟩ := h2 h; exact ⟨u, e⟩) (LA.base (made_new hx hd))⟩, fun w hw => ?_⟩
  exfalso
  rcases hw with ⟨h, _⟩ | ⟨_, h, _⟩ | ⟨_, _, h, _⟩
  · rw [bn] at h; cases h
  · rw [ro] at h; cases h
  · exact h ti
/-! ### what a land is made of, and held against -/
structure Bs (H : Hp) (ha sa pa ta : Addr) (hs : List Str) (ss : List (Str × Str)) (rq : List (Addr × RD)) (ts : List Int) : Prop where
  h : H ha = some (.lst (hs.map V.str))
  s : H sa = some (.dK (ssK ss))
  r : H pa = some (.lst (rqV rq))
  rs : ∀ q ∈ rq, H q.1 = some (.tup q.2.vs)
  t : H ta = some (.lst (ts.map V.int))
  hok : HsOk hs
  sok : SsOk hs ss
  rok : ∀ q ∈ rq, q.2.ok hs ∧ RB q.2
  rl : rq.length ≤ 16
  tok : TkOk ts
  ti : Tied hs (rdP rq)
theorem Bs.ex {H H' : Hp} {ha sa pa ta : Addr} {hs : List Str} {ss : List (Str × Str)} {rq : List (Addr × RD)} {ts : List Int} (b : Bs H ha sa pa ta hs ss rq ts) (e : Evl.Ex H H') : Bs H' ha sa pa ta hs ss rq ts :=
  ⟨e _ _ b.h, e _ _ b.s, e _ _ b.r, fun q hq => e _ _ (b.rs q hq), e _ _ b.t, b.hok, b.sok, b.rok, b.rl, b.tok, b.ti⟩
theorem Bs.put {H : Hp} {ha sa pa ta c : Addr} {o u : HO} {hs : List Str} {ss : List (Str × Str)} {rq : List (Addr × RD)} {ts : List Int} (b : Bs H ha sa pa ta hs ss rq ts) (hc : H c = some u) (l : Loose u) (n1 : ha ≠ c) (n2 : sa ≠ c) (n3 : pa ≠ c) (n4 : ta ≠ c) : Bs (upd H c o) ha sa pa ta hs ss rq ts :=
  ⟨by rw [upd_ne n1]; exact b.h, by rw [upd_ne n2]; exact b.s, by rw [upd_ne n3]; exact b.r, fun q hq => at_put (b.rs q hq) hc (l.tup _), by rw [upd_ne n4]; exact b.t, b.hok, b.sok, b.rok, b.rl, b.tok, b.ti⟩
theorem Bs.rt {K : PySem.W.Frag} {H H0 : Hp} {la ha sa pa ta tb : Addr} {bn : Int} {L : LandD} {hs : List Str} {ss : List (Str × Str)} {rq : List (Addr × RD)} {ts tc : List Int} {v : HO} (b : Bs H ha sa pa ta hs ss rq ts) (l : LandNw K H0 H la L) (h0 : H0 sa = some v) (t : H tb = some (.lst (tc.map V.int))) (tok : TkOk tc)
    (eh : L.hs = hs) (es : L.ss = ss) (er : L.rq.map (·.2) = rq.map (·.2)) (eb : L.bn = bn) (eu : uqT L.uq = tc.map fun t => (t, t % 7)) (b0 : 0 ≤ bn) (b9 : bn ≤ 9) : RtIn K H la ha sa pa tb bn L hs ss rq tc :=
  ⟨l.ne h0, SqL.of b.h, b.s, SqL.of b.r, fun q hq => SqT.of (b.rs q hq), SqL.of t, eh, es, er, eb, eu, b.hok, b.sok, b.rok, b.rl, b0, b9, tok⟩
theorem tok0 : TkOk [0] := ⟨rfl, by simp, fun t ht => by
  obtain rfl : t = 0 := by simpa using ht
  exact ⟨by decide, by decide⟩, by decide⟩
theorem rising_pw : ∀ {l : List Int}, l.Pairwise (· < ·) → rising l = true
  | [], _ => rfl
  | [_], _ => rfl
  | a :: b :: l, h => by
    obtain ⟨h1, h2⟩ := List.pairwise_cons.mp h
    show (decide (a < b) && rising (b :: l)) = true
    rw [rising_pw h2, decide_eq_true (h1 b (List.mem_cons_self ..))]
    rfl
theorem tk_rules {ts : List Int} (h : TkOk ts) : rulesOk ts = true := by
  cases e : ts with
  | nil => have := h.hd; rw [e] at this; cases this
  | cons t l =>
    have h1 := h.hd
    have h2 := h.pw
    rw [e] at h1 h2
    obtain rfl : t = 0 := Option.some.inj h1
    show (decide ((0 : Int) = 0) && rising (0 :: l)) = true
    rw [rising_pw h2]
    rfl
theorem make_rule {K : PySem.W.Frag} {H : Hp} {x dx : Addr} {t b : Int} {Q : Hp → Prop} (hx : H x = none) (hd : H dx = none) (t0 : 0 ≤ t) (b0 : 0 ≤ b) (k : ∀ H', Evl.Ex H H' → H' x = some (.ins (He.ga K "Rule") dx (RN.fs ⟨t, b, 1, 0, 0, 0, 0⟩)) → Q H') :
    spRuleX K [.ref x, .int t, .int b, .int 1, .int 0, .int 0, .int 0, .int 0] (upd (upd H dx (.own x)) x (.ins (He.ga K "Rule") dx [])) (fun v H' => v = .non ∧ Q H') fun _ _ _ => False := by
  have nb : badOf LSl [.int t, .int b, .int 1, .int 0, .int 0, .int 0, .int 0] = none := by
    show (if decide (0 ≤ t) = true then (if decide (0 ≤ b) = true then _ else _) else _) = none
    rw [decide_eq_true t0, decide_eq_true b0]
    rfl
  refine ⟨x, dx, _, _, _, _, _, _, _, [.int t, .int b, .int 1, .int 0, .int 0, .int 0, .int 0], rfl, .cons (.int _) (.cons (.int _) (.cons (.int _) (.cons (.int _) (.cons (.int _) (.cons (.int _) (.cons (.int _) .nil)))))), upd_same, fun _ H' wk h => ⟨rfl, k H' (made_ex hx hd wk) h⟩, fun z hz => ?_⟩
  rw [nb] at hz
  cases hz
def rOf (t : Int) : RN := ⟨t, t % 7, 1, 0, 0, 0, 0⟩
theorem zip_fst {as : List Addr} {rs : List RN} (h : as.length = rs.length) : uqV (as.zip rs) = as.map V.ref := by
  unfold uqV
  rw [show (fun q : Addr × RN => V.ref q.1) = V.ref ∘ Prod.fst from rfl, ← List.map_map, List.map_fst_zip (by omega)]
theorem zip_uqT {as : List Addr} {ts : List Int} (h : as.length = ts.length) : uqT (as.zip (ts.map rOf)) = ts.map fun t => (t, t % 7) := by
  unfold uqT
  rw [show (fun q : Addr × RN => (q.2.s, q.2.b)) = (fun r : RN => (r.s, r.b)) ∘ Prod.snd from rfl, ← List.map_map, List.map_snd_zip (by rw [List.length_map]; omega), List.map_map]
  rfl
theorem zip_s {as : List Addr} {ts : List Int} (h : as.length = ts.length) : (as.zip (ts.map rOf)).map (fun q => q.2.s) = ts := by
  rw [show (fun q : Addr × RN => q.2.s) = (fun r : RN => r.s) ∘ Prod.snd from rfl, ← List.map_map, List.map_snd_zip (by rw [List.length_map]; omega), List.map_map]
  exact List.map_id ts
theorem ruOk_of {uq : List (Addr × RN)} {ts : List Int} (h : uq.map (fun q => q.2.s) = ts) (ok : TkOk ts) : ruOk uq = true ∧ uq ≠ [] := by
  have h0 := ok.hd
  rw [← h] at h0
  cases e : uq with
  | nil => rw [e] at h0; cases h0
  | cons q l =>
    refine ⟨?_, fun z => nomatch z⟩
    show rulesOk ((q :: l).map fun q => q.2.s) = true
    rw [← e, h]
    exact tk_rules ok
theorem bnOk_of {b : Int} (h : 2 ≤ b) (h2 : b ≤ 5) : bnOk b = true := by
  show (decide (2 ≤ b) && decide (b ≤ 5)) = true
  rw [decide_eq_true h, decide_eq_true h2]
  rfl
/-- three lands, what they were made of, one more list -/
structure S6 (K : PySem.W.Frag) (Hb H : Hp) (ha sa pa ta l : Addr) (hs : List Str) (ss : List (Str × Str)) (rq : List (Addr × RD)) (ts : List Int) (cs : List V) (la lb lc : Addr) (L1 L2 L3 : LandD) : Prop where
  b : Bs H ha sa pa ta hs ss rq ts
  l1 : LandNw K Hb H la L1
  l2 : LandNw K Hb H lb L2
  l3 : LandNw K Hb H lc L3
  hl : H l = some (.lst cs)
theorem S6.ex {K : PySem.W.Frag} {Hb H H' : Hp} {ha sa pa ta l : Addr} {hs : List Str} {ss : List (Str × Str)} {rq : List (Addr × RD)} {ts : List Int} {cs : List V} {la lb lc : Addr} {L1 L2 L3 : LandD} (s : S6 K Hb H ha sa pa ta l hs ss rq ts cs la lb lc L1 L2 L3) (e : Evl.Ex H H') : S6 K Hb H' ha sa pa ta l hs ss rq ts cs la lb lc L1 L2 L3 :=
  ⟨s.b.ex e, s.l1.ex e, s.l2.ex e, s.l3.ex e, e _ _ s.hl⟩
theorem S6.put {K : PySem.W.Frag} {Hb H : Hp} {ha sa pa ta l c : Addr} {hs : List Str} {ss : List (Str × Str)} {rq : List (Addr × RD)} {ts : List Int} {cs : List V} {la lb lc : Addr} {L1 L2 L3 : LandD} {o u v : HO} (s : S6 K Hb H ha sa pa ta l hs ss rq ts cs la lb lc L1 L2 L3) (h0 : Hb c = some v) (hc : H c = some u) (lo : Loose u)
    (n : ha ≠ c ∧ sa ≠ c ∧ pa ≠ c ∧ ta ≠ c ∧ l ≠ c) : S6 K Hb (upd H c o) ha sa pa ta l hs ss rq ts cs la lb lc L1 L2 L3 :=
  ⟨s.b.put hc lo n.1 n.2.1 n.2.2.1 n.2.2.2.1, s.l1.put h0 hc lo, s.l2.put h0 hc lo, s.l3.put h0 hc lo, by rw [upd_ne n.2.2.2.2]; exact s.hl⟩
theorem Bs.nes {H : Hp} {ha sa pa ta c l : Addr} {hs : List Str} {ss : List (Str × Str)} {rq : List (Addr × RD)} {ts : List Int} {cs : List V} (b : Bs H ha sa pa ta hs ss rq ts) (hl : H l = some (.lst cs)) (hc : H c = none) : ha ≠ c ∧ sa ≠ c ∧ pa ≠ c ∧ ta ≠ c ∧ l ≠ c :=
  ⟨ne_of_none b.h hc, ne_of_none b.s hc, ne_of_none b.r hc, ne_of_none b.t hc, ne_of_none hl hc⟩
theorem nmLane : NmP "lane" := isNm_iff.mp (by decide +kernel)
theorem hs_cons {hs : List Str} (h : HsOk hs) : ∃ z r, hs = z :: r ∧ NmP z := by
  cases e : hs with
  | nil => have := h.lo; rw [e] at this; exact absurd this (by decide)
  | cons z r => exact ⟨z, r, rfl, h.nm z (by rw [e]; exact List.mem_cons_self ..)⟩
theorem cutV_one {v : V} {xs : List V} : cutV (v :: xs) none (some 1) = [v] := by
  unfold cutV
  rw [HT.sIx_none, show (some (1 : Int)) = some ((1 : Nat) : Int) from rfl, HT.sIx_nat]
  simp
theorem lone_ok {z : Str} (n : NmP z) : HsOk [z] ∧ SsOk [z] [("lane", z)] := by
  refine ⟨⟨by simp, by simp, fun y hy => ?_, by simp⟩, ⟨by simp, by simp, fun q hq => ?_, by simp⟩⟩
  · obtain rfl : y = z := by simpa using hy
    exact n
  · obtain rfl : q = ((("lane" : Str)), z) := by simpa using hq
    exact ⟨nmLane, n, by simp⟩
end TP

namespace TP
open PySem PySem.Spec PyProof.Rows L2
/-- a list of pairs of unlike ones of some -/
structure Fq (H : Hp) (fl : Addr) (os : List Str) (fq : List (Addr × Str × Str)) : Prop where
  f : H fl = some (.lst (pqV fq))
  q : ∀ q ∈ fq, H q.1 = some (.tup [.str q.2.1, .str q.2.2]) ∧ q.2.1 ∈ os ∧ q.2.2 ∈ os ∧ q.2.1 ≠ q.2.2
theorem Fq.ex {H H' : Hp} {fl : Addr} {os : List Str} {fq : List (Addr × Str × Str)} (h : Fq H fl os fq) (e : Evl.Ex H H') : Fq H' fl os fq :=
  ⟨e _ _ h.f, fun q hq => ⟨e _ _ (h.q q hq).1, (h.q q hq).2⟩⟩
theorem wl_tup {H : Hp} {w p : Addr} {n : Nat} {xs : List V} (h : Wl H w n) (hp : H p = some (HO.tup xs)) : p ≠ w := by
  obtain ⟨x, y, c, e, _⟩ := h
  exact ne_of hp e fun z => nomatch z
theorem Fq.dn {H H' : Hp} {fl w : Addr} {m n : Nat} {os : List Str} {fq : List (Addr × Str × Str)} (h : Fq H fl os fq) (d : Dn w m H H') (wl : Wl H w n) (nf : fl ≠ w) : Fq H' fl os fq :=
  ⟨d.k _ _ nf h.f, fun q hq => ⟨d.k _ _ (wl_tup wl (h.q q hq).1) (h.q q hq).1, (h.q q hq).2⟩⟩
theorem Fq.cat {H : Hp} {fl gl hl : Addr} {os : List Str} {fq gq : List (Addr × Str × Str)} (h : Fq H fl os fq) (g : Fq H gl os gq) (hh : H hl = none) : Fq (upd H hl (.lst (pqV fq ++ pqV gq))) hl os (fq ++ gq) := by
  refine ⟨?_, fun q hq => ?_⟩
  · rw [upd_same]
    unfold pqV
    rw [List.map_append]
  · have : H q.1 = some (.tup [.str q.2.1, .str q.2.2]) ∧ q.2.1 ∈ os ∧ q.2.2 ∈ os ∧ q.2.1 ≠ q.2.2 := (List.mem_append.mp hq).elim (h.q q) (g.q q)
    exact ⟨(Evl.Ex.new hh) _ _ this.1, this.2⟩
def atS (os : List Str) (z : Int) : Str := (atI os z).getD ""
theorem atS_spec {os : List Str} {z : Int} (h1 : -(os.length : Int) ≤ z) (h2 : z < (os.length : Int)) : atI (os.map V.str) z = some (.str (atS os z)) ∧ ∃ j : Nat, os[j]? = some (atS os z) ∧ ((j : Int) = z ∨ (j : Int) = z + os.length) := by
  have hl : (os.map V.str).length = os.length := List.length_map ..
  by_cases h0 : 0 ≤ z
  · obtain ⟨j, rfl⟩ := Int.eq_ofNat_of_zero_le h0
    have hj : j < os.length := by omega
    have e := List.getElem?_eq_getElem hj
    have ea : atS os (j : Int) = os[j] := by unfold atS; rw [atI_nat e]; rfl
    exact ⟨atI_nat (by rw [List.getElem?_map, e, ea]; rfl), j, by rw [ea]; exact e, .inl rfl⟩
  · obtain ⟨j, hj⟩ := Int.eq_ofNat_of_zero_le (show 0 ≤ z + (os.length : Int) by omega)
    have hj' : j < os.length := by omega
    have e := List.getElem?_eq_getElem hj'
    have ea : atS os z = os[j] := by unfold atS; rw [atI_neg (j := j) (by omega) hj e]; rfl
    exact ⟨atI_neg (j := j) (by omega) (by rw [hl]; exact hj) (by rw [List.getElem?_map, e, ea]; rfl), j, by rw [ea]; exact e, .inr hj.symm⟩
theorem atS_at {os : List Str} {z : Int} (h1 : -(os.length : Int) ≤ z) (h2 : z < (os.length : Int)) : atI (os.map V.str) z = some (.str (atS os z)) := (atS_spec h1 h2).1
theorem atS_mem {os : List Str} {z : Int} (h1 : -(os.length : Int) ≤ z) (h2 : z < (os.length : Int)) : atS os z ∈ os := by
  obtain ⟨j, h, _⟩ := (atS_spec h1 h2).2
  exact List.mem_of_getElem? h
theorem atS_ne {os : List Str} {y z : Int} (nd : os.Nodup) (h1 : -(os.length : Int) ≤ z) (h2 : z < (os.length : Int)) (g1 : -(os.length : Int) ≤ y) (g2 : y < (os.length : Int)) (n : y ≠ z) (n1 : y + os.length ≠ z) (n2 : y ≠ z + os.length) : atS os y ≠ atS os z := by
  obtain ⟨j, h, hj⟩ := (atS_spec h1 h2).2
  obtain ⟨i, g, hi⟩ := (atS_spec g1 g2).2
  exact nodup_at nd g h (by omega)
theorem mkFq {H : Hp} {D : Addr} {os : List Str} {as : List Addr} (P : Nat → Str × Str) (hD : H D = some (.lst (as.map V.ref))) (af : ∀ (j : Nat) a, as[j]? = some a → H a = some (.tup [.str (P j).1, .str (P j).2])) (hP : ∀ j, j < as.length → (P j).1 ∈ os ∧ (P j).2 ∈ os ∧ (P j).1 ≠ (P j).2) :
    ∃ fq, Fq H D os fq ∧ fq.length = as.length := by
  refine ⟨as.mapIdx fun j a => (a, P j), ⟨?_, fun q hq => ?_⟩, by simp⟩
  · rw [hD]
    unfold pqV
    congr 2
    refine List.ext_getElem? fun j => ?_
    simp
    rfl
  · obtain ⟨j, hj⟩ := List.mem_iff_getElem?.mp hq
    rw [List.getElem?_mapIdx] at hj
    cases e : as[j]? with
    | none => rw [e] at hj; cases hj
    | some a =>
      rw [e] at hj
      obtain rfl : (a, P j) = q := Option.some.inj hj
      exact ⟨af j a e, hP j (List.getElem?_eq_some_iff.mp e).1⟩
theorem Fq.one {H : Hp} {t l : Addr} {os : List Str} {x y : Str} (ht : H t = some (.tup [.str x, .str y])) (hl : H l = some (.lst [.ref t])) (hx : x ∈ os) (hy : y ∈ os) (n : x ≠ y) : Fq H l os [(t, x, y)] :=
  ⟨hl, fun q hq => by
    obtain rfl : q = (t, x, y) := by simpa using hq
    exact ⟨ht, hx, hy, n⟩⟩
theorem Fq.sub {H H' : Hp} {fl gl : Addr} {os : List Str} {fq gq : List (Addr × Str × Str)} (h : Fq H fl os fq) (e : ∀ q ∈ gq, H' q.1 = H q.1) (hs : ∀ q ∈ gq, q ∈ fq) (hl : H' gl = some (.lst (pqV gq))) : Fq H' gl os gq :=
  ⟨hl, fun q hq => by rw [e q hq]; exact h.q q (hs q hq)⟩
def PrMid (H : Hp) (w ol : Addr) (d : Int) (os : List Str) (m : Nat) (σ : L2.St) (H' : Hp) : Prop := ∃ (fl : Addr) (fq : List (Addr × Str × Str)) (u4 u5 u6 : Option V), σ = [some (.ref w), some (.ref ol), some (.int d), some (.ref fl), u4, u5, u6] ∧ Dn w m H H' ∧ H fl = none ∧ fl ≠ w ∧ Fq H' fl os fq ∧ fq.length ≤ 20
theorem pq_cut {gq : List (Addr × Str × Str)} {lo hi : Option Int} : ∃ gq', cutV (pqV gq) lo hi = pqV gq' ∧ (∀ q ∈ gq', q ∈ gq) ∧ gq'.length ≤ gq.length := by
  unfold cutV pqV
  refine ⟨(gq.drop (HT.sIx (gq.map fun q => V.ref q.1).length 0 lo)).take (HT.sIx (gq.map fun q => V.ref q.1).length (gq.map fun q => V.ref q.1).length hi - HT.sIx (gq.map fun q => V.ref q.1).length 0 lo), ?_, fun q hq => ?_, ?_⟩
  · rw [List.map_take, List.map_drop]
  · exact List.mem_of_mem_drop (List.mem_of_mem_take hq)
  · rw [List.length_take, List.length_drop]
    omega
theorem pq_erase : ∀ (fq : List (Addr × Str × Str)) (k : Nat), pqV (fq.eraseIdx k) = (pqV fq).eraseIdx k
  | [], k => rfl
  | q :: fq, 0 => rfl
  | q :: fq, k + 1 => by
    show V.ref q.1 :: pqV (fq.eraseIdx k) = V.ref q.1 :: (pqV fq).eraseIdx k
    rw [pq_erase fq k]
theorem seqIx {d : Int} {n : Nat} (h0 : 0 ≤ d) (h1 : d < n) : seqIndex? d n = some d.toNat := by
  unfold seqIndex?
  simp
  omega
def spPairs (K : PySem.W.Frag) : Sp := fun vs H Q _ => ∃ (w ol : Addr) (n : Nat) (os : List Str), vs = [.ref w, .ref ol] ∧ Wl H w n ∧ n < 700000 ∧ H ol = some (.lst (os.map V.str)) ∧ ol ≠ w ∧ os.Nodup ∧ 2 ≤ os.length ∧ os.length ≤ 8 ∧
  ∀ (fl : Addr) (fq : List (Addr × Str × Str)) (H' : Hp), Dn w (n + 50) H H' → H fl = none → fl ≠ w → Fq H' fl os fq → fq.length ≤ 20 → Q (.ref fl) H'
/-- the houses that pairs lead to from one; some may stand in it twice -/
def spLReach (K : PySem.W.Frag) : Sp := fun vs H Q _ => ∃ (pl : Addr) (pq : List (Addr × Str × Str)) (h : Str) (hs : List Str), vs = [.ref pl, .str h] ∧ H pl = some (.lst (pqV pq)) ∧ (∀ q ∈ pq, H q.1 = some (.tup [.str q.2.1, .str q.2.2])) ∧ pq.length ≤ 16 ∧ hs.length ≤ 8 ∧ h ∈ hs ∧ (∀ q ∈ pq, q.2.2 ∈ hs) ∧
  ∀ (l : Addr) (f : List Str) H', Evl.Ex H H' → H' l = some (.lst (f.map V.str)) → (∀ z, z ∈ f ↔ Rc (pqP pq) h z) → f.length ≤ 17 → Q (.ref l) H'
theorem range_filter_get {α β : Type} (p : α → Bool) (F : α → β) (d : α) (l : List α) : ((List.range l.length).filter fun i => p (l.getD i d)).map (fun i => F (l.getD i d)) = (l.filter p).map F := by
  have h : ∀ n, n ≤ l.length → ((List.range n).filter fun i => p (l.getD i d)).map (fun i => F (l.getD i d)) = ((l.take n).filter p).map F := by
    intro n
    induction n with
    | zero => intro _; rfl
    | succ n ih =>
      intro hn
      have hr : l[n]? = some l[n] := List.getElem?_eq_getElem hn
      have hg : l.getD n d = l[n] := by rw [List.getD_eq_getElem?_getD, hr]; rfl
      rw [range_filter_succ, List.map_append, ih (by omega), List.take_succ, hr, Option.toList_some, List.filter_append, List.map_append, hg]
      congr 1
      by_cases e : p l[n] = true
      · rw [if_pos e, List.filter_cons_of_pos e, List.map_cons, hg]; rfl
      · rw [if_neg e, List.filter_cons_of_neg e]; rfl
  have := h l.length (Nat.le_refl _)
  rwa [List.take_length] at this
def nout (hs : List Str) (xs : List V) : Nat := (hs.filter fun z => !inV (.str z) xs).length
theorem nout_le {hs f g : List Str} (sub : ∀ z ∈ f, z ∈ g) : nout hs (g.map V.str) ≤ nout hs (f.map V.str) := by
  unfold nout
  rw [← List.countP_eq_length_filter, ← List.countP_eq_length_filter]
  refine List.countP_mono_left fun z _ h => ?_
  rw [inV_str] at h ⊢
  simp at h ⊢
  exact fun q => h (sub z q)
theorem nout_lt {hs f g : List Str} {x : Str} (sub : ∀ z ∈ f, z ∈ g) (hx : x ∈ hs) (nf : x ∉ f) (hg : x ∈ g) : nout hs (g.map V.str) < nout hs (f.map V.str) := by
  unfold nout
  induction hs with
  | nil => cases hx
  | cons y hs ih =>
    have le := nout_le (hs := hs) sub
    unfold nout at le
    rw [List.filter_cons, List.filter_cons]
    rw [inV_str, inV_str]
    by_cases e : y = x
    · subst e
      rw [if_neg (by simp [hg]), if_pos (by simp [nf]), List.length_cons]
      omega
    · have hm : x ∈ hs := by
        rcases List.mem_cons.mp hx with h | h
        · exact absurd h.symm e
        · exact h
      have := ih hm
      by_cases h1 : y ∈ f
      · rw [if_neg (by simp [sub y h1]), if_neg (by simp [h1])]
        exact this
      · by_cases h2 : y ∈ g
        · rw [if_neg (by simp [h2]), if_pos (by simp [h1]), List.length_cons]
          omega
        · rw [if_pos (by simp [h2]), if_pos (by simp [h1]), List.length_cons, List.length_cons]
          omega
def rcMu (hs : List Str) : L2.St → Hp → Nat := fun σ H => match σ with
  | [_, _, some (.ref l), some (.int i), _, _] => (match H l with
    | some (.lst xs) => 20 * nout hs xs + (xs.length - i.toNat)
    | _ => 0)
  | _ => 0
theorem rcMu_at {hs : List Str} {a b u v : Option V} {l : Addr} {i : Int} {H : Hp} {xs : List V} (h : H l = some (.lst xs)) : rcMu hs [a, b, some (.ref l), some (.int i), u, v] H = 20 * nout hs xs + (xs.length - i.toNat) := by
  show (match H l with | some (.lst xs) => 20 * nout hs xs + (xs.length - i.toNat) | _ => 0) = _
  rw [h]
/-- what a land of these is refused with -/
def whyL (bn b : Int) (ti : Bool) : V := if bnOk bn = true then (if b = 0 then (if ti = true then .non else .str "ways") else .str "rules") else .str "bins"
def spLTold (K : PySem.W.Frag) : Sp := fun vs H Q _ => ∃ (ha pa : Addr) (bn b : Int) (hs : List Str) (rq : List (Addr × RD)), vs = [.ref ha, .ref pa, .int bn, .int b] ∧ H ha = some (.lst (hs.map V.str)) ∧ HsOk hs ∧ H pa = some (.lst (rqV rq)) ∧ (∀ q ∈ rq, H q.1 = some (.tup q.2.vs) ∧ q.2.ok hs) ∧ rq.length ≤ 16 ∧ 0 ≤ b ∧
  ∀ (ti : Bool) H', Evl.Ex H H' → (ti = true ↔ Tied hs (rdP rq)) → Q (whyL bn b ti) H'
theorem len_filter_split {α : Type} (p q : α → Bool) (l : List α) : (l.filter fun x => p x || q x).length = (l.filter p).length + (l.filter fun x => q x && !p x).length := by
  induction l with
  | nil => rfl
  | cons x l ih =>
    rw [List.filter_cons, List.filter_cons, List.filter_cons]
    cases hp : p x <;> cases hq : q x <;> simp <;> omega
end TP

namespace TP
open PySem PySem.Spec PyProof.Rows L2
/-! ### C(e, .., k = v, ..) within a try: what is raised is wished for at the slots -/
def tMakeKS (C : Addr) (n m : Nat) (sp : Sp) (gV : List V → List V → List V) (E : L2.St → XK) (t tk : TA) : TE := fun σ => tMakeK C n m sp gV (E σ) t tk σ
section
variable {X : Cx} {CX : CXT} {k n : Nat} {f C : Addr} {fd : FuncData} {d : He.DefD} {ps ks : List Str} {js is : List Nat} {sp : Sp} {x : Str} {p pos : Pos} {e : Expr} {es : List Expr} {kws : List Keyword} {t tk : TA} {g : List Value → List Value → List Value} {gV : List V → List V → List V}
theorem run_makeKS {E : XK} {pins : List (Addr × Obj)} {σ : L2.St} {H : Hp} {s : Shared} {Q : VK} {us ws : List Value} {vs zs : List V} (M : Mk X.K C f) (F : FnOk X.prog X.w X.K X.mg X.base CX k f fd ps sp) (hr : Room (k + 1) X.A) (hb : KBn X.K fd ps (n + 1) ks g gV) (hx : PassesAt CX X σ E)
    (I : Inv X pins σ H s) (r : Vals vs us) (rz : Vals zs ws) (l1 : vs.length = n) (l2 : zs.length = ks.length)
    (h : ∀ x dx, H x = none → H dx = none → dx ≠ x → sp (gV (.ref x :: vs) zs) (upd (upd H dx (.own x)) x (.ins C dx [])) (fun v H2 => v = .non ∧ Q (.ref x) H2) E) :
    wpAny (model X.prog X.w) X.A (call (.ref C) us (ks.zip ws)) (EP X pins σ Q) X.xe s := by
  have J := Inv.made (C := C) I
  have start := h (s.heap.objs.size + 1) s.heap.objs.size (I.hok.fresh (Nat.le_succ _)) (I.hok.fresh (Nat.le_refl _)) (Nat.ne_of_lt (Nat.lt_succ_self _))
  have len : (Value.ref (s.heap.objs.size + 1) :: us).length = n + 1 := by rw [List.length_cons, ← r.length, l1]
  have rel := hb.rel (show Vals (V.ref (s.heap.objs.size + 1) :: vs) (Value.ref (s.heap.objs.size + 1) :: us) from .cons rfl r) rz
  have bind := hb.to _ (Value.ref (s.heap.objs.size + 1) :: us) ws J.kIn len (rz.length.symm.trans l2)
  refine wpAny_call (make_map (f := f) I.kIn M.makes M.init (beq_iff_eq.mp M.fn) ?_)
  refine codeAny_mono (F.run _ X.stack _ _ ⟨_, ks.zip ws⟩ _ _ _ E (hr.make C us (ks.zip ws)) (J.env0.make C us (ks.zip ws)) bind rel start) fun z s' hq => ?_
  match z, hq with
  | .error e, hq => exact hx pins _ _ e s' J hq
  | .ok (.ret u), hq =>
    obtain ⟨v, H', I3, rv, rfl, q3⟩ := J.after hq
    exact ⟨rv, .ref _, H', I3, rfl, q3⟩
  | .ok .next, hq => exact False.elim hq
  | .ok .brk, hq => exact False.elim hq
  | .ok .cont, hq => exact False.elim hq
theorem GtF.makeKS {E : L2.St → XK} (G : GtF X.prog X.w X.K X.mg X.base CX k d ps sp) (B : Kb d ps (n + 1) ks js is) (M : Mk X.K C (He.fAd X.K d.at_)) (hm : X.mg x = some (.ref C)) (hr : Room (k + 1) X.A) (hx : ∀ σ, PassesAt CX X σ (E σ)) (ha : PA X (e :: es) t) (hkw : PK X kws tk) (hg : Gl X x := by rfl)
    (hall : (backToKw pos (keywordEach kws X.env)).all (·.1.isSome) = true := by rfl) (hks : (backToKw pos (keywordEach kws X.env)).filterMap (·.1) = ks := by rfl) (hdb : (x == ("__debug__" : Str)) = false := by decide)
    (he : starEach (e :: es) X.env = (false, eval e X.env) :: starEach es X.env := by rfl) (hpl : ((backTo pos (starEach (e :: es) X.env)).any (·.1) || (backToKw pos (keywordEach kws X.env)).any (·.1.isNone)) = false := by rfl) :
    PE X (.Call (.Name x p) (e :: es) kws pos) (tMakeKS C n ks.length sp (gK d js is X.K) E t tk) := by
  obtain ⟨fd, mv, F, hb⟩ := G.kbn B
  refine ⟨fun pins s σ H Q I h => wpAny_Call_Name_kw (ld_glob I hg hm ?_ hdb)⟩
  refine PySem.W.callWith_KW (h₀ := X.base) I.ok.mod.kin M.kp hall (thn (ha.run pos pins s σ H _ I h) fun us s1 ⟨vs, H1, I1, r, q⟩ => ?_) hpl he
  refine thn (hkw.run pos pins s1 σ H1 _ I1 q) fun ws s2 ⟨zs, H2, I2, rz, l1, l2, q2⟩ => ⟨I2.kIn, ?_⟩
  rw [hks]
  exact run_makeKS M F hr hb (hx σ) I2 r rz l1 l2 q2
theorem GtF.makeKSL (K : PySem.W.Frag) {E : L2.St → XK} (G : GtF X.prog X.w X.K X.mg X.base CX k d ps sp) (B : Kb d ps (n + 1) ks js is) (M : Mk X.K C (He.fAd X.K d.at_)) (hm : X.mg x = some (.ref C)) (hr : Room (k + 1) X.A) (hx : ∀ σ, PassesAt CX X σ (E σ)) (ha : PA X (e :: es) t) (hkw : PK X kws tk) (hK : X.K = K := by rfl) (hg : Gl X x := by rfl)
    (hall : (backToKw pos (keywordEach kws X.env)).all (·.1.isSome) = true := by rfl) (hks : (backToKw pos (keywordEach kws X.env)).filterMap (·.1) = ks := by rfl) (hdb : (x == ("__debug__" : Str)) = false := by decide)
    (he : starEach (e :: es) X.env = (false, eval e X.env) :: starEach es X.env := by rfl) (hpl : ((backTo pos (starEach (e :: es) X.env)).any (·.1) || (backToKw pos (keywordEach kws X.env)).any (·.1.isNone)) = false := by rfl) :
    PE X (.Call (.Name x p) (e :: es) kws pos) (tMakeKS C n ks.length sp (gK d js is K) E t tk) := by
  subst hK
  exact GtF.makeKS G B M hm hr hx ha hkw hg hall hks hdb he hpl
end
theorem pe_lenSetNL {X : Cx} {a : Expr} {ta : TE} {p p2 q pos : Pos} (K : PySem.W.Frag) (hc : X.calm = true) (hg : Gl X "len") (hm : X.mg "len" = none) (hg2 : Gl X "set") (hm2 : X.mg "set" = none) (ha : PE X a ta) (hK : X.K = K := by rfl)
    (na : starEach [a] X.env = (false, eval a X.env) :: starEach [] X.env := by rfl) : PE X (.Call (.Name "len" p) [.Call (.Name "set" p2) [a] [] q] [] pos) (tLenSetN K ta) := by
  subst hK
  exact pe_lenSetN hc hg hm hg2 hm2 ha na
theorem firsts_mem (xs : List Str) : (firsts xs).Nodup ∧ ∀ z, z ∈ firsts xs ↔ z ∈ xs := by
  have key : ∀ (ys acc : List Str), acc.Nodup → (ys.foldl ddK acc).Nodup ∧ ∀ z, z ∈ ys.foldl ddK acc ↔ z ∈ acc ∨ z ∈ ys := by
    intro ys
    induction ys with
    | nil => intro acc h; exact ⟨h, fun z => by simp⟩
    | cons y ys ih =>
      intro acc h
      rw [List.foldl_cons]
      unfold ddK
      by_cases q : acc.any (· == y) = true
      · rw [if_pos q]
        obtain ⟨h1, h2⟩ := ih acc h
        have hy : y ∈ acc := by
          obtain ⟨u, hu, e⟩ := List.any_eq_true.mp q
          rw [← beq_iff_eq.mp e]
          exact hu
        refine ⟨h1, fun z => (h2 z).trans ⟨fun o => o.elim .inl (fun m => .inr (List.mem_cons_of_mem _ m)), fun o => o.elim .inl (fun m => ?_)⟩⟩
        rcases List.mem_cons.mp m with rfl | m
        · exact .inl hy
        · exact .inr m
      · rw [if_neg q]
        have hy : y ∉ acc := fun m => q (List.any_eq_true.mpr ⟨y, m, beq_self_eq_true y⟩)
        obtain ⟨h1, h2⟩ := ih (acc ++ [y]) (List.nodup_append.mpr ⟨h, by simp, fun a ha b hb => by
          obtain rfl : b = y := by simpa using hb
          exact fun e => hy (e ▸ ha)⟩)
        refine ⟨h1, fun z => (h2 z).trans ?_⟩
        rw [List.mem_append, List.mem_singleton, List.mem_cons, or_assoc]
  obtain ⟨h1, h2⟩ := key xs [] List.nodup_nil
  exact ⟨h1, fun z => (h2 z).trans (by simp)⟩
theorem Rc.mono {ps qs : List (Str × Str)} {h z : Str} (s : ∀ p ∈ ps, p ∈ qs) (r : Rc ps h z) : Rc qs h z := by
  induction r with
  | here => exact .here
  | step _ m ih => exact .step ih (s _ m)
theorem Rc.trans {ps : List (Str × Str)} {a b c : Str} (r : Rc ps a b) (q : Rc ps b c) : Rc ps a c := by
  induction q with
  | here => exact r
  | step _ m ih => exact .step ih m
theorem Rc.turn {ps : List (Str × Str)} {a b : Str} (r : Rc ps a b) : Rc (sw ps) b a := by
  induction r with
  | here => exact .here
  | step _ m ih => exact Rc.trans (.step .here (List.mem_map.mpr ⟨_, m, rfl⟩)) ih
theorem sw_sw (ps : List (Str × Str)) : sw (sw ps) = ps := by
  unfold sw
  rw [List.map_map]
  exact List.map_id ps
/-- each from each, held against from the first one and back -/
theorem tied_all {hs : List Str} {ps qs : List (Str × Str)} (h1 : 1 ≤ hs.length) (e : ∀ p, p ∈ ps ↔ p ∈ qs) : (∀ h ∈ hs, ∀ z ∈ hs, Rc ps h z) ↔ Tied hs qs := by
  constructor
  · intro h h0 hh z hz
    have m0 := List.mem_of_mem_head? hh
    exact ⟨(h h0 m0 z hz).mono fun p hp => (e p).mp hp, ((h z hz h0 m0).mono fun p hp => (e p).mp hp).turn⟩
  · intro h a ha z hz
    cases hc : hs with
    | nil => rw [hc] at ha; cases ha
    | cons h0 r =>
      have q1 := h h0 (by rw [hc]; rfl) a ha
      have q2 := h h0 (by rw [hc]; rfl) z hz
      have := q1.2.turn
      rw [sw_sw] at this
      exact (Rc.trans this q2.1).mono fun p hp => (e p).mpr hp
noncomputable def tot (hs : List Str) (ps : List (Str × Str)) (h : Str) : Bool := @decide (∀ z ∈ hs, Rc ps h z) (Classical.propDecidable _)
theorem tot_iff {hs : List Str} {ps : List (Str × Str)} {h : Str} : tot hs ps h = true ↔ ∀ z ∈ hs, Rc ps h z := @decide_eq_true_iff _ (Classical.propDecidable _)
theorem tot_len {hs f : List Str} {ps : List (Str × Str)} {h : Str} (hok : hs.Nodup) (hm : h ∈ hs) (hp : ∀ q ∈ ps, q.2 ∈ hs) (hf : ∀ z, z ∈ f ↔ Rc ps h z) : decide (V.int ((firsts f).length : Nat) = V.int (hs.length : Nat)) = tot hs ps h := by
  obtain ⟨n1, n2⟩ := firsts_mem f
  have := rc_len hok hm hp n1 fun z => (n2 z).trans (hf z)
  refine Bool.eq_iff_iff.mpr ?_
  rw [tot_iff, decide_eq_true_iff, ← this]
  constructor
  · intro z
    injection z with z
    exact Int.ofNat.inj z
  · intro z
    rw [z]
theorem cut16 {xs : List V} : (cutV xs none (some 16)).length ≤ 16 := by
  unfold cutV
  rw [HT.sIx_none, show (some (16 : Int)) = some ((16 : Nat) : Int) from rfl, HT.sIx_nat, List.length_take]
  omega
theorem tied_nil {hs : List Str} (nd : hs.Nodup) (h2 : 2 ≤ hs.length) : ¬ Tied hs [] := by
  intro h
  match hs, nd, h2 with
  | a :: b :: r, nd, _ =>
    have := (h a rfl b (by simp)).1
    have no : ∀ z, Rc [] a z → z = a := fun z r => by
      cases r with
      | here => rfl
      | step _ m => cases m
    have e := no b this
    rw [e] at nd
    simp at nd
end TP

namespace TP
open PySem PySem.Spec PyProof.Rows L2
/-! ### try with several clauses, each with a name or without; one of the first ones takes all that is raised -/
abbrev Clause := Value × Option Nat × (Addr → Value → Option Addr → TS)
def endsI : Option Nat → Ends → Ends
  | some i, D => ⟨fun σ' H' => D.nx (σ'.set i none) H', D.rt, fun σ' H' => D.bk (σ'.set i none) H', fun σ' H' => D.ct (σ'.set i none) H'⟩
  | none, D => D
def setI : Option Nat → Addr → L2.St → L2.St
  | some i, a, σ => σ.set i (some (.ref a))
  | none, _, σ => σ
def wAsM (K : PySem.W.Frag) (D : Ends) : List Clause → WX
  | [] => fun _ _ _ _ => False
  | (c, oi, ts) :: r => fun cls d σ H => ∃ b, PySem.W.exmOne K cls c = some b ∧ (b = true → ∀ a, H a = none → ts a cls d (endsI oi D) (setI oi a σ) H) ∧ (b = false → wAsM K D r cls d σ H)
inductive HdsAs (X : Cx) : List ExceptHandler → List Clause → Prop
  | nil (hds : List ExceptHandler) : HdsAs X hds []
  | as {x n : Str} {c : Value} {i : Nat} {ts : Addr → Value → Option Addr → TS} {b0 : Stmt} {suite : List Stmt} {np pos' : Pos} {hds : List ExceptHandler} {l : List Clause} (hN : X.N.Nodup) (hi : X.N[i]? = some n) (hln : X.env.kindOf n = some .local) (hc : Names X x c)
      (hsu : ∀ (a : Addr) (oe : Obj) (cls : Value) (d : Option Addr) (pn : List (Addr × Obj)), Zc cls d oe → (∃ vs, oe.data = .fields vs) → PSs (X.suite a ((a, oe) :: pn)) (b0 :: suite) (ts a cls d)) (r : HdsAs X hds l) :
      HdsAs X (.ExceptHandler (some (.Name x np)) (some n) (b0 :: suite) pos' :: hds) ((c, some i, ts) :: l)
  | plain {x : Str} {c : Value} {ts : Addr → Value → Option Addr → TS} {b0 : Stmt} {suite : List Stmt} {np pos' : Pos} {hds : List ExceptHandler} {l : List Clause} (hc : Names X x c)
      (hsu : ∀ (a : Addr) (oe : Obj) (cls : Value) (d : Option Addr) (pn : List (Addr × Obj)), Zc cls d oe → (∃ vs, oe.data = .fields vs) → PSs (X.suite a ((a, oe) :: pn)) (b0 :: suite) (ts a cls d)) (r : HdsAs X hds l) :
      HdsAs X (.ExceptHandler (some (.Name x np)) none (b0 :: suite) pos' :: hds) ((c, none, ts) :: l)
section
variable {X : Cx} {h0 : ExceptHandler} {body : List Stmt} {hds : List ExceptHandler} {pos : Pos} {tb : WX → TS} {l : List Clause}
theorem ps_try_asM (hs : X.stack = X.env :: X.outer) (hf : X.env.frame = some X.env.locals)
    (hb : ∀ (W : WX) (pn : List (Addr × Obj)) (xe : Value → Shared → Prop), Takes (X.tr pn xe) W → PassesOwn (model X.prog X.w) X.A X.env xe → PSs (X.tr pn xe) body (tb W))
    (hh : HdsAs X (h0 :: hds) l) : PS X (.Try body (h0 :: hds) [] [] pos) (fun D σ H => tb (wAsM X.K D l) D σ H) := by
  constructor
  intro pins s σ H D I h
  have ok := I.ok
  have fr : X.A.frames = some (X.env :: X.outer) := ok.frames.trans (by rw [hs])
  refine wpAny_Try_except ?_
  refine wpAny_mono ((hb (wAsM X.K D l) (X.pn ++ pins) (fun e s1 => wpAny (model X.prog X.w) X.A (noteFrame e X.env) (fun _ s2 => wpAny (model X.prog X.w) X.A (setFlight e none) (fun _ s3 =>
    wpAny (model X.prog X.w) X.A (handleBy e X.env (h0 :: hds)) (SP X pins D) X.xe s3) X.xe s2) X.xe s1) (fun u s' xx => ?_) PassesOwn.looking).run [] s σ H D (I.toTry _) h) (fun f s1 q => ?_) (fun _ _ z => z)
  · obtain ⟨a, B, sI, p', σ', H', cls, d, rfl, J0, nb, up, sky, na, os, ag, wish⟩ := xx
    have J := J0.ofTry ok
    rw [show (X.tr (X.pn ++ pins) _).stack = X.env :: X.outer from hs] at sky
    refine Sky.land Zc.steady fr hf sky fun g1 f1 u1 => ?_
    have J1 : Inv X pins σ' H' { s' with heap := g1 } := J.landed nb f1.1 (up.trans u1) os ag
    obtain ⟨o1, v1, e1, z1, d1⟩ := f1.there
    have nfr := sky_free f1.2.2.1 e1 d1
    have nL : a ≠ X.env.locals := fun z => nfr (List.mem_filterMap.mpr ⟨X.env, List.mem_cons_self, by rw [hf, z]⟩)
    have nF : a ∉ X.fs := fun q => by
      obtain ⟨e, q1, q2⟩ := List.mem_filterMap.mp q
      exact nfr (List.mem_filterMap.mpr ⟨e, List.mem_cons_of_mem _ q1, q2⟩)
    have S1 := J1.suite e1 d1 na nL nF
    have lt : PySem.W.Looks (model X.prog X.w) g1 (typeOf (.ref a)) cls := fun _ _ _ _ k q => wpAny_typeOf_ref (k _ _ e1) (by rw [z1.1]; exact q)
    have named : ∀ {x : Str} {c : Value} {np : Pos}, Names X x c → ∀ {Q : Value → Shared → Prop} {E : Value → Shared → Prop}, Q c { s' with heap := g1 } → wpAny (model X.prog X.w) (X.A.mark (some (.ref a))) (eval (.Name x np) X.env) Q E { s' with heap := g1 } := by
      intro x c np hc Q E q
      obtain ⟨k1, k2, k3 | ⟨k3, k4, k5⟩⟩ := hc
      · exact ld_glob (X := X.suite a ((a, o1) :: (X.pn ++ pins))) S1 k1 k3 q k2
      · exact ld_blt (X := X.suite a ((a, o1) :: (X.pn ++ pins))) S1 k1 k3 k4 q k5 k2
    have go : ∀ {hds' : List ExceptHandler} {l' : List Clause}, HdsAs X hds' l' → wAsM X.K D l' cls d σ' H' →
        wpAny (model X.prog X.w) X.A (handleBy (.ref a) X.env hds') (SP X pins D) X.xe { s' with heap := g1 } := by
      intro hds' l' hk
      induction hk with
      | nil _ => intro z; exact z.elim
      | as hN hi hln hc hsu r ih =>
        rintro ⟨b, hm, yes, no⟩
        refine wpAny_handleBy_cons (codeAny_handlers_test ?_) (fun q => nomatch q)
        refine named hc ((PySem.W.exm_one (M := model X.prog X.w) J1.kIn lt hm).here ?_)
        cases b with
        | false => exact ih (no rfl)
        | true =>
          refine codeAny_handlers_suite_as (HandSPX.lands_againZ f1 fun g2 f2 u2 => ?_)
          have J2 : Inv X pins σ' H' { s' with heap := g2 } := J.landed nb f2.1 ((up.trans u1).trans u2) os ag
          obtain ⟨o2, v2, e2, z2, d2⟩ := f2.there
          refine store_ok (X := X.suite a ((a, o2) :: (X.pn ++ pins))) (v := .ref a) (J2.suite e2 d2 na nL nF) hN hi (.inl hln) rfl (fun s5 S5 => ?_) (.inr hln)
          refine wpAny_mono ((hsu a o2 cls d (X.pn ++ pins) z2 ⟨_, d2⟩).run [] s5 _ H' _ S5 (yes rfl a na)) (fun f s6 q => ?_) (fun _ _ z => z.elim)
          cases f with
          | next =>
            obtain ⟨σ6, H6, S6, q6⟩ := q
            exact gone_ok (S6.unsuite ok) hN hi hln fun s7 J7 => ⟨_, _, J7, q6⟩
          | brk =>
            obtain ⟨σ6, H6, S6, q6⟩ := q
            exact gone_ok (S6.unsuite ok) hN hi hln fun s7 J7 => ⟨_, _, J7, q6⟩
          | cont =>
            obtain ⟨σ6, H6, S6, q6⟩ := q
            exact gone_ok (S6.unsuite ok) hN hi hln fun s7 J7 => ⟨_, _, J7, q6⟩
          | ret u =>
            obtain ⟨v6, σ6, H6, S6, r6, q6⟩ := q
            exact gone_ok (S6.unsuite ok) hN hi hln fun s7 J7 => ⟨_, _, _, J7, r6, q6⟩
      | plain hc hsu r ih =>
        rintro ⟨b, hm, yes, no⟩
        refine wpAny_handleBy_cons (codeAny_handlers_test ?_) (fun q => nomatch q)
        refine named hc ((PySem.W.exm_one (M := model X.prog X.w) J1.kIn lt hm).here ?_)
        cases b with
        | false => exact ih (no rfl)
        | true =>
          refine codeAny_handlers_suite (HandSPX.lands_againZ f1 fun g2 f2 u2 => ?_)
          have J2 : Inv X pins σ' H' { s' with heap := g2 } := J.landed nb f2.1 ((up.trans u1).trans u2) os ag
          obtain ⟨o2, v2, e2, z2, d2⟩ := f2.there
          refine wpAny_mono ((hsu a o2 cls d (X.pn ++ pins) z2 ⟨_, d2⟩).run [] _ _ H' _ (J2.suite e2 d2 na nL nF) (yes rfl a na)) (fun f s6 q => ?_) (fun _ _ z => z.elim)
          cases f with
          | next =>
            obtain ⟨σ6, H6, S6, q6⟩ := q
            exact ⟨_, _, S6.unsuite ok, q6⟩
          | brk =>
            obtain ⟨σ6, H6, S6, q6⟩ := q
            exact ⟨_, _, S6.unsuite ok, q6⟩
          | cont =>
            obtain ⟨σ6, H6, S6, q6⟩ := q
            exact ⟨_, _, S6.unsuite ok, q6⟩
          | ret u =>
            obtain ⟨v6, σ6, H6, S6, r6, q6⟩ := q
            exact ⟨_, _, _, S6.unsuite ok, r6, q6⟩
    exact go hh wish
  · cases f with
    | next =>
      obtain ⟨σ1, H1, J1, q⟩ := q
      exact wpAny_execs_nil ⟨σ1, H1, J1.ofTry ok, q⟩
    | brk =>
      obtain ⟨σ1, H1, J1, q⟩ := q
      exact ⟨σ1, H1, J1.ofTry ok, q⟩
    | cont =>
      obtain ⟨σ1, H1, J1, q⟩ := q
      exact ⟨σ1, H1, J1.ofTry ok, q⟩
    | ret u =>
      obtain ⟨v, σ1, H1, J1, r, q⟩ := q
      exact ⟨v, σ1, H1, J1.ofTry ok, r, q⟩
end
end TP

namespace TP
open PySem PySem.Spec PyProof.Rows L2 PySem.SeqAt
/-! ### text == x, x any data; x in a row of texts -/
theorem rc_txt_dct {A : Around} {s : Shared} {l : Addr} {es : Array DictEntry} {ep : Nat} {dd : Option Addr} {sl : Array (Option Value)} (b : Str) (u : Tok) (ho : s.heap.get? l = some { cls := .type "dict", dict := dd, data := .dict es ep, slots := sl }) (hu : A.units < cLine) :
    RcAt A s (.str b u) (.ref l) false := fun prog w E Q h =>
  rc_eq_decline_or (k := false) (typeIs_str s b u) ⟨_, ho, rfl⟩ (by decide) F.sub_dict_str F.slot_str_eq F.slot_dict_eq_refl
    (fun _ q => call_meets F.slot_str_eq (typeIs_str s b u) F.entry_str_eq (F.args_str_eq_2 _ _) (txt_eq_dct b u l es ep dd sl) ⟨ho, q⟩)
    (fun _ q => call_meets F.slot_dict_eq_refl ⟨_, ho, rfl⟩ F.entry_dict_eq (F.args_dict_eq_2 _ _) (dct_eq_txt l es ep dd sl b u) ⟨ho, q⟩)
    (fun _ q => wpAny_of_eq (rfl : isSame (.str b u) (.ref l) = pure false) q) (.inr hu) h
theorem isTx_eq (x z : Str) : (z == x) = isTx (.str x) z := by
  show _ = decide (x = z)
  by_cases e : x = z
  · simp [e]
  · have : ¬ z = x := fun q => e q.symm
    simp [e, this]
/-- a text held against what reads as data -/
theorem rc_txt_any {A : Around} {s : Shared} {v : Value} {d : PyData} {as : List Addr} (r : Reads s.heap v d as) (z : Str) (t : Tok) (hu : A.units < cLine) : RcAt A s (.str z t) v (isTx d z) := by
  cases r with
  | none => exact RcAt.str_none z t
  | bool b => exact RcAt.str_bool z t b
  | int i t' => exact RcAt.str_int z t i t'
  | str x' t' => rw [← isTx_eq]; exact RcAt.str_str z t x' t'
  | list k1 k2 k3 k4 => exact RcAt.str_list z t ⟨_, k1, k2, _, k3⟩ hu
  | tuple k1 k2 k3 k4 => exact RcAt.str_tuple z t ⟨_, k1, k2, _, k3⟩ hu
  | @dict a o es n kvs as bs k1 k2 k3 k4 k5 =>
    obtain ⟨oc, od, dt, sl⟩ := o
    dsimp only at k2 k3
    subst k2 k3
    exact rc_txt_dct z t k1 hu
theorem eq_txt_any {A : Around} {s : Shared} {v : Value} {d : PyData} {as : List Addr} (r : Reads s.heap v d as) (z : Str) (t : Tok) (hu : A.units < cLine) : EqAt A s (.str z t) v (isTx d z) := by
  cases r with
  | none => exact EqAt.str_none z t
  | bool b => exact EqAt.str_bool z t b
  | int i t' => exact EqAt.str_int z t i t'
  | str x' t' => rw [← isTx_eq]; exact EqAt.str_str z t x' t'
  | list k1 k2 k3 k4 => exact EqAt.str_list z t ⟨_, k1, k2, _, k3⟩ hu
  | tuple k1 k2 k3 k4 => exact EqAt.str_tuple z t ⟨_, k1, k2, _, k3⟩ hu
  | @dict a o es n kvs as bs k1 k2 k3 k4 k5 =>
    obtain ⟨oc, od, dt, sl⟩ := o
    dsimp only at k2 k3
    subst k2 k3
    intro prog w E Q h
    unfold eqBool
    refine wpAny_holding (wpAny_ite_split (fun q => absurd (eq_of_beq q) nofun) fun _ => wpAny_bind (rc_txt_dct z t k1 hu prog w E _ (wpAny_truthy_bool h)))
/-- z == x -/
def rEqT (K : PySem.W.Frag) : R2 := fun x y H Q => ∃ (d : PyData) (z : Str), x = .str z ∧ Dr K H y d ∧ Q (.bl (isTx d z)) H
theorem op_eqT {X : Cx} (hS : SysK X.K) (hu : X.A.units + 64 < cLine) : OpR X (compareOp .Eq) (rEqT X.K) := by
  intro pins s σ H x y v u Q I rx ry h
  obtain ⟨d, z, rfl, hd, q⟩ := h
  obtain ⟨as, r1, _⟩ := Dr.reads hS I d y u hd ry
  obtain ⟨t, rfl⟩ : ∃ t, v = Value.str z t := rx
  exact rc_txt_any r1 z t (by omega) X.prog X.w X.xe _ ⟨.bl _, H, I, rfl, q⟩
def inD (d : PyData) (xs : List Str) : Bool := xs.any fun z => isTx d z
/-- x in a list of texts -/
def rInT (K : PySem.W.Frag) : R2 := fun x y H Q => ∃ (d : PyData) (p : Addr) (xs : List Str), y = .ref p ∧ SqL K H p (xs.map V.str) ∧ Dr K H x d ∧ Q (.bl (inD d xs)) H
theorem op_inT {X : Cx} (hS : SysK X.K) (hu : X.A.units + 64 < cLine) : OpR X (compareOp .In) (rInT X.K) := by
  intro pins s σ H x y v u Q I rx ry h
  obtain ⟨d, p, xs, rfl, hq, hd, q⟩ := h
  cases ry
  obtain ⟨as, r1, _⟩ := Dr.reads hS I d x v hd rx
  obtain ⟨its, r, pl, hz⟩ := I.list hq
  let e : Value → Bool := fun w => match w with
    | .str z _ => isTx d z
    | _ => false
  have key : ∀ (xs : List Str) (us : List Value), Vals (xs.map V.str) us → (∀ w ∈ us, ∃ z t, w = Value.str z t) ∧ us.any e = inD d xs := by
    intro xs
    induction xs with
    | nil => intro us h; cases h; exact ⟨(fun w h => nomatch h), rfl⟩
    | cons z xs ih =>
      intro us h
      cases h with
      | cons h1 h2 =>
        obtain ⟨t, rfl⟩ := h1
        obtain ⟨k1, k2⟩ := ih _ h2
        refine ⟨fun w hw => ?_, ?_⟩
        · rcases List.mem_cons.mp hw with rfl | hw
          · exact ⟨z, t, rfl⟩
          · exact k1 w hw
        · rw [List.any_cons, k2]
          rfl
  obtain ⟨k1, k2⟩ := key xs its r
  refine SeqAt.in_listAt e pl.isList (fun w hw => ?_) ⟨.bl _, H, I, rfl, ?_⟩
  · obtain ⟨z, t, rfl⟩ := k1 w (by simpa using hw)
    exact eq_txt_any r1 z t (by have : X.A.in1.units ≤ X.A.units + 1 := (by first | exact Nat.le_refl _ | exact Nat.le_succ _ | (unfold Around.in1; simp)); omega)
  · rw [show its.toArray.any e = its.any e by simp, k2]
    exact q
theorem inD_str {z : Str} {xs : List Str} : inD (.str z) xs = decide (z ∈ xs) := by
  unfold inD
  induction xs with
  | nil => rfl
  | cons y xs ih =>
    rw [List.any_cons, ih]
    show (decide (z = y) || _) = _
    by_cases e : z = y
    · simp [e]
    · simp [e]
theorem inD_no {d : PyData} {xs : List Str} (h : ∀ z, d ≠ .str z) : inD d xs = false := by
  unfold inD
  rw [List.any_eq_false]
  intro z _
  cases d <;> first | exact Bool.false_ne_true | exact absurd rfl (h _)
/-! ### o.m(e, ..) within a try -/
def tMethS (C : Addr) (m : Str) (sp : Sp) (E : L2.St → XK) (ta : TE) (t : TA) : TE := fun σ => tMeth C m sp [] (E σ) ta t σ
section
variable {X : Cx} {CX : CXT} {k : Nat} {d : He.DefD} {C : Addr} {ps : List Str} {sp : Sp} {E : L2.St → XK} {m : Str} {pos apos : Pos} {o e : Expr} {es : List Expr} {t : TA} {ta : TE}
theorem GtF.methS (G : GtF X.prog X.w X.K X.mg X.base CX k d ps sp) (hd : d.dfl = []) (hb : BindN d ps) (c : Cls X.K C) (hm : Meth X.K C m (He.fAd X.K d.at_)) (hr : Room k X.A) (hx : ∀ σ, PassesAt CX X σ (E σ)) (he : PE X o ta) (ha : PA X (e :: es) t) {pl : Sem Bool}
    (hst : starEach (e :: es) X.env = (false, eval e X.env) :: starEach es X.env := by rfl) (hpl : (backTo pos (starEach es X.env)).any (·.1) = false := by rfl)
    (ht : eval (.Call (.Attribute o m apos) (e :: es) [] pos) X.env = (do
      let ov ← eval o X.env
      standAt apos.atName
      let (f, first) ← holding [ov] (getMethod ov m pl)
      callWith pos f first (backTo pos (starEach (e :: es) X.env)) (backToKw pos (keywordEach [] X.env))) := by rfl) :
    PE X (.Call (.Attribute o m apos) (e :: es) [] pos) (tMethS C m sp E ta t) := by
  obtain ⟨fd, F, bd⟩ := G.bn hd hb
  constructor
  intro pins s σ H Q I h
  refine PySem.W.methodCall_KW (pl := pl) (thn (he.run pins s σ H _ I h) fun u s1 z => ?_) ht
  obtain ⟨x, H1, I1, rx, a, dx, fs, rfl, ea, l, q⟩ := z
  obtain rfl : u = Value.ref a := rx
  refine getmeth_ok I1 ea c hm l (PySem.W.callWith_K (first := [.ref a]) (h₀ := X.base) I.ok.mod.kin hm.kp (thn (ha.run pos pins s1 σ H1 _ I1 q) fun us s2 z => ?_) hst hpl)
  obtain ⟨vs, H2, I2, r, q2⟩ := z
  rw [List.append_nil] at q2
  exact ⟨I2.kIn, run_fnS (us := .ref a :: us) (vs := .ref a :: vs) F hr bd (hx σ) I2 (.cons rfl r) q2⟩
end
end TP

namespace TP
open PySem PySem.Spec PyProof.Rows L2
def strOf : PyData → Str
  | .str z => z
  | _ => ""
def told11 (L : LandD) (b : Bool) (D : PyData) : PyData := if b = true then (if hasD L.hs D = true then .tuple [.str "told", .list ((rdFrom (strOf D) 0 (L.rq.map (·.2))).map PyData.int)] else .tuple [.str "house", D])
  else (if hasD (L.ss.map (·.1)) D = true then .tuple [.str "told", .str ((ssGet L.ss (strOf D)).getD "")] else .tuple [.str "street", D])
def spTold11 (K : PySem.W.Frag) : Sp := fun vs H Q _ => ∃ (a : Addr) (L : LandD) (b : Bool) (v : V) (D : PyData), vs = [.ref a, .str (if b = true then "house" else "street"), v] ∧ LandAt K H a L ∧ L.rq.length ≤ 16 ∧ Dr K H v D ∧ (∀ z, D = .str z → z.length ≤ 1000000) ∧
  ∀ u H', Evl.Ex H H' → Dr K H' u (told11 L b D) → Q u H'
theorem kitAny3 {K : PySem.W.Frag} {t a b c : Value} (h1 : PySem.W.kitOne K t a = some false) (h2 : PySem.W.kitOne K t b = some false) (h3 : PySem.W.kitOne K t c = some false) : PySem.W.kitAny K t [a, b, c] = some false := by
  unfold PySem.W.kitAny
  rw [h1]
  show PySem.W.kitAny K t [b, c] = _
  unfold PySem.W.kitAny
  rw [h2]
  show PySem.W.kitAny K t [c] = _
  unfold PySem.W.kitAny
  rw [h3]
  rfl
theorem kitAny2 {K : PySem.W.Frag} {t a b : Value} (h1 : PySem.W.kitOne K t a = some false) (h2 : PySem.W.kitOne K t b = some false) : PySem.W.kitAny K t [a, b] = some false := by
  unfold PySem.W.kitAny
  rw [h1]
  show PySem.W.kitAny K t [b] = _
  unfold PySem.W.kitAny
  rw [h2]
  rfl
theorem told_hy {L : LandD} {D : PyData} (h : hasD L.hs D = true) : told11 L true D = .tuple [.str "told", .list ((rdFrom (strOf D) 0 (L.rq.map (·.2))).map PyData.int)] := by unfold told11; rw [if_pos rfl, if_pos h]
theorem told_hn {L : LandD} {D : PyData} (h : hasD L.hs D = false) : told11 L true D = .tuple [.str "house", D] := by unfold told11; rw [if_pos rfl, if_neg (by rw [h]; exact Bool.false_ne_true)]
theorem told_sy {L : LandD} {D : PyData} (h : hasD (L.ss.map (·.1)) D = true) : told11 L false D = .tuple [.str "told", .str ((ssGet L.ss (strOf D)).getD "")] := by unfold told11; rw [if_neg Bool.false_ne_true, if_pos h]
theorem told_sn {L : LandD} {D : PyData} (h : hasD (L.ss.map (·.1)) D = false) : told11 L false D = .tuple [.str "street", D] := by unfold told11; rw [if_neg Bool.false_ne_true, if_neg (by rw [h]; exact Bool.false_ne_true)]
theorem dr_str {K : PySem.W.Frag} {H : Hp} {z : Str} {D : PyData} (h : Dr K H (.str z) D) : D = .str z := by
  cases h
  rfl
end TP

namespace Lw
open PySem PySem.Spec PyProof.Rows L2 TP
/-! ### the text by places (written by gen.py) -/
def top (i : Nat) : Stmt := PySem.Challenge.pw_trailpost_k11_houses_and_streets_not_the.main.body.getD i (.Pass ⟨0, 0, 0, 0⟩)
abbrev s_wall : Stmt := (top 0)
abbrev s_NoLand_init : Stmt := (inClass (top 3) 0)
abbrev s_NoRule_init : Stmt := (inClass (top 4) 0)
abbrev s_NoHouse_init : Stmt := (inClass (top 5) 0)
abbrev s_NoStreet_init : Stmt := (inClass (top 6) 0)
abbrev s_NoDeed_init : Stmt := (inClass (top 7) 0)
abbrev s_NoPiece_init : Stmt := (inClass (top 8) 0)
abbrev s_is_name : Stmt := (top 12)
abbrev s_is_whole : Stmt := (top 13)
abbrev s_is_from : Stmt := (top 14)
abbrev s_is_between : Stmt := (top 15)
abbrev s_is_row : Stmt := (top 16)
abbrev s_Rule_init : Stmt := (inClass (top 19) 0)
abbrev s_Rule_fee : Stmt := (inClass (top 19) 1)
abbrev s_are_houses : Stmt := (top 26)
abbrev s_are_streets : Stmt := (top 27)
abbrev s_is_road : Stmt := (top 28)
abbrev s_are_roads : Stmt := (top 29)
abbrev s_are_rules : Stmt := (top 30)
abbrev s_reached : Stmt := (top 31)
abbrev s_are_tied : Stmt := (top 32)
abbrev s_Land_init : Stmt := (inClass (top 33) 0)
abbrev s_Land_has : Stmt := (inClass (top 33) 1)
abbrev s_Land_has_street : Stmt := (inClass (top 33) 2)
abbrev s_Land_house_of : Stmt := (inClass (top 33) 3)
abbrev s_Land_roads_from : Stmt := (inClass (top 33) 4)
abbrev s_Land_rule_at : Stmt := (inClass (top 33) 5)
abbrev s_well : Stmt := (top 35)
abbrev s_draw : Stmt := (top 36)
abbrev s_one : Stmt := (top 37)
abbrev s_name : Stmt := (top 38)
abbrev s_names : Stmt := (top 39)
abbrev s_mixed : Stmt := (top 40)
abbrev s_lroads : Stmt := (top 41)
abbrev s_lstreets : Stmt := (top 42)
abbrev s_law_told : Stmt := (top 43)
abbrev s_law : Stmt := (top 44)
/-! ### what each def is -/
def d_wall : He.DefD := ⟨("_wall", none), "_wall", "_wall", defArgs s_wall, defBody s_wall, defScope s_wall, [], []⟩
def d_NoLand_init : He.DefD := ⟨("NoLand", some "__init__"), "__init__", "NoLand.__init__", defArgs s_NoLand_init, defBody s_NoLand_init, defScope s_NoLand_init, [], []⟩
def d_NoRule_init : He.DefD := ⟨("NoRule", some "__init__"), "__init__", "NoRule.__init__", defArgs s_NoRule_init, defBody s_NoRule_init, defScope s_NoRule_init, [], []⟩
def d_NoHouse_init : He.DefD := ⟨("NoHouse", some "__init__"), "__init__", "NoHouse.__init__", defArgs s_NoHouse_init, defBody s_NoHouse_init, defScope s_NoHouse_init, [], []⟩
def d_NoStreet_init : He.DefD := ⟨("NoStreet", some "__init__"), "__init__", "NoStreet.__init__", defArgs s_NoStreet_init, defBody s_NoStreet_init, defScope s_NoStreet_init, [], []⟩
def d_NoDeed_init : He.DefD := ⟨("NoDeed", some "__init__"), "__init__", "NoDeed.__init__", defArgs s_NoDeed_init, defBody s_NoDeed_init, defScope s_NoDeed_init, [], []⟩
def d_NoPiece_init : He.DefD := ⟨("NoPiece", some "__init__"), "__init__", "NoPiece.__init__", defArgs s_NoPiece_init, defBody s_NoPiece_init, defScope s_NoPiece_init, [], []⟩
def d_is_name : He.DefD := ⟨("is_name", none), "is_name", "is_name", defArgs s_is_name, defBody s_is_name, defScope s_is_name, [], []⟩
def d_is_whole : He.DefD := ⟨("is_whole", none), "is_whole", "is_whole", defArgs s_is_whole, defBody s_is_whole, defScope s_is_whole, [], []⟩
def d_is_from : He.DefD := ⟨("is_from", none), "is_from", "is_from", defArgs s_is_from, defBody s_is_from, defScope s_is_from, [], []⟩
def d_is_between : He.DefD := ⟨("is_between", none), "is_between", "is_between", defArgs s_is_between, defBody s_is_between, defScope s_is_between, [], []⟩
def d_is_row : He.DefD := ⟨("is_row", none), "is_row", "is_row", defArgs s_is_row, defBody s_is_row, defScope s_is_row, [], []⟩
def d_Rule_init : He.DefD := ⟨("Rule", some "__init__"), "__init__", "Rule.__init__", defArgs s_Rule_init, defBody s_Rule_init, defScope s_Rule_init, [], [("since", .int 0), ("base", .int 0), ("step", .int 1), ("more", .int 0), ("leg", .int 0), ("kept", .int 0), ("back", .int 0)]⟩
def d_Rule_fee : He.DefD := ⟨("Rule", some "fee"), "fee", "Rule.fee", defArgs s_Rule_fee, defBody s_Rule_fee, defScope s_Rule_fee, [], [("weight", .int 1), ("legs", .int 0), ("kept", .bl false)]⟩
def d_are_houses : He.DefD := ⟨("are_houses", none), "are_houses", "are_houses", defArgs s_are_houses, defBody s_are_houses, defScope s_are_houses, [], []⟩
def d_are_streets : He.DefD := ⟨("are_streets", none), "are_streets", "are_streets", defArgs s_are_streets, defBody s_are_streets, defScope s_are_streets, [], []⟩
def d_is_road : He.DefD := ⟨("is_road", none), "is_road", "is_road", defArgs s_is_road, defBody s_is_road, defScope s_is_road, [], []⟩
def d_are_roads : He.DefD := ⟨("are_roads", none), "are_roads", "are_roads", defArgs s_are_roads, defBody s_are_roads, defScope s_are_roads, [], []⟩
def d_are_rules : He.DefD := ⟨("are_rules", none), "are_rules", "are_rules", defArgs s_are_rules, defBody s_are_rules, defScope s_are_rules, [], []⟩
def d_reached : He.DefD := ⟨("reached", none), "reached", "reached", defArgs s_reached, defBody s_reached, defScope s_reached, [], []⟩
def d_are_tied : He.DefD := ⟨("are_tied", none), "are_tied", "are_tied", defArgs s_are_tied, defBody s_are_tied, defScope s_are_tied, [], []⟩
def d_Land_init : He.DefD := ⟨("Land", some "__init__"), "__init__", "Land.__init__", defArgs s_Land_init, defBody s_Land_init, defScope s_Land_init, [], [("roads", .adr (kwAd ("Land", some "__init__") "roads")), ("bins", .int 2), ("rules", .adr (kwAd ("Land", some "__init__") "rules"))]⟩
def d_Land_has : He.DefD := ⟨("Land", some "has"), "has", "Land.has", defArgs s_Land_has, defBody s_Land_has, defScope s_Land_has, [], []⟩
def d_Land_has_street : He.DefD := ⟨("Land", some "has_street"), "has_street", "Land.has_street", defArgs s_Land_has_street, defBody s_Land_has_street, defScope s_Land_has_street, [], []⟩
def d_Land_house_of : He.DefD := ⟨("Land", some "house_of"), "house_of", "Land.house_of", defArgs s_Land_house_of, defBody s_Land_house_of, defScope s_Land_house_of, [], []⟩
def d_Land_roads_from : He.DefD := ⟨("Land", some "roads_from"), "roads_from", "Land.roads_from", defArgs s_Land_roads_from, defBody s_Land_roads_from, defScope s_Land_roads_from, [], []⟩
def d_Land_rule_at : He.DefD := ⟨("Land", some "rule_at"), "rule_at", "Land.rule_at", defArgs s_Land_rule_at, defBody s_Land_rule_at, defScope s_Land_rule_at, [], []⟩
def d_well : He.DefD := ⟨("_law_well", none), "_law_well", "_law_well", defArgs s_well, defBody s_well, defScope s_well, [], []⟩
def d_draw : He.DefD := ⟨("_law_draw", none), "_law_draw", "_law_draw", defArgs s_draw, defBody s_draw, defScope s_draw, [], []⟩
def d_one : He.DefD := ⟨("_law_one", none), "_law_one", "_law_one", defArgs s_one, defBody s_one, defScope s_one, [], []⟩
def d_name : He.DefD := ⟨("_law_name", none), "_law_name", "_law_name", defArgs s_name, defBody s_name, defScope s_name, [], []⟩
def d_names : He.DefD := ⟨("_law_names", none), "_law_names", "_law_names", defArgs s_names, defBody s_names, defScope s_names, [], []⟩
def d_mixed : He.DefD := ⟨("_law_mixed", none), "_law_mixed", "_law_mixed", defArgs s_mixed, defBody s_mixed, defScope s_mixed, [], []⟩
def d_lroads : He.DefD := ⟨("_law_roads", none), "_law_roads", "_law_roads", defArgs s_lroads, defBody s_lroads, defScope s_lroads, [], []⟩
def d_lstreets : He.DefD := ⟨("_law_streets", none), "_law_streets", "_law_streets", defArgs s_lstreets, defBody s_lstreets, defScope s_lstreets, [], []⟩
def d_law_told : He.DefD := ⟨("_law_told", none), "_law_told", "_law_told", defArgs s_law_told, defBody s_law_told, defScope s_law_told, [], []⟩
def d_law : He.DefD := ⟨("law", none), "law", "law", defArgs s_law, defBody s_law, defScope s_law, [], []⟩
def fn : List He.DefD := [d_wall, d_NoLand_init, d_NoRule_init, d_NoHouse_init, d_NoStreet_init, d_NoDeed_init, d_NoPiece_init, d_is_name, d_is_whole, d_is_from, d_is_between, d_is_row, d_Rule_init, d_Rule_fee, d_are_houses, d_are_streets, d_is_road, d_are_roads, d_are_rules, d_reached, d_are_tied, d_Land_init, d_Land_has, d_Land_has_street, d_Land_house_of, d_Land_roads_from, d_Land_rule_at, d_well, d_draw, d_one, d_name, d_names, d_mixed, d_lroads, d_lstreets, d_law_told, d_law]
def fa : List He.Fa := [.glo "_wall", .glo "is_name", .glo "is_whole", .glo "is_from", .glo "is_between", .glo "is_row", .glo "are_houses", .glo "are_streets", .glo "is_road", .glo "are_roads", .glo "are_rules", .glo "reached", .glo "are_tied", .glo "_law_well", .glo "_law_draw", .glo "_law_one", .glo "_law_name", .glo "_law_names", .glo "_law_mixed", .glo "_law_roads", .glo "_law_streets", .glo "_law_told", .glo "law", .free "ValueError", .free "all", .free "bool", .free "dict", .free "enumerate", .free "int", .free "isinstance", .free "len", .free "list", .free "range", .free "repr", .free "set", .free "sorted", .free "str", .free "tuple", .free "zip", .str "LETTERS" "abcdefghijklmnopqrstuvwxyz", .int "MOST_LETTERS" 8, .glo "LEASTS", .int "MOST_HOUSES" 8, .int "MOST_STREETS" 20, .int "MOST_ROADS" 16, .int "LEAST_BINS" 2, .int "MOST_BINS" 5, .glo "PostError", .glo "NoLand", .glo "NoRule", .glo "NoHouse", .glo "NoStreet", .glo "NoDeed", .glo "NoPiece", .glo "Rule", .cls "Rule", .mkr "Rule", .meth "Rule" "fee", .noat "Rule" "since", .noat "Rule" "base", .noat "Rule" "step", .noat "Rule" "more", .noat "Rule" "leg", .noat "Rule" "kept", .noat "Rule" "back", .glo "Land", .cls "Land", .mkr "Land", .meth "Land" "has", .meth "Land" "has_street", .meth "Land" "house_of", .meth "Land" "roads_from", .meth "Land" "rule_at", .noat "Land" "houses", .noat "Land" "streets", .noat "Land" "roads", .noat "Land" "bins", .noat "Land" "rules"]
def EN : List Str := ["NoLand", "NoRule", "NoHouse", "NoStreet", "NoDeed", "NoPiece"]
def EB : List Str := ["NoLand", "NoRule", "NoHouse", "NoStreet", "NoDeed", "NoPiece", "PostError"]
def exs : List (PySem.W.Frag → Bool) := [sysB, fun K => He.valsB K (He.ga K "LEASTS") [("since", .int 0), ("base", .int 0), ("step", .int 1), ("more", .int 0), ("leg", .int 0), ("kept", .int 0), ("back", .int 0)], fun K => baseB K "PostError", fun K => oexB K "NoLand", fun K => einB K "NoLand", fun K => excCB K "NoLand", fun K => He.eqO (PySem.W.findIn K (.ref (He.ga K "NoLand")) "why") (some none), fun K => oexB K "NoRule", fun K => einB K "NoRule", fun K => excCB K "NoRule", fun K => He.eqO (PySem.W.findIn K (.ref (He.ga K "NoRule")) "at") (some none), fun K => oexB K "NoHouse", fun K => einB K "NoHouse", fun K => excCB K "NoHouse", fun K => He.eqO (PySem.W.findIn K (.ref (He.ga K "NoHouse")) "house") (some none), fun K => oexB K "NoStreet", fun K => einB K "NoStreet", fun K => excCB K "NoStreet", fun K => He.eqO (PySem.W.findIn K (.ref (He.ga K "NoStreet")) "street") (some none), fun K => oexB K "NoDeed", fun K => einB K "NoDeed", fun K => excCB K "NoDeed", fun K => He.eqO (PySem.W.findIn K (.ref (He.ga K "NoDeed")) "why") (some none), fun K => oexB K "NoPiece", fun K => einB K "NoPiece", fun K => excCB K "NoPiece", fun K => He.eqO (PySem.W.findIn K (.ref (He.ga K "NoPiece")) "piece") (some none), fun K => emB K (kwAd ("Land", some "__init__") "roads" K), fun K => emB K (kwAd ("Land", some "__init__") "rules" K), fun K => decide (He.ga K "Land" ≠ He.ga K "Rule"), fun K => insB K "Rule", fun K => kitB2 K EN EB ktT, fun K => EN.all fun x => decide (PySem.W.kitOne K (.ref (He.ga K x)) (.type "ValueError") = some true), fun K => exmB2 K EN EB ktT]
def ex (K : PySem.W.Frag) : Bool := exs.all fun f => f K
def ts : List He.Tab := [(fun K => He.ga K "LEASTS", ["since", "base", "step", "more", "leg", "kept", "back"])]
abbrev TX (w : World) (K : PySem.W.Frag) (mg : Str → Option Value) : Prop := Tx fa fn ts ex w K mg
section
variable {w : World} {K : PySem.W.Frag} {mg : Str → Option Value} (T : TX w K mg)
include T
theorem g_wall : mg "_wall" = some (.ref (He.ga K "_wall")) := Tx.glo T 0
theorem g_is_name : mg "is_name" = some (.ref (He.ga K "is_name")) := Tx.glo T 1
theorem g_is_whole : mg "is_whole" = some (.ref (He.ga K "is_whole")) := Tx.glo T 2
theorem g_is_from : mg "is_from" = some (.ref (He.ga K "is_from")) := Tx.glo T 3
theorem g_is_between : mg "is_between" = some (.ref (He.ga K "is_between")) := Tx.glo T 4
theorem g_is_row : mg "is_row" = some (.ref (He.ga K "is_row")) := Tx.glo T 5
theorem g_are_houses : mg "are_houses" = some (.ref (He.ga K "are_houses")) := Tx.glo T 6
theorem g_are_streets : mg "are_streets" = some (.ref (He.ga K "are_streets")) := Tx.glo T 7
theorem g_is_road : mg "is_road" = some (.ref (He.ga K "is_road")) := Tx.glo T 8
theorem g_are_roads : mg "are_roads" = some (.ref (He.ga K "are_roads")) := Tx.glo T 9
theorem g_are_rules : mg "are_rules" = some (.ref (He.ga K "are_rules")) := Tx.glo T 10
theorem g_reached : mg "reached" = some (.ref (He.ga K "reached")) := Tx.glo T 11
theorem g_are_tied : mg "are_tied" = some (.ref (He.ga K "are_tied")) := Tx.glo T 12
theorem g_well : mg "_law_well" = some (.ref (He.ga K "_law_well")) := Tx.glo T 13
theorem g_draw : mg "_law_draw" = some (.ref (He.ga K "_law_draw")) := Tx.glo T 14
theorem g_one : mg "_law_one" = some (.ref (He.ga K "_law_one")) := Tx.glo T 15
theorem g_name : mg "_law_name" = some (.ref (He.ga K "_law_name")) := Tx.glo T 16
theorem g_names : mg "_law_names" = some (.ref (He.ga K "_law_names")) := Tx.glo T 17
theorem g_mixed : mg "_law_mixed" = some (.ref (He.ga K "_law_mixed")) := Tx.glo T 18
theorem g_lroads : mg "_law_roads" = some (.ref (He.ga K "_law_roads")) := Tx.glo T 19
theorem g_lstreets : mg "_law_streets" = some (.ref (He.ga K "_law_streets")) := Tx.glo T 20
theorem g_law_told : mg "_law_told" = some (.ref (He.ga K "_law_told")) := Tx.glo T 21
theorem g_law : mg "law" = some (.ref (He.ga K "law")) := Tx.glo T 22
theorem f_ValueError : mg "ValueError" = none := Tx.free T 23
theorem f_all : mg "all" = none := Tx.free T 24
theorem f_bool : mg "bool" = none := Tx.free T 25
theorem f_dict : mg "dict" = none := Tx.free T 26
theorem f_enumerate : mg "enumerate" = none := Tx.free T 27
theorem f_int : mg "int" = none := Tx.free T 28
theorem f_isinstance : mg "isinstance" = none := Tx.free T 29
theorem f_len : mg "len" = none := Tx.free T 30
theorem f_list : mg "list" = none := Tx.free T 31
theorem f_range : mg "range" = none := Tx.free T 32
theorem f_repr : mg "repr" = none := Tx.free T 33
theorem f_set : mg "set" = none := Tx.free T 34
theorem f_sorted : mg "sorted" = none := Tx.free T 35
theorem f_str : mg "str" = none := Tx.free T 36
theorem f_tuple : mg "tuple" = none := Tx.free T 37
theorem f_zip : mg "zip" = none := Tx.free T 38
theorem c_LETTERS : ∃ t, mg "LETTERS" = some (.str "abcdefghijklmnopqrstuvwxyz" t) := Tx.str T 39
theorem c_MOST_LETTERS : ∃ t, mg "MOST_LETTERS" = some (.int 8 t) := Tx.int T 40
theorem g_LEASTS : mg "LEASTS" = some (.ref (He.ga K "LEASTS")) := Tx.glo T 41
theorem c_MOST_HOUSES : ∃ t, mg "MOST_HOUSES" = some (.int 8 t) := Tx.int T 42
theorem c_MOST_STREETS : ∃ t, mg "MOST_STREETS" = some (.int 20 t) := Tx.int T 43
theorem c_MOST_ROADS : ∃ t, mg "MOST_ROADS" = some (.int 16 t) := Tx.int T 44
theorem c_LEAST_BINS : ∃ t, mg "LEAST_BINS" = some (.int 2 t) := Tx.int T 45
theorem c_MOST_BINS : ∃ t, mg "MOST_BINS" = some (.int 5 t) := Tx.int T 46
theorem g_PostError : mg "PostError" = some (.ref (He.ga K "PostError")) := Tx.glo T 47
theorem g_NoLand : mg "NoLand" = some (.ref (He.ga K "NoLand")) := Tx.glo T 48
theorem g_NoRule : mg "NoRule" = some (.ref (He.ga K "NoRule")) := Tx.glo T 49
theorem g_NoHouse : mg "NoHouse" = some (.ref (He.ga K "NoHouse")) := Tx.glo T 50
theorem g_NoStreet : mg "NoStreet" = some (.ref (He.ga K "NoStreet")) := Tx.glo T 51
theorem g_NoDeed : mg "NoDeed" = some (.ref (He.ga K "NoDeed")) := Tx.glo T 52
theorem g_NoPiece : mg "NoPiece" = some (.ref (He.ga K "NoPiece")) := Tx.glo T 53
theorem g_Rule : mg "Rule" = some (.ref (He.ga K "Rule")) := Tx.glo T 54
theorem cl_Rule : Cls K (He.ga K "Rule") := He.cls_ok (T.c.fact 55 rfl)
theorem mk_Rule : Mk K (He.ga K "Rule") (He.fAd K ("Rule", some "__init__")) := He.mkr_ok (T.c.fact 56 rfl)
theorem m_Rule_fee : Meth K (He.ga K "Rule") "fee" (He.fAd K ("Rule", some "fee")) := He.meth_ok (T.c.fact 57 rfl)
theorem na_Rule_since : NoAttr K (He.ga K "Rule") "since" := He.noat_ok (T.c.fact 58 rfl)
theorem na_Rule_base : NoAttr K (He.ga K "Rule") "base" := He.noat_ok (T.c.fact 59 rfl)
theorem na_Rule_step : NoAttr K (He.ga K "Rule") "step" := He.noat_ok (T.c.fact 60 rfl)
theorem na_Rule_more : NoAttr K (He.ga K "Rule") "more" := He.noat_ok (T.c.fact 61 rfl)
theorem na_Rule_leg : NoAttr K (He.ga K "Rule") "leg" := He.noat_ok (T.c.fact 62 rfl)
theorem na_Rule_kept : NoAttr K (He.ga K "Rule") "kept" := He.noat_ok (T.c.fact 63 rfl)
theorem na_Rule_back : NoAttr K (He.ga K "Rule") "back" := He.noat_ok (T.c.fact 64 rfl)
theorem g_Land : mg "Land" = some (.ref (He.ga K "Land")) := Tx.glo T 65
theorem cl_Land : Cls K (He.ga K "Land") := He.cls_ok (T.c.fact 66 rfl)
theorem mk_Land : Mk K (He.ga K "Land") (He.fAd K ("Land", some "__init__")) := He.mkr_ok (T.c.fact 67 rfl)
theorem m_Land_has : Meth K (He.ga K "Land") "has" (He.fAd K ("Land", some "has")) := He.meth_ok (T.c.fact 68 rfl)
theorem m_Land_has_street : Meth K (He.ga K "Land") "has_street" (He.fAd K ("Land", some "has_street")) := He.meth_ok (T.c.fact 69 rfl)
theorem m_Land_house_of : Meth K (He.ga K "Land") "house_of" (He.fAd K ("Land", some "house_of")) := He.meth_ok (T.c.fact 70 rfl)
theorem m_Land_roads_from : Meth K (He.ga K "Land") "roads_from" (He.fAd K ("Land", some "roads_from")) := He.meth_ok (T.c.fact 71 rfl)
theorem m_Land_rule_at : Meth K (He.ga K "Land") "rule_at" (He.fAd K ("Land", some "rule_at")) := He.meth_ok (T.c.fact 72 rfl)
theorem na_Land_houses : NoAttr K (He.ga K "Land") "houses" := He.noat_ok (T.c.fact 73 rfl)
theorem na_Land_streets : NoAttr K (He.ga K "Land") "streets" := He.noat_ok (T.c.fact 74 rfl)
theorem na_Land_roads : NoAttr K (He.ga K "Land") "roads" := He.noat_ok (T.c.fact 75 rfl)
theorem na_Land_bins : NoAttr K (He.ga K "Land") "bins" := He.noat_ok (T.c.fact 76 rfl)
theorem na_Land_rules : NoAttr K (He.ga K "Land") "rules" := He.noat_ok (T.c.fact 77 rfl)
theorem D_wall : ∃ fd, FunD K d_wall.name d_wall.qual d_wall.params d_wall.body d_wall.scope (d_wall.dvs K) (d_wall.kws K) (He.fAd K d_wall.at_) fd := T.c.def_ 0 (d := d_wall)
theorem D_NoLand_init : ∃ fd, FunD K d_NoLand_init.name d_NoLand_init.qual d_NoLand_init.params d_NoLand_init.body d_NoLand_init.scope (d_NoLand_init.dvs K) (d_NoLand_init.kws K) (He.fAd K d_NoLand_init.at_) fd := T.c.def_ 1 (d := d_NoLand_init)
theorem D_NoRule_init : ∃ fd, FunD K d_NoRule_init.name d_NoRule_init.qual d_NoRule_init.params d_NoRule_init.body d_NoRule_init.scope (d_NoRule_init.dvs K) (d_NoRule_init.kws K) (He.fAd K d_NoRule_init.at_) fd := T.c.def_ 2 (d := d_NoRule_init)
theorem D_NoHouse_init : ∃ fd, FunD K d_NoHouse_init.name d_NoHouse_init.qual d_NoHouse_init.params d_NoHouse_init.body d_NoHouse_init.scope (d_NoHouse_init.dvs K) (d_NoHouse_init.kws K) (He.fAd K d_NoHouse_init.at_) fd := T.c.def_ 3 (d := d_NoHouse_init)
theorem D_NoStreet_init : ∃ fd, FunD K d_NoStreet_init.name d_NoStreet_init.qual d_NoStreet_init.params d_NoStreet_init.body d_NoStreet_init.scope (d_NoStreet_init.dvs K) (d_NoStreet_init.kws K) (He.fAd K d_NoStreet_init.at_) fd := T.c.def_ 4 (d := d_NoStreet_init)
theorem D_NoDeed_init : ∃ fd, FunD K d_NoDeed_init.name d_NoDeed_init.qual d_NoDeed_init.params d_NoDeed_init.body d_NoDeed_init.scope (d_NoDeed_init.dvs K) (d_NoDeed_init.kws K) (He.fAd K d_NoDeed_init.at_) fd := T.c.def_ 5 (d := d_NoDeed_init)
theorem D_NoPiece_init : ∃ fd, FunD K d_NoPiece_init.name d_NoPiece_init.qual d_NoPiece_init.params d_NoPiece_init.body d_NoPiece_init.scope (d_NoPiece_init.dvs K) (d_NoPiece_init.kws K) (He.fAd K d_NoPiece_init.at_) fd := T.c.def_ 6 (d := d_NoPiece_init)
theorem D_is_name : ∃ fd, FunD K d_is_name.name d_is_name.qual d_is_name.params d_is_name.body d_is_name.scope (d_is_name.dvs K) (d_is_name.kws K) (He.fAd K d_is_name.at_) fd := T.c.def_ 7 (d := d_is_name)
theorem D_is_whole : ∃ fd, FunD K d_is_whole.name d_is_whole.qual d_is_whole.params d_is_whole.body d_is_whole.scope (d_is_whole.dvs K) (d_is_whole.kws K) (He.fAd K d_is_whole.at_) fd := T.c.def_ 8 (d := d_is_whole)
theorem D_is_from : ∃ fd, FunD K d_is_from.name d_is_from.qual d_is_from.params d_is_from.body d_is_from.scope (d_is_from.dvs K) (d_is_from.kws K) (He.fAd K d_is_from.at_) fd := T.c.def_ 9 (d := d_is_from)
theorem D_is_between : ∃ fd, FunD K d_is_between.name d_is_between.qual d_is_between.params d_is_between.body d_is_between.scope (d_is_between.dvs K) (d_is_between.kws K) (He.fAd K d_is_between.at_) fd := T.c.def_ 10 (d := d_is_between)
theorem D_is_row : ∃ fd, FunD K d_is_row.name d_is_row.qual d_is_row.params d_is_row.body d_is_row.scope (d_is_row.dvs K) (d_is_row.kws K) (He.fAd K d_is_row.at_) fd := T.c.def_ 11 (d := d_is_row)
theorem D_Rule_init : ∃ fd, FunD K d_Rule_init.name d_Rule_init.qual d_Rule_init.params d_Rule_init.body d_Rule_init.scope (d_Rule_init.dvs K) (d_Rule_init.kws K) (He.fAd K d_Rule_init.at_) fd := T.c.def_ 12 (d := d_Rule_init)
theorem D_Rule_fee : ∃ fd, FunD K d_Rule_fee.name d_Rule_fee.qual d_Rule_fee.params d_Rule_fee.body d_Rule_fee.scope (d_Rule_fee.dvs K) (d_Rule_fee.kws K) (He.fAd K d_Rule_fee.at_) fd := T.c.def_ 13 (d := d_Rule_fee)
theorem D_are_houses : ∃ fd, FunD K d_are_houses.name d_are_houses.qual d_are_houses.params d_are_houses.body d_are_houses.scope (d_are_houses.dvs K) (d_are_houses.kws K) (He.fAd K d_are_houses.at_) fd := T.c.def_ 14 (d := d_are_houses)
theorem D_are_streets : ∃ fd, FunD K d_are_streets.name d_are_streets.qual d_are_streets.params d_are_streets.body d_are_streets.scope (d_are_streets.dvs K) (d_are_streets.kws K) (He.fAd K d_are_streets.at_) fd := T.c.def_ 15 (d := d_are_streets)
theorem D_is_road : ∃ fd, FunD K d_is_road.name d_is_road.qual d_is_road.params d_is_road.body d_is_road.scope (d_is_road.dvs K) (d_is_road.kws K) (He.fAd K d_is_road.at_) fd := T.c.def_ 16 (d := d_is_road)
theorem D_are_roads : ∃ fd, FunD K d_are_roads.name d_are_roads.qual d_are_roads.params d_are_roads.body d_are_roads.scope (d_are_roads.dvs K) (d_are_roads.kws K) (He.fAd K d_are_roads.at_) fd := T.c.def_ 17 (d := d_are_roads)
theorem D_are_rules : ∃ fd, FunD K d_are_rules.name d_are_rules.qual d_are_rules.params d_are_rules.body d_are_rules.scope (d_are_rules.dvs K) (d_are_rules.kws K) (He.fAd K d_are_rules.at_) fd := T.c.def_ 18 (d := d_are_rules)
theorem D_reached : ∃ fd, FunD K d_reached.name d_reached.qual d_reached.params d_reached.body d_reached.scope (d_reached.dvs K) (d_reached.kws K) (He.fAd K d_reached.at_) fd := T.c.def_ 19 (d := d_reached)
theorem D_are_tied : ∃ fd, FunD K d_are_tied.name d_are_tied.qual d_are_tied.params d_are_tied.body d_are_tied.scope (d_are_tied.dvs K) (d_are_tied.kws K) (He.fAd K d_are_tied.at_) fd := T.c.def_ 20 (d := d_are_tied)
theorem D_Land_init : ∃ fd, FunD K d_Land_init.name d_Land_init.qual d_Land_init.params d_Land_init.body d_Land_init.scope (d_Land_init.dvs K) (d_Land_init.kws K) (He.fAd K d_Land_init.at_) fd := T.c.def_ 21 (d := d_Land_init)
theorem D_Land_has : ∃ fd, FunD K d_Land_has.name d_Land_has.qual d_Land_has.params d_Land_has.body d_Land_has.scope (d_Land_has.dvs K) (d_Land_has.kws K) (He.fAd K d_Land_has.at_) fd := T.c.def_ 22 (d := d_Land_has)
theorem D_Land_has_street : ∃ fd, FunD K d_Land_has_street.name d_Land_has_street.qual d_Land_has_street.params d_Land_has_street.body d_Land_has_street.scope (d_Land_has_street.dvs K) (d_Land_has_street.kws K) (He.fAd K d_Land_has_street.at_) fd := T.c.def_ 23 (d := d_Land_has_street)
theorem D_Land_house_of : ∃ fd, FunD K d_Land_house_of.name d_Land_house_of.qual d_Land_house_of.params d_Land_house_of.body d_Land_house_of.scope (d_Land_house_of.dvs K) (d_Land_house_of.kws K) (He.fAd K d_Land_house_of.at_) fd := T.c.def_ 24 (d := d_Land_house_of)
theorem D_Land_roads_from : ∃ fd, FunD K d_Land_roads_from.name d_Land_roads_from.qual d_Land_roads_from.params d_Land_roads_from.body d_Land_roads_from.scope (d_Land_roads_from.dvs K) (d_Land_roads_from.kws K) (He.fAd K d_Land_roads_from.at_) fd := T.c.def_ 25 (d := d_Land_roads_from)
theorem D_Land_rule_at : ∃ fd, FunD K d_Land_rule_at.name d_Land_rule_at.qual d_Land_rule_at.params d_Land_rule_at.body d_Land_rule_at.scope (d_Land_rule_at.dvs K) (d_Land_rule_at.kws K) (He.fAd K d_Land_rule_at.at_) fd := T.c.def_ 26 (d := d_Land_rule_at)
theorem D_well : ∃ fd, FunD K d_well.name d_well.qual d_well.params d_well.body d_well.scope (d_well.dvs K) (d_well.kws K) (He.fAd K d_well.at_) fd := T.c.def_ 27 (d := d_well)
theorem D_draw : ∃ fd, FunD K d_draw.name d_draw.qual d_draw.params d_draw.body d_draw.scope (d_draw.dvs K) (d_draw.kws K) (He.fAd K d_draw.at_) fd := T.c.def_ 28 (d := d_draw)
theorem D_one : ∃ fd, FunD K d_one.name d_one.qual d_one.params d_one.body d_one.scope (d_one.dvs K) (d_one.kws K) (He.fAd K d_one.at_) fd := T.c.def_ 29 (d := d_one)
theorem D_name : ∃ fd, FunD K d_name.name d_name.qual d_name.params d_name.body d_name.scope (d_name.dvs K) (d_name.kws K) (He.fAd K d_name.at_) fd := T.c.def_ 30 (d := d_name)
theorem D_names : ∃ fd, FunD K d_names.name d_names.qual d_names.params d_names.body d_names.scope (d_names.dvs K) (d_names.kws K) (He.fAd K d_names.at_) fd := T.c.def_ 31 (d := d_names)
theorem D_mixed : ∃ fd, FunD K d_mixed.name d_mixed.qual d_mixed.params d_mixed.body d_mixed.scope (d_mixed.dvs K) (d_mixed.kws K) (He.fAd K d_mixed.at_) fd := T.c.def_ 32 (d := d_mixed)
theorem D_lroads : ∃ fd, FunD K d_lroads.name d_lroads.qual d_lroads.params d_lroads.body d_lroads.scope (d_lroads.dvs K) (d_lroads.kws K) (He.fAd K d_lroads.at_) fd := T.c.def_ 33 (d := d_lroads)
theorem D_lstreets : ∃ fd, FunD K d_lstreets.name d_lstreets.qual d_lstreets.params d_lstreets.body d_lstreets.scope (d_lstreets.dvs K) (d_lstreets.kws K) (He.fAd K d_lstreets.at_) fd := T.c.def_ 34 (d := d_lstreets)
theorem D_law_told : ∃ fd, FunD K d_law_told.name d_law_told.qual d_law_told.params d_law_told.body d_law_told.scope (d_law_told.dvs K) (d_law_told.kws K) (He.fAd K d_law_told.at_) fd := T.c.def_ 35 (d := d_law_told)
theorem D_law : ∃ fd, FunD K d_law.name d_law.qual d_law.params d_law.body d_law.scope (d_law.dvs K) (d_law.kws K) (He.fAd K d_law.at_) fd := T.c.def_ 36 (d := d_law)
theorem t_LEASTS : ∃ es n, KDict K w (He.ga K "LEASTS") es n ∧ es.toList.map He.keyOf = He.keysIn w.params ["since", "base", "step", "more", "leg", "kept", "back"] := T.tab 0
theorem sysK : SysK K := sysB_ok (exs_at (exs := exs) T.ex 0)
theorem v_LEASTS : He.valsB K (He.ga K "LEASTS") [("since", .int 0), ("base", .int 0), ("step", .int 1), ("more", .int 0), ("leg", .int 0), ("kept", .int 0), ("back", .int 0)] = true := exs_at (exs := exs) T.ex 1
theorem bc_PostError : BaseC K (He.ga K "PostError") := baseB_ok (exs_at (exs := exs) T.ex 2)
theorem ox_NoLand : OexC K (He.ga K "NoLand") := oexB_ok (exs_at (exs := exs) T.ex 3)
theorem ei_NoLand : PySem.W.findIn K (.ref (He.ga K "NoLand")) "__init__" = some (some (.ref (He.fAd K ("NoLand", some "__init__")))) ∧ PySem.W.typeIn K (.ref (He.fAd K ("NoLand", some "__init__"))) = some (.type "function") := einB_ok (exs_at (exs := exs) T.ex 4)
theorem xc_NoLand : ExcC K (He.ga K "NoLand") := excCB_ok (exs_at (exs := exs) T.ex 5)
theorem nf_NoLand_why : PySem.W.findIn K (.ref (He.ga K "NoLand")) "why" = some none := He.eqO_ok (exs_at (exs := exs) T.ex 6)
theorem ox_NoRule : OexC K (He.ga K "NoRule") := oexB_ok (exs_at (exs := exs) T.ex 7)
theorem ei_NoRule : PySem.W.findIn K (.ref (He.ga K "NoRule")) "__init__" = some (some (.ref (He.fAd K ("NoRule", some "__init__")))) ∧ PySem.W.typeIn K (.ref (He.fAd K ("NoRule", some "__init__"))) = some (.type "function") := einB_ok (exs_at (exs := exs) T.ex 8)
theorem xc_NoRule : ExcC K (He.ga K "NoRule") := excCB_ok (exs_at (exs := exs) T.ex 9)
theorem nf_NoRule_at : PySem.W.findIn K (.ref (He.ga K "NoRule")) "at" = some none := He.eqO_ok (exs_at (exs := exs) T.ex 10)
theorem ox_NoHouse : OexC K (He.ga K "NoHouse") := oexB_ok (exs_at (exs := exs) T.ex 11)
theorem ei_NoHouse : PySem.W.findIn K (.ref (He.ga K "NoHouse")) "__init__" = some (some (.ref (He.fAd K ("NoHouse", some "__init__")))) ∧ PySem.W.typeIn K (.ref (He.fAd K ("NoHouse", some "__init__"))) = some (.type "function") := einB_ok (exs_at (exs := exs) T.ex 12)
theorem xc_NoHouse : ExcC K (He.ga K "NoHouse") := excCB_ok (exs_at (exs := exs) T.ex 13)
theorem nf_NoHouse_house : PySem.W.findIn K (.ref (He.ga K "NoHouse")) "house" = some none := He.eqO_ok (exs_at (exs := exs) T.ex 14)
theorem ox_NoStreet : OexC K (He.ga K "NoStreet") := oexB_ok (exs_at (exs := exs) T.ex 15)
theorem ei_NoStreet : PySem.W.findIn K (.ref (He.ga K "NoStreet")) "__init__" = some (some (.ref (He.fAd K ("NoStreet", some "__init__")))) ∧ PySem.W.typeIn K (.ref (He.fAd K ("NoStreet", some "__init__"))) = some (.type "function") := einB_ok (exs_at (exs := exs) T.ex 16)
theorem xc_NoStreet : ExcC K (He.ga K "NoStreet") := excCB_ok (exs_at (exs := exs) T.ex 17)
theorem nf_NoStreet_street : PySem.W.findIn K (.ref (He.ga K "NoStreet")) "street" = some none := He.eqO_ok (exs_at (exs := exs) T.ex 18)
theorem ox_NoDeed : OexC K (He.ga K "NoDeed") := oexB_ok (exs_at (exs := exs) T.ex 19)
theorem ei_NoDeed : PySem.W.findIn K (.ref (He.ga K "NoDeed")) "__init__" = some (some (.ref (He.fAd K ("NoDeed", some "__init__")))) ∧ PySem.W.typeIn K (.ref (He.fAd K ("NoDeed", some "__init__"))) = some (.type "function") := einB_ok (exs_at (exs := exs) T.ex 20)
theorem xc_NoDeed : ExcC K (He.ga K "NoDeed") := excCB_ok (exs_at (exs := exs) T.ex 21)
theorem nf_NoDeed_why : PySem.W.findIn K (.ref (He.ga K "NoDeed")) "why" = some none := He.eqO_ok (exs_at (exs := exs) T.ex 22)
theorem ox_NoPiece : OexC K (He.ga K "NoPiece") := oexB_ok (exs_at (exs := exs) T.ex 23)
theorem ei_NoPiece : PySem.W.findIn K (.ref (He.ga K "NoPiece")) "__init__" = some (some (.ref (He.fAd K ("NoPiece", some "__init__")))) ∧ PySem.W.typeIn K (.ref (He.fAd K ("NoPiece", some "__init__"))) = some (.type "function") := einB_ok (exs_at (exs := exs) T.ex 24)
theorem xc_NoPiece : ExcC K (He.ga K "NoPiece") := excCB_ok (exs_at (exs := exs) T.ex 25)
theorem nf_NoPiece_piece : PySem.W.findIn K (.ref (He.ga K "NoPiece")) "piece" = some none := He.eqO_ok (exs_at (exs := exs) T.ex 26)
theorem em_Land_init_roads : ∀ H : Hp, SqT K H (kwAd ("Land", some "__init__") "roads" K) [] := fun H => emB_ok (exs_at (exs := exs) T.ex 27) H
theorem em_Land_init_rules : ∀ H : Hp, SqT K H (kwAd ("Land", some "__init__") "rules" K) [] := fun H => emB_ok (exs_at (exs := exs) T.ex 28) H
theorem nLR : He.ga K "Land" ≠ He.ga K "Rule" := of_decide_eq_true (exs_at (exs := exs) T.ex 29)
theorem in_Rule : InsC K "Rule" := insB_ok (exs_at (exs := exs) T.ex 30)
theorem kt : kitB2 K EN EB ktT = true := exs_at (exs := exs) T.ex 31
theorem kv : (EN.all fun x => decide (PySem.W.kitOne K (.ref (He.ga K x)) (.type "ValueError") = some true)) = true := exs_at (exs := exs) T.ex 32
theorem xt : exmB2 K EN EB ktT = true := exs_at (exs := exs) T.ex 33
end
/-! ### keywords of calls -/
theorem kb_Land_init_2_streets_roads : Kb d_Land_init ["self", "houses", "streets", "roads", "bins", "rules"] 2 ["streets", "roads"] [1, 2] [2, 3, 0, 1] := ⟨rfl, (by decide), fun K D _ _ _ _ _ us mv ws h1 h2 h3 => match us, mv, ws, h1, h2, h3 with | [_, _], [_, _], [_, _], _, _, _ => ⟨_, _, _, _, _, _, rfl, rfl, ⟨_, _, _, _, _, _, rfl, rfl, rfl⟩⟩⟩
theorem kb_Rule_init_1 : Kb0 d_Rule_init ["self", "since", "base", "step", "more", "leg", "kept", "back"] 1 := ⟨rfl, (by decide), rfl, fun K D _ _ _ _ _ us ks h1 h2 => match us, ks, h1, h2 with | [_], [_, _, _, _, _, _, _], _, _ => ⟨_, _, _, _, _, _, rfl, rfl, ⟨_, _, _, _, _, _, rfl, rfl, ⟨_, _, _, _, _, _, rfl, rfl, ⟨_, _, _, _, _, _, rfl, rfl, ⟨_, _, _, _, _, _, rfl, rfl, ⟨_, _, _, _, _, _, rfl, rfl, ⟨_, _, _, _, _, _, rfl, rfl, rfl⟩⟩⟩⟩⟩⟩⟩⟩
/-! ### the names of each def by slots -/
theorem sc_wall : FnScope ["k"] ["k"] (defScope s_wall) := ⟨rfl, rfl, rfl, by decide +kernel, rfl, by decide +kernel, by decide +kernel⟩
theorem sc_NoLand_init : FnScope ["self", "why"] ["self", "why"] (defScope s_NoLand_init) := ⟨rfl, rfl, rfl, by decide +kernel, rfl, by decide +kernel, by decide +kernel⟩
theorem sc_NoRule_init : FnScope ["self", "at"] ["self", "at"] (defScope s_NoRule_init) := ⟨rfl, rfl, rfl, by decide +kernel, rfl, by decide +kernel, by decide +kernel⟩
theorem sc_NoHouse_init : FnScope ["self", "house"] ["self", "house"] (defScope s_NoHouse_init) := ⟨rfl, rfl, rfl, by decide +kernel, rfl, by decide +kernel, by decide +kernel⟩
theorem sc_NoStreet_init : FnScope ["self", "street"] ["self", "street"] (defScope s_NoStreet_init) := ⟨rfl, rfl, rfl, by decide +kernel, rfl, by decide +kernel, by decide +kernel⟩
theorem sc_NoDeed_init : FnScope ["self", "why"] ["self", "why"] (defScope s_NoDeed_init) := ⟨rfl, rfl, rfl, by decide +kernel, rfl, by decide +kernel, by decide +kernel⟩
theorem sc_NoPiece_init : FnScope ["self", "piece"] ["self", "piece"] (defScope s_NoPiece_init) := ⟨rfl, rfl, rfl, by decide +kernel, rfl, by decide +kernel, by decide +kernel⟩
theorem sc_is_name : FnScope ["thing", "sign"] ["thing"] (defScope s_is_name) := ⟨rfl, rfl, rfl, by decide +kernel, rfl, by decide +kernel, by decide +kernel⟩
theorem sc_is_whole : FnScope ["thing"] ["thing"] (defScope s_is_whole) := ⟨rfl, rfl, rfl, by decide +kernel, rfl, by decide +kernel, by decide +kernel⟩
theorem sc_is_from : FnScope ["thing", "least"] ["thing", "least"] (defScope s_is_from) := ⟨rfl, rfl, rfl, by decide +kernel, rfl, by decide +kernel, by decide +kernel⟩
theorem sc_is_between : FnScope ["thing", "least", "most"] ["thing", "least", "most"] (defScope s_is_between) := ⟨rfl, rfl, rfl, by decide +kernel, rfl, by decide +kernel, by decide +kernel⟩
theorem sc_is_row : FnScope ["thing"] ["thing"] (defScope s_is_row) := ⟨rfl, rfl, rfl, by decide +kernel, rfl, by decide +kernel, by decide +kernel⟩
theorem sc_Rule_init : FnScope ["self", "since", "base", "step", "more", "leg", "kept", "back", "numbers", "name", "number"] ["self", "since", "base", "step", "more", "leg", "kept", "back"] (defScope s_Rule_init) := ⟨rfl, rfl, rfl, by decide +kernel, rfl, by decide +kernel, by decide +kernel⟩
theorem sc_Rule_fee : FnScope ["self", "weight", "legs", "kept"] ["self", "weight", "legs", "kept"] (defScope s_Rule_fee) := ⟨rfl, rfl, rfl, by decide +kernel, rfl, by decide +kernel, by decide +kernel⟩
theorem sc_are_houses : FnScope ["thing", "house"] ["thing"] (defScope s_are_houses) := ⟨rfl, rfl, rfl, by decide +kernel, rfl, by decide +kernel, by decide +kernel⟩
theorem sc_are_streets : FnScope ["thing", "houses", "street", "house"] ["thing", "houses"] (defScope s_are_streets) := ⟨rfl, rfl, rfl, by decide +kernel, rfl, by decide +kernel, by decide +kernel⟩
theorem sc_is_road : FnScope ["thing", "houses", "begin", "goal", "first", "every", "takes"] ["thing", "houses"] (defScope s_is_road) := ⟨rfl, rfl, rfl, by decide +kernel, rfl, by decide +kernel, by decide +kernel⟩
theorem sc_are_roads : FnScope ["thing", "houses", "road"] ["thing", "houses"] (defScope s_are_roads) := ⟨rfl, rfl, rfl, by decide +kernel, rfl, by decide +kernel, by decide +kernel⟩
theorem sc_are_rules : FnScope ["thing", "rule", "ticks", "ahead", "behind"] ["thing"] (defScope s_are_rules) := ⟨rfl, rfl, rfl, by decide +kernel, rfl, by decide +kernel, by decide +kernel⟩
theorem sc_reached : FnScope ["pairs", "house", "found", "at", "begin", "goal"] ["pairs", "house"] (defScope s_reached) := ⟨rfl, rfl, rfl, by decide +kernel, rfl, by decide +kernel, by decide +kernel⟩
theorem sc_are_tied : FnScope ["houses", "roads", "there", "road", "back", "begin", "goal", "pairs"] ["houses", "roads"] (defScope s_are_tied) := ⟨rfl, rfl, rfl, by decide +kernel, rfl, by decide +kernel, by decide +kernel⟩
theorem sc_Land_init : FnScope ["self", "houses", "streets", "roads", "bins", "rules", "told"] ["self", "houses", "streets", "roads", "bins", "rules"] (defScope s_Land_init) := ⟨rfl, rfl, rfl, by decide +kernel, rfl, by decide +kernel, by decide +kernel⟩
theorem sc_Land_has : FnScope ["self", "house"] ["self", "house"] (defScope s_Land_has) := ⟨rfl, rfl, rfl, by decide +kernel, rfl, by decide +kernel, by decide +kernel⟩
theorem sc_Land_has_street : FnScope ["self", "street"] ["self", "street"] (defScope s_Land_has_street) := ⟨rfl, rfl, rfl, by decide +kernel, rfl, by decide +kernel, by decide +kernel⟩
theorem sc_Land_house_of : FnScope ["self", "street"] ["self", "street"] (defScope s_Land_house_of) := ⟨rfl, rfl, rfl, by decide +kernel, rfl, by decide +kernel, by decide +kernel⟩
theorem sc_Land_roads_from : FnScope ["self", "house", "number", "road"] ["self", "house"] (defScope s_Land_roads_from) := ⟨rfl, rfl, rfl, by decide +kernel, rfl, by decide +kernel, by decide +kernel⟩
theorem sc_Land_rule_at : FnScope ["self", "tick"] ["self", "tick"] (defScope s_Land_rule_at) := ⟨rfl, rfl, rfl, by decide +kernel, rfl, by decide +kernel, by decide +kernel⟩
theorem sc_well : FnScope ["_law_cell"] ["_law_cell"] (defScope s_well) := ⟨rfl, rfl, rfl, by decide +kernel, rfl, by decide +kernel, by decide +kernel⟩
theorem sc_draw : FnScope ["_law_well_here", "_law_many", "_law_digit", "_law_prime", "_law_number"] ["_law_well_here", "_law_many"] (defScope s_draw) := ⟨rfl, rfl, rfl, by decide +kernel, rfl, by decide +kernel, by decide +kernel⟩
theorem sc_one : FnScope ["_law_well_here", "_law_some"] ["_law_well_here", "_law_some"] (defScope s_one) := ⟨rfl, rfl, rfl, by decide +kernel, rfl, by decide +kernel, by decide +kernel⟩
theorem sc_name : FnScope ["_law_well_here", "_law_pick", "_law_word", "_law_k"] ["_law_well_here"] (defScope s_name) := ⟨rfl, rfl, rfl, by decide +kernel, rfl, by decide +kernel, by decide +kernel⟩
theorem sc_names : FnScope ["_law_well_here", "_law_many", "_law_found", "_law_name_here", "_law_at"] ["_law_well_here", "_law_many"] (defScope s_names) := ⟨rfl, rfl, rfl, by decide +kernel, rfl, by decide +kernel, by decide +kernel⟩
theorem sc_mixed : FnScope ["_law_well_here", "_law_some", "_law_left", "_law_k"] ["_law_well_here", "_law_some"] (defScope s_mixed) := ⟨rfl, rfl, rfl, by decide +kernel, rfl, by decide +kernel, by decide +kernel⟩
theorem sc_lroads : FnScope ["_law_well_here", "_law_houses", "_law_order", "_law_found", "_law_k", "_law_at", "_law_paths", "_law_begin", "_law_goal", "_law_first", "_law_every"] ["_law_well_here", "_law_houses"] (defScope s_lroads) := ⟨rfl, rfl, rfl, by decide +kernel, rfl, by decide +kernel, by decide +kernel⟩
theorem sc_lstreets : FnScope ["_law_well_here", "_law_houses", "_law_many", "_law_street"] ["_law_well_here", "_law_houses"] (defScope s_lstreets) := ⟨rfl, rfl, rfl, by decide +kernel, rfl, by decide +kernel, by decide +kernel⟩
theorem sc_law_told : FnScope ["_law_land", "_law_which", "_law_thing", "e"] ["_law_land", "_law_which", "_law_thing"] (defScope s_law_told) := ⟨rfl, rfl, rfl, by decide +kernel, rfl, by decide +kernel, by decide +kernel⟩
theorem sc_law : FnScope ["_law_script", "_law_cell", "_law_well_here", "_law_houses", "_law_placed", "_law_paths", "_law_land", "_law_odd", "_law_some", "_law_thing", "_law_here", "_law_number", "_law_path", "_law_due"] ["_law_script"] (defScope s_law) := ⟨rfl, rfl, rfl, by decide +kernel, rfl, by decide +kernel, by decide +kernel⟩
end Lw

namespace Lw
open PySem PySem.Spec PyProof.Rows L2 TP
section
variable {P : Program} {w : World} {K : PySem.W.Frag} {mg : Str → Option Value} {base : Heap}

theorem ok_well (T : TX w K mg) : Gt P w K mg base CX0 1 "_law_well" ["_law_cell"] spWell := by
  refine gt_mk (D_well T) (g_well T) sc_well rfl (fun _ _ _ _ _ _ us hl => match us, hl with | [_], _ => rfl) (fun vs H Q E h => ?_) (fun f cdv A outer s H vs Q E hr h => ?_)
  · obtain ⟨z, rfl, _⟩ := h
    rfl
  obtain ⟨z, rfl, k⟩ := h
  refine ⟨_, (pss_one (ps_ret (pe_lst (pa_cons (pe_op op_mul (pv 0) (pe_callTy call_int1 (by rfl) (f_int T) (by decide +kernel) (pa_cons (pe_cmpR op_ge (pv 0) (pe_op op_pow pe_int pe_int) (nomark _)) pa_nil))) (pa_cons (pe_op op_mod (pe_callTy call_int1 (by rfl) (f_int T) (by decide +kernel) (pa_cons (pv 0) pa_nil)) pe_int) (pa_cons pe_int pa_nil)))))), ?_⟩
  refine ⟨_, rfl, _, rfl, _, _, rfl, rfl, ⟨by decide, by decide, by decide⟩, _, _, rfl, rfl, .inr ⟨_, rfl, ?_⟩⟩
  refine ⟨_, _, rfl, rfl, .inr ?_, _, rfl, .inl ⟨_, rfl, _, _, rfl, rfl, (by show (0 : Int) < 2147483647; decide), ?_⟩⟩
  · split <;> exact ⟨by decide, by decide⟩
  refine ⟨(by show 3 ≤ sizeLine; decide), fun p hp => k p _ hp ?_ (Evl.Ex.new hp)⟩
  refine ⟨_, _, _, upd_same, ?_, Int.emod_nonneg z (by decide), Int.emod_lt_of_pos z (by decide), by decide, by decide⟩
  show 0 ≤ z * (if decide ((10 : Int) ^ (18 : Int).toNat ≤ z) = true then 1 else 0)
  split
  · rename_i h
    have := of_decide_eq_true h
    have e : (10 : Int) ^ (18 : Int).toNat = 1000000000000000000 := by decide
    omega
  · omega

theorem ok_draw (T : TX w K mg) : Gt P w K mg base CX0 1 "_law_draw" ["_law_well_here", "_law_many"] spDraw := by
  refine gt_mk (D_draw T) (g_draw T) sc_draw rfl (fun _ _ _ _ _ _ us hl => match us, hl with | [_, _], _ => rfl) (fun vs H Q E h => ?_) (fun f cdv A outer s H vs Q E hr h => ?_)
  · obtain ⟨a, n, m, rfl, _⟩ := h
    rfl
  obtain ⟨a, n, m, rfl, ⟨x, y, c, ea, hx, hy, hy2, hc, hcn⟩, hn, hm, hm9, k⟩ := h
  refine ⟨_, (pss_cons (ps_if (pt_cmpR op_gt (pe_ix ix_list (pv 0) pe_int (fun _ _ => rfl)) pe_int (nomark _))
      (pss_cons (ps_set (i := 2) sc_draw.nd rfl (by first | exact Or.inl rfl | exact Or.inr rfl) (pe_op op_mod (pe_callTy call_int1 (by rfl) (f_int T) (by decide +kernel) (pa_cons (pe_ix ix_list (pv 0) pe_int (fun _ _ => rfl)) pa_nil)) (pv 1)))
    (pss_cons (ps_asg (pe_op op_fdivW (pe_ix ix_list (pv 0) pe_int (fun _ _ => rfl)) (pv 1)) (pg_sub (pv 0) pe_int set_list))
    (pss_one (ps_ret (pv 2)))))
      pss_nil)
    (pss_cons (ps_asg (pe_op op_add (pe_ix ix_list (pv 0) pe_int (fun _ _ => rfl)) pe_int) (pg_sub (pv 0) pe_int set_list))
    (pss_cons (ps_set (i := 3) sc_draw.nd rfl (by first | exact Or.inl rfl | exact Or.inr rfl) (pe_ix ix_list (pe_lst (pa_cons pe_int (pa_cons pe_int (pa_cons pe_int (pa_cons pe_int (pa_cons pe_int (pa_cons pe_int (pa_cons pe_int pa_nil)))))))) (pe_op op_mod (pe_callTy call_int1 (by rfl) (f_int T) (by decide +kernel) (pa_cons (pe_ix ix_list (pv 0) pe_int (fun _ _ => rfl)) pa_nil)) pe_int) (fun _ _ => rfl)))
    (pss_cons (ps_set (i := 4) sc_draw.nd rfl (by first | exact Or.inl rfl | exact Or.inr rfl) (pe_op op_mod (pe_callTy call_int1 (by rfl) (f_int T) (by decide +kernel) (pa_cons (pe_op op_pow (pe_op op_add (pe_op op_add (pe_ix ix_list (pv 0) pe_int (fun _ _ => rfl)) (pe_op op_mul pe_int (pe_ix ix_list (pv 0) pe_int (fun _ _ => rfl)))) pe_int) pe_int) pa_nil)) (pv 3)))
    (pss_cons (ps_set (i := 4) sc_draw.nd rfl (by first | exact Or.inl rfl | exact Or.inr rfl) (pe_op op_mod (pe_callTy call_int1 (by rfl) (f_int T) (by decide +kernel) (pa_cons (pe_op op_mul (pe_op op_add (pv 4) (pe_ix ix_list (pv 0) pe_int (fun _ _ => rfl))) (pe_op op_add (pe_op op_fdivW (pv 4) pe_int) pe_int)) pa_nil)) (pv 3)))
    (pss_one (ps_ret (pe_op op_mod (pe_callTy call_int1 (by rfl) (f_int T) (by decide +kernel) (pa_cons (pe_op op_fdivW (pv 4) pe_int) pa_nil)) (pv 1))))))))), ?_⟩
  refine ⟨_, rfl, a, _, _, _, rfl, rfl, SqL.of ea, atI_nat (j := 0) rfl, _, _, rfl, rfl, _, rfl, ?_⟩
  refine ite2 (fun h0 => ?_) (fun h0 => ?_)
  · refine ⟨_, rfl, a, _, _, _, rfl, rfl, SqL.of ea, atI_nat (j := 0) rfl, .inl ⟨_, rfl, _, rfl, _, _, rfl, rfl, hm, ?_⟩⟩
    refine ⟨_, rfl, a, _, _, _, rfl, rfl, SqL.of ea, atI_nat (j := 0) rfl, _, rfl, _, _, rfl, rfl, ⟨hm, hm9⟩, ?_⟩
    refine ⟨_, rfl, a, _, _, 0, rfl, rfl, ea, rfl, ?_⟩
    refine ⟨_, rfl, k _ _ (Int.emod_nonneg _ (by omega)) (Int.emod_lt_of_pos _ hm) ⟨⟨_, y, c, upd_same, Int.ediv_nonneg hx (by omega), hy, hy2, hc, by omega⟩, (Wk.refl a H).set⟩⟩
  · refine ⟨_, rfl, a, _, _, _, rfl, rfl, SqL.of ea, atI_nat (j := 2) rfl, _, _, rfl, rfl, ?_⟩
    refine ⟨_, rfl, a, _, _, 2, rfl, rfl, ea, rfl, ?_⟩
    refine ⟨(by show 7 ≤ sizeLine; decide), fun p hp => ?_⟩
    have npa : a ≠ p := ne_of_none upd_same hp
    have ea2 : (upd (upd H a (.lst [.int x, .int y, .int (c + 1)])) p (.lst [.int 2147483647, .int 2147483629, .int 2147483587, .int 2147483579, .int 2147483563, .int 2147483549, .int 2147483543])) a = some (.lst [.int x, .int y, .int (c + 1)]) := by
      rw [upd_ne npa, upd_same]
    have hpr : ∃ q : Int, atI [V.int 2147483647, .int 2147483629, .int 2147483587, .int 2147483579, .int 2147483563, .int 2147483549, .int 2147483543] ((c + 1) % 7) = some (.int q) ∧ 2147483543 ≤ q ∧ q ≤ 2147483647 := by
      have h7 : (c + 1) % 7 = 0 ∨ (c + 1) % 7 = 1 ∨ (c + 1) % 7 = 2 ∨ (c + 1) % 7 = 3 ∨ (c + 1) % 7 = 4 ∨ (c + 1) % 7 = 5 ∨ (c + 1) % 7 = 6 := by omega
      rcases h7 with e | e | e | e | e | e | e <;> rw [e] <;> exact ⟨_, rfl, by decide, by decide⟩
    obtain ⟨q, hq, q1, q2⟩ := hpr
    refine ⟨_, rfl, a, _, _, _, rfl, rfl, SqL.of ea2, atI_nat (j := 2) rfl, .inl ⟨_, rfl, _, _, rfl, rfl, (by show (0 : Int) < 7; decide), ?_⟩⟩
    refine ⟨p, _, _, _, rfl, rfl, SqL.of upd_same, hq, ?_⟩
    refine ⟨_, rfl, a, _, _, _, rfl, rfl, SqL.of ea2, atI_nat (j := 1) rfl, _, rfl, a, _, _, _, rfl, rfl, SqL.of ea2, atI_nat (j := 2) rfl, _, _, rfl, rfl, .inl ⟨by decide, by decide⟩, _, _, rfl, rfl, _, _, rfl, rfl, _, _, rfl, rfl, ⟨by decide, by decide, ?_⟩, .inl ⟨_, rfl, ?_⟩⟩
    · show (y + 7919 * (c + 1) + 1).natAbs < 2 ^ 64
      omega
    refine ⟨_, rfl, _, _, rfl, rfl, (by show (0 : Int) < q; omega), ?_⟩
    have hz1 := Int.emod_nonneg ((y + 7919 * (c + 1) + 1) ^ (5 : Int).toNat) (show q ≠ 0 by omega)
    have hz2 := Int.emod_lt_of_pos ((y + 7919 * (c + 1) + 1) ^ (5 : Int).toNat) (show 0 < q by omega)
    generalize hzz : (y + 7919 * (c + 1) + 1) ^ (5 : Int).toNat % q = z at hz1 hz2
    refine ⟨_, rfl, _, rfl, a, _, _, _, rfl, rfl, SqL.of ea2, atI_nat (j := 2) rfl, _, _, rfl, rfl, _, rfl, _, _, rfl, rfl, ⟨by decide, by decide +kernel⟩, _, _, rfl, rfl, _, _, rfl, rfl, .inl ?_, .inl ⟨_, rfl, ?_⟩⟩
    · show -(2 ^ 64) < _ + (c + 1) ∧ _ + (c + 1) < 2 ^ 64
      rw [hzz]
      omega
    refine ⟨_, rfl, _, _, rfl, rfl, (by show (0 : Int) < q; omega), ?_⟩
    refine ⟨_, rfl, _, _, rfl, rfl, ⟨by decide, by decide +kernel⟩, .inl ⟨_, rfl, _, rfl, _, _, rfl, rfl, hm, ?_⟩⟩
    exact k _ _ (Int.emod_nonneg _ (by omega)) (Int.emod_lt_of_pos _ hm) ⟨⟨x, y, c + 1, ea2, hx, hy, hy2, by omega, by omega⟩, ((Wk.refl a H).set).new hp⟩

theorem ok_one (T : TX w K mg) : Gt P w K mg base CX0 2 "_law_one" ["_law_well_here", "_law_some"] (spOne K) := by
  refine gt_mk (D_one T) (g_one T) sc_one rfl (fun _ _ _ _ _ _ us hl => match us, hl with | [_, _], _ => rfl) (fun vs H Q E h => ?_) (fun f cdv A outer s H vs Q E hr h => ?_)
  · obtain ⟨a, l, n, xs, rfl, _⟩ := h
    rfl
  obtain ⟨a, l, n, xs, rfl, wl, hn, hs, nla, h0, hz, k⟩ := h
  refine ⟨_, (pss_one (ps_ret (pe_ix ix_list (pv 1) ((ok_draw T).pe (hr.mono (by decide)) (pa_cons (pv 0) (pa_cons (pe_callB call_len_seq (by rfl) (f_len T) (by decide +kernel) (pa_cons (pv 1) pa_nil)) pa_nil))) (fun _ _ => rfl)))), ?_⟩
  refine ⟨_, rfl, _, rfl, _, rfl, l, xs, rfl, .inl hs, a, n, _, rfl, wl, hn, (by show (0 : Int) < (xs.length : Int); omega), ?_, fun d H' d0 d1 dn => ?_⟩
  · exact log2_small_of (show ((xs.length : Nat) : Int).natAbs < 2 ^ 64 by omega)
  have hd : d.toNat < xs.length := by
    have : d < (xs.length : Int) := d1
    omega
  have e : atI xs d = some xs[d.toNat] := at_of (j := d.toNat) (by omega) (by simp [hd])
  exact ⟨l, xs, d, _, rfl, rfl, dn.sql hs nla, e, k _ H' (List.getElem_mem hd) dn⟩

theorem ok_name (T : TX w K mg) : Gt P w K mg base CX0 3 "_law_name" ["_law_well_here"] spName := by
  refine gt_mk (D_name T) (g_name T) sc_name rfl (fun _ _ _ _ _ _ us hl => match us, hl with | [_], _ => rfl) (fun vs H Q E h => ?_) (fun f cdv A outer s H vs Q E hr h => ?_)
  · obtain ⟨a, n, rfl, _⟩ := h
    rfl
  obtain ⟨a, n, rfl, wl, hn, k⟩ := h
  refine ⟨_, (pss_cons (ps_set (i := 1) sc_name.nd rfl (by first | exact Or.inl rfl | exact Or.inr rfl) ((ok_draw T).pe (hr.mono (by decide)) (pa_cons (pv 0) (pa_cons pe_int pa_nil))))
    (pss_cons (ps_if (pt_cmpR op_eq (pv 1) pe_int (nomark _))
      (pss_one (ps_ret ((ok_one T).pe (hr.mono (by decide)) (pa_cons (pv 0) (pa_cons (pe_lst (pa_cons pe_str (pa_cons pe_str (pa_cons pe_str (pa_cons pe_str (pa_cons pe_str (pa_cons pe_str (pa_cons pe_str (pa_cons pe_str (pa_cons pe_str (pa_cons pe_str pa_nil))))))))))) pa_nil)))))
      pss_nil)
    (pss_cons (ps_set (i := 2) sc_name.nd rfl (by first | exact Or.inl rfl | exact Or.inr rfl) pe_str)
    (pss_cons (ps_for PassesOwn.never rfl (pi_range1 (by rfl) (f_range T) (pa_cons (pe_op op_add pe_int ((ok_draw T).pe (hr.mono (by decide)) (pa_cons (pv 0) (pa_cons (pe_ix ix_list (pe_lst (pa_cons pe_int (pa_cons pe_int pa_nil))) (pe_op op_sub (pv 1) pe_int) (fun _ _ => rfl)) pa_nil)))) pa_nil)) (pg_name (i := 3) sc_name.nd rfl (by first | exact Or.inl rfl | exact Or.inr rfl))
      (pss_one (ps_set (i := 2) sc_name.nd rfl (by first | exact Or.inl rfl | exact Or.inr rfl) (pe_op op_add_str (pv 2) (pe_ix ix_str pe_str ((ok_draw T).pe (hr.mono (by decide)) (pa_cons (pv 0) (pa_cons pe_int pa_nil))) (fun _ _ => rfl))))))
    (pss_one (ps_ret (pv 2))))))), ?_⟩
  refine ⟨_, rfl, a, n, 3, rfl, wl, by omega, by decide, by decide +kernel, fun d H1 d0 d3 D1 => ?_⟩
  refine ⟨_, rfl, rfl, _, rfl, ite2 (fun e => ?_) (fun e => ?_)⟩
  · refine ⟨_, rfl, (by show 10 ≤ sizeLine; decide), fun p hp => ⟨a, p, n + 1, _, rfl, D1.wl.new hp, by omega, SqL.of upd_same, D1.wl.nep hp, (by show 0 < 10; decide), (by show 10 ≤ 1000000; decide), fun v H2 hv D2 => ?_⟩⟩
    have hz : ∃ z, v = V.str z ∧ NmP z := by
      have hall : ∀ v ∈ (["a", "b", "home", "house", "none", "kept", "plain", "zzzzzzzz", "post", "aa"].map fun s => (V.str (Str.ofString s))), ∃ z, v = V.str z ∧ NmP z := by
        intro v hv
        obtain ⟨s, hs, rfl⟩ := List.mem_map.mp hv
        refine ⟨_, rfl, isNm_iff.mp ?_⟩
        have hd : ∀ s ∈ ["a", "b", "home", "house", "none", "kept", "plain", "zzzzzzzz", "post", "aa"], isNm (Str.ofString s) = true := by decide +kernel
        exact hd s hs
      exact hall v hv
    obtain ⟨z, rfl, hz⟩ := hz
    exact k z H2 hz ⟨D2.wl.mono (by omega), (D1.k.new hp).trans D2.k⟩
  · have e0 : ¬ d = 0 := fun z => e (decide_eq_true (by rw [z]))
    obtain ⟨m, hm, m1, m8⟩ : ∃ m : Int, atI [V.int 1, V.int 8] (d - 1) = some (.int m) ∧ 0 < m ∧ m ≤ 8 := by
      have h2 : d = 1 ∨ d = 2 := by omega
      rcases h2 with rfl | rfl
      · exact ⟨1, rfl, by decide, by decide⟩
      · exact ⟨8, rfl, by decide, by decide⟩
    refine ⟨_, rfl, (by show 2 ≤ sizeLine; decide), fun p hp => ⟨_, rfl, _, _, rfl, rfl, p, _, _, _, rfl, rfl, SqL.of upd_same, hm, ?_⟩⟩
    refine ⟨a, n + 1, m, rfl, D1.wl.new hp, by omega, m1, log2_small_of (by omega), fun d2 H2 h20 h2m D2 => ?_⟩
    refine ⟨_, _, rfl, rfl, _, rfl, (by show -(2 ^ 62) ≤ 1 + d2; omega), (by show 1 + d2 < 2 ^ 62; omega), ?_⟩
    have D2' : Dn a (n + 2) H H2 := ⟨D2.wl, (D1.k.new hp).trans D2.k⟩
    have hT : (1 + d2).toNat ≤ 8 := by omega
    refine for_range (lo := 0) (n := (1 + d2).toNat) (fun i σ H' => ∃ (z : Str) (v : Option V), σ = [some (.ref a), some (.int d), some (.str z), v] ∧ Dn a (n + 2 + i) H H' ∧ z.length = i ∧ ∀ c ∈ z.cps.toList, c ∈ LT.cps.toList)
      ⟨_, _, rfl, D2', rfl, fun c hc => (emp_codes hc).elim⟩ ?_ ?_
    · rintro i σ H3 hi ⟨z, v, rfl, D3, hl, hz⟩
      refine ⟨_, rfl, _, rfl, a, _, 26, rfl, D3.wl, by omega, by decide, by decide +kernel, fun d4 H4 h40 h41 D4 => ?_⟩
      have hlt : d4.toNat < LT.cps.toList.length := by rw [LT_list]; show d4.toNat < 26; omega
      refine ⟨LT, d4, LT.cps.toList[d4.toNat], rfl, rfl, by decide +kernel, ?_, _, _, rfl, rfl, ?_, ?_⟩
      · exact atC_of (j := d4.toNat) (by omega) (by simp [hlt])
      · show z.length + 1 ≤ sizeLine
        have : sizeLine = 16777216 := sizeLine_eq
        omega
      refine ⟨_, _, rfl, ⟨D4.wl, D3.k.trans D4.k⟩, ?_, fun c hc => ?_⟩
      · rw [strLen_append, hl]
        rfl
      · rw [app_codes] at hc
        rcases List.mem_append.mp hc with h | h
        · exact hz c h
        · have : c = LT.cps.toList[d4.toNat] := by simpa using h
          rw [this]
          exact List.getElem_mem hlt
    · rintro σ H3 ⟨z, v, rfl, D3, hl, hz⟩
      exact ⟨_, rfl, k z H3 ⟨by omega, by omega, hz⟩ (D3.mono (by omega))⟩

theorem ok_names (T : TX w K mg) : Gt P w K mg base CX0 4 "_law_names" ["_law_well_here", "_law_many"] spNames := by
  refine gt_mk (D_names T) (g_names T) sc_names rfl (fun _ _ _ _ _ _ us hl => match us, hl with | [_, _], _ => rfl) (fun vs H Q E h => ?_) (fun f cdv A outer s H vs Q E hr h => ?_)
  · obtain ⟨w, n, m, rfl, _⟩ := h
    rfl
  obtain ⟨w, n, m, rfl, wl, hn, hm, k⟩ := h
  refine ⟨_, (pss_cons (ps_set (i := 2) sc_names.nd rfl (by first | exact Or.inl rfl | exact Or.inr rfl) (pe_lst pa_nil))
    (pss_cons (ps_while PassesOwn.never (pt_cmpR op_lt (pe_callB call_len_seq (by rfl) (f_len T) (by decide +kernel) (pa_cons (pv 2) pa_nil)) (pv 1) (nomark _))
      (pss_cons (ps_set (i := 3) sc_names.nd rfl (by first | exact Or.inl rfl | exact Or.inr rfl) ((ok_name T).pe (hr.mono (by decide)) (pa_cons (pv 0) pa_nil)))
    (pss_cons (ps_set (i := 4) sc_names.nd rfl (by first | exact Or.inl rfl | exact Or.inr rfl) pe_int)
    (pss_cons (ps_while PassesOwn.never (pt_cmpR op_in_seq (pv 3) (pv 2) (by rfl))
      (pss_cons (ps_set (i := 3) sc_names.nd rfl (by first | exact Or.inl rfl | exact Or.inr rfl) (pe_op op_add_str pe_str (pe_ix ix_str pe_str (pv 4) (fun _ _ => rfl))))
    (pss_one (ps_set (i := 4) sc_names.nd rfl (by first | exact Or.inl rfl | exact Or.inr rfl) (pe_op op_add (pv 4) pe_int)))))
    (pss_one (ps_expr (pe_bm PySem.F.plainAttrs_list PySem.F.slot_list_append PySem.F.type_list_append mt_append (pv 2) (pa_cons (pv 3) pa_nil))))))))
    (pss_one (ps_ret (pv 2))))), ?_⟩
  refine ⟨(by show 0 ≤ sizeLine; decide), fun l hl => ?_⟩
  have nlw : l ≠ w := wl.nep hl
  have D0 : Dn w n H (upd H l (.lst [])) := ⟨wl.new hl, Wk.new (Wk.refl _ _) hl⟩
  refine while_by (fun σ H' => ∃ (f : List Str) (u3 u4 : Option V), σ = [some (.ref w), some (.int m), some (.ref l), u3, u4] ∧ Dn w (n + 20 * f.length) H H' ∧ H' l = some (.lst (f.map V.str)) ∧ f.Nodup ∧ (∀ z ∈ f, NmP z) ∧ f.length ≤ m)
    (fun _ H' => match H' l with | some (.lst xs) => m - xs.length | _ => 0) ⟨[], _, _, rfl, D0, upd_same, by simp, fun z h => (nomatch h), Nat.zero_le _⟩ ?_ ?_
  · rintro σ H1 ⟨f, u3, u4, rfl, D1, hf, nd, nm, fl⟩
    have hfl : (f.map V.str).length = f.length := List.length_map ..
    refine ⟨_, rfl, l, _, rfl, .inl (SqL.of hf), _, rfl, _, _, rfl, rfl, _, rfl, ite2 (fun b => ?_) (fun b => ?_)⟩
    · have lt : f.length < m := by
        have := of_decide_eq_true b
        rw [hfl] at this
        omega
      refine ⟨_, rfl, w, n + 20 * f.length, rfl, D1.wl, by omega, fun z0 H2 hz0 D2 => ?_⟩
      have hf2 := D2.k _ _ nlw hf
      refine while_by (fun σ H' => ∃ (z : Str) (j : Nat), σ = [some (.ref w), some (.int m), some (.ref l), some (.str z), some (.int j)] ∧ H' = H2 ∧ NmP z ∧ (∀ i, i + 1 < j → vNm i ∈ f) ∧ (0 < j → z = vNm (j - 1)))
        (fun σ _ => match σ with | [_, _, _, _, some (.int j)] => 30 - j.toNat | _ => 0) ⟨z0, 0, rfl, rfl, hz0, fun i h => by omega, fun h => by omega⟩ ?_ ?_
      · rintro σ H3 ⟨z, j, rfl, rfl, hz, hall, hzj⟩
        refine ⟨_, rfl, _, rfl, l, _, rfl, .inl (SqL.of hf2), rfl, flat_strs' f, ?_⟩
        rw [show (if false = true then !inV (.str z) (f.map V.str) else inV (.str z) (f.map V.str)) = decide (z ∈ f) by rw [if_neg Bool.false_ne_true, inV_str]]
        refine ⟨_, rfl, ite2 (fun b1 => ?_) (fun b1 => ?_)⟩
        · have hin := of_decide_eq_true b1
          have hall2 : ∀ i, i < j → vNm i ∈ f := fun i hi => by
            rcases Nat.lt_or_ge (i + 1) j with h | h
            · exact hall i h
            · have : i = j - 1 := by omega
              rw [this, ← hzj (by omega)]
              exact hin
          have j20 := v_few hall2
          refine ⟨_, rfl, LT, _, _, rfl, rfl, by decide +kernel, atC_of (j := j) rfl (LT_at (by omega)), _, _, rfl, rfl, ?_, ?_⟩
          · show ("v" : Str).length + 1 ≤ sizeLine
            rw [sizeLine_eq]
            decide +kernel
          · refine ⟨_, rfl, _, _, rfl, rfl, ⟨vNm j, j + 1, rfl, rfl, vNm_nm (by omega), fun i hi => hall2 i (by omega), fun _ => rfl⟩, ?_⟩
            show 30 - ((j : Int) + 1).toNat < 30 - ((j : Nat) : Int).toNat
            omega
        · have nin : z ∉ f := fun h => b1 (decide_eq_true h)
          refine ⟨_, rfl, .inl ⟨rfl, _, SqL.of hf2⟩, _, rfl, l, _, _, rfl, rfl, hf2, ?_, ⟨f ++ [z], _, _, rfl, ?_, ?_, ?_, ?_, ?_⟩, ?_⟩
          · rw [hfl, sizeLine_eq]
            omega
          · refine ((D1.trans D2).mono ?_).put hl nlw
            rw [List.length_append]
            show n + 20 * f.length + 20 ≤ n + 20 * (f.length + 1)
            omega
          · rw [upd_same, List.map_append]
            rfl
          · refine List.nodup_append.mpr ⟨nd, by simp, fun x hx y hy => ?_⟩
            have : y = z := by simpa using hy
            rw [this]
            exact fun e => nin (by rw [← e]; exact hx)
          · intro y hy
            rcases List.mem_append.mp hy with h | h
            · exact nm y h
            · obtain rfl : y = z := by simpa using h
              exact hz
          · rw [List.length_append]
            show f.length + 1 ≤ m
            omega
          · show (match upd _ l _ l with | some (.lst xs) => m - xs.length | _ => 0) < (match H1 l with | some (.lst xs) => m - xs.length | _ => 0)
            rw [upd_same, hf]
            show m - ((f.map V.str) ++ [V.str z]).length < m - (f.map V.str).length
            rw [List.length_append, hfl]
            show m - (f.length + 1) < m - f.length
            omega
      · intro σ H' Q1 Q2 hQ h1
        obtain ⟨v, e1, v2, e2, p, xs, e3, r1, f1, f2, c, e4, q⟩ := h1
        exact ⟨v, e1, v2, e2, p, xs, e3, r1, f1, f2, c, e4, hQ _ _ q⟩
    · have e : f.length = m := by
        have : ¬ ((f.map V.str).length : Int) < (m : Int) := fun z => b (decide_eq_true z)
        rw [hfl] at this
        omega
      exact ⟨_, rfl, k l f H1 (by rw [← e]; exact D1) hl nlw hf e nd nm⟩
  · intro σ H' Q1 Q2 hQ h1
    obtain ⟨v, e1, p, ys, e3, r, v2, e2, i, j, e4, e5, c, e6, q⟩ := h1
    exact ⟨v, e1, p, ys, e3, r, v2, e2, i, j, e4, e5, c, e6, hQ _ _ q⟩
theorem ok_mixed (T : TX w K mg) : Gt P w K mg base CX0 2 "_law_mixed" ["_law_well_here", "_law_some"] (spMixed K) := by
  refine gt_mk (D_mixed T) (g_mixed T) sc_mixed rfl (fun _ _ _ _ _ _ us hl => match us, hl with | [_, _], _ => rfl) (fun vs H Q E h => ?_) (fun f cdv A outer s H vs Q E hr h => ?_)
  · obtain ⟨w, p, n, xs, rfl, _⟩ := h
    rfl
  obtain ⟨w, p, n, xs, rfl, wl, hn, hp, npw, hx, k⟩ := h
  refine ⟨_, (pss_cons (ps_set (i := 2) sc_mixed.nd rfl (by first | exact Or.inl rfl | exact Or.inr rfl) (pe_callTy call_list_of (by rfl) (f_list T) (by decide +kernel) (pa_cons (pv 1) pa_nil)))
    (pss_one (ps_ret (pe_lc (own := [("_law_k", 3)]) (g := gName 3) (tt := tYes) rfl sc_mixed.nd (pi_range1 (by rfl) (f_range T) (pa_cons (pe_callB call_len_seq (by rfl) (f_len T) (by decide +kernel) (pa_cons (pv 1) pa_nil)) pa_nil)) (blkOk_by (N := ["_law_well_here", "_law_some", "_law_left", "_law_k"]) (sc := defScope s_mixed) (by decide +kernel)) (fun _ _ _ _ _ => (pg_name (i := 3) sc_mixed.nd rfl (by first | exact Or.inl rfl | exact Or.inr rfl))) (fun _ _ _ _ _ => pts_nil) (fun _ _ _ _ _ => (pe_bmL K PySem.F.plainAttrs_list PySem.F.slot_list_pop PySem.F.type_list_pop mt_popAt (pv 2) (pa_cons ((ok_draw T).pe (hr.mono (by decide)) (pa_cons (pv 0) (pa_cons (pe_callB (show CallR _ _ (rLenS K) from call_lenS) (by rfl) (f_len T) (by decide +kernel) (pa_cons (pv 2) pa_nil)) pa_nil))) pa_nil))))))), ?_⟩
  refine ⟨_, rfl, p, xs, rfl, hp, fun lf hlf => ?_⟩
  have nlf : lf ≠ w := wl.nep hlf
  generalize hH_ : upd H lf _ = H1
  have x1 : Evl.Ex H H1 := (by rw [← hH_]; exact Evl.Ex.new hlf)
  have g1 := (congrFun hH_ lf).symm
  rw [upd_same] at g1
  clear hH_
  have hp1 := hp.ex x1
  refine ⟨_, rfl, p, xs, rfl, hp1, _, rfl, (by show -(2 ^ 62) ≤ (xs.length : Int); omega), (by show (xs.length : Int) < 2 ^ 62; omega), fun D hD => ?_⟩
  have nDw : D ≠ w := (wl.ex x1).nep hD
  have nDl : D ≠ lf := Ne.symm (ne_of_none g1 hD)
  have HD0 : H D = none := Ex.free x1 hD
  refine lc_acc (walk_range (lo := 0) (n := ((xs.length : Int)).toNat)) (fun i acc H' => ∃ ls : List V, H' lf = some (.lst ls) ∧ (acc ++ ls).Perm xs ∧ acc.length = i ∧ Wl H' w (n + i) ∧ (∀ b o, b ≠ w → b ≠ lf → H b = some o → H' b = some o)) hD (by show xs.length < 1000000; omega)
    (fun i acc H' q => by obtain ⟨_, _, _, h, _⟩ := q; omega) ⟨xs, g1, List.Perm.refl _, rfl, wl.ex x1, fun b o _ _ z => x1 _ _ z⟩ (fun _ _ _ _ _ => trivial) (fun i x H2 H3 acc C N hi hD2 hI hy hc _ => ?_) (fun H2 acc hD2 hI => ?_)
  · obtain ⟨rfl, rfl⟩ := hy
    obtain ⟨ls, h1, pm, hal, W2, kp⟩ := hI
    have h1' := hid_ex _ _ h1
    have hlen := pm.length_eq
    rw [List.length_append, hal] at hlen
    have hi' : i < xs.length := hi
    refine ⟨rfl, yes_ok ⟨_, rfl, .inl ⟨rfl, _, SqL.of h1'⟩, _, rfl, _, rfl, lf, ls, rfl, .inl (SqL.of h1'), w, n + i, _, rfl, Ex.wl hid_ex W2, by omega, (by show (0 : Int) < (ls.length : Int); omega), log2_small_of (by omega), fun d H4 d0 d1 D4 => ?_⟩⟩
    have d1' : d < (ls.length : Int) := d1
    have h4 := D4.k _ _ nlf h1'
    have hD4 := D4.k _ _ nDw hD2
    obtain ⟨y, hy⟩ : ∃ y, ls[d.toNat]? = some y := ⟨_, List.getElem?_eq_getElem (by omega)⟩
    refine ⟨lf, ls, d, d.toNat, y, rfl, rfl, h4, by omega, by omega, ?_, hy, hc _ _ ?_ ⟨ls.eraseIdx d.toNat, ?_, ?_, ?_, ?_, ?_⟩⟩
    · unfold seqIndex?
      simp
      omega
    · rw [upd_ne nDl]
      exact hD4
    · rw [hid_ne (Ne.symm nDl), upd_same]
    · have e2 := erase_perm ls d.toNat y hy
      refine List.Perm.trans ?_ pm
      rw [List.append_assoc]
      exact List.Perm.append_left acc e2
    · rw [List.length_append, hal]
      rfl
    · have q := D4.wl
      obtain ⟨x, y', c, e, r⟩ := q
      exact ⟨x, y', c, by rw [hid_ne (Ne.symm nDw), upd_ne (Ne.symm nlf)]; exact e, r⟩
    · intro b o nb nf z
      have q := kp b o nb nf z
      have nbD : b ≠ D := ne_of_none z HD0
      rw [hid_ne nbD, upd_ne nf]
      rw [hid_ne nbD] at q
      exact D4.k _ _ nb q
  · obtain ⟨ls, h1, pm, hal, W2, kp⟩ := hI
    have hlen := pm.length_eq
    rw [List.length_append, hal] at hlen
    have e0 : ls = [] := by
      have : ((xs.length : Int)).toNat = xs.length := by omega
      rw [this] at hlen
      exact List.length_eq_zero_iff.mp (by omega)
    rw [e0, List.append_nil] at pm
    refine k D acc H2 ⟨(Ex.wl hid_ex W2).mono (by show n + xs.length ≤ _; exact Nat.le_refl _), fun b o nb z => hid_ex _ _ (kp b o nb (ne_of_none z hlf) z)⟩ HD0 nDw hD2 pm

end
end Lw

namespace Lw
open PySem PySem.Spec PyProof.Rows L2 TP
section
variable {P : Program} {w : World} {K : PySem.W.Frag} {mg : Str → Option Value} {base : Heap}

theorem ok_lstreets (T : TX w K mg) : Gt P w K mg base CX0 5 "_law_streets" ["_law_well_here", "_law_houses"] (spLStreets K) := by
  refine gt_mk (D_lstreets T) (g_lstreets T) sc_lstreets rfl (fun _ _ _ _ _ _ us hl => match us, hl with | [_, _], _ => rfl) (fun vs H Q E h => ?_) (fun f cdv A outer s H vs Q E hr h => ?_)
  · obtain ⟨w, hl, n, hs, rfl, _⟩ := h
    rfl
  obtain ⟨w, hl, n, hs, rfl, wl, hn, hh, nhw, ok, k⟩ := h
  refine ⟨_, (pss_cons (ps_set (i := 2) sc_lstreets.nd rfl (by first | exact Or.inl rfl | exact Or.inr rfl) (pe_op op_add pe_int ((ok_draw T).pe (hr.mono (by decide)) (pa_cons (pv 0) (pa_cons ((ok_one T).pe (hr.mono (by decide)) (pa_cons (pv 0) (pa_cons (pe_lst (pa_cons pe_int (pa_cons pe_int (pa_cons pe_int pa_nil)))) pa_nil))) pa_nil)))))
    (pss_one (ps_ret (pe_callTy (call_dictP rfl) (by rfl) (f_dict T) (by decide +kernel) (pa_cons (pe_lc (own := [("_law_street", 3)]) (g := gName 3) (tt := tYes) rfl sc_lstreets.nd (pi_list ((ok_names T).pe (hr.mono (by decide)) (pa_cons (pv 0) (pa_cons (pv 2) pa_nil)))) (blkOk_by (N := ["_law_well_here", "_law_houses", "_law_many", "_law_street"]) (sc := defScope s_lstreets) (by decide +kernel)) (fun _ _ _ _ _ => (pg_name (i := 3) sc_lstreets.nd rfl (by first | exact Or.inl rfl | exact Or.inr rfl))) (fun _ _ _ _ _ => pts_nil) (fun _ _ _ _ _ => (pe_tup (pa_cons (pv 3) (pa_cons ((ok_one T).pe (hr.mono (by decide)) (pa_cons (pv 0) (pa_cons (pv 1) pa_nil))) pa_nil))))) pa_nil))))), ?_⟩
  have lo := ok.lo
  have hi := ok.hi
  refine ⟨_, rfl, _, rfl, (by show 3 ≤ sizeLine; decide), fun p hp => ?_⟩
  generalize hH_ : upd H p _ = H1
  have x1 : Evl.Ex H H1 := (by rw [← hH_]; exact Evl.Ex.new hp)
  have g1 := (congrFun hH_ p).symm
  rw [upd_same] at g1
  clear hH_
  refine ⟨w, p, n, _, rfl, wl.ex x1, by omega, SqL.of g1, wl.nep hp, (by show 0 < 3; decide), (by show 3 ≤ 1000000; decide), fun v H2 hv D2 => ?_⟩
  obtain ⟨m, rfl, m0, m1⟩ : ∃ m : Int, v = .int m ∧ 0 < m ∧ m ≤ 20 := by
    simp only [List.mem_cons, List.not_mem_nil, or_false] at hv
    rcases hv with rfl | rfl | rfl
    · exact ⟨_, rfl, by decide, by decide⟩
    · exact ⟨_, rfl, by decide, by decide⟩
    · exact ⟨_, rfl, by decide, by decide⟩
  refine ⟨w, n + 1, m, rfl, D2.wl, by omega, m0, log2_small_of (by omega), fun d H3 d0 d1 D3 => ⟨_, _, rfl, rfl, ?_⟩⟩
  obtain ⟨mm, hmm⟩ : ∃ mm : Nat, (mm : Int) = 1 + d := ⟨(1 + d).toNat, by omega⟩
  refine ⟨_, rfl, _, rfl, w, n + 2, mm, by rw [hmm]; rfl, D3.wl, by omega, by omega, fun nl zs H4 D4 hnl nnw hzl zl znd znm => ?_⟩
  have k04 : Wk w H H4 := (Ex.wk w x1).trans (D2.k.trans (D3.k.trans D4.k))
  have hh4 : SqL K H4 hl (hs.map V.str) := sql_stay (fun o z => k04 _ _ nhw z) hh
  have zln : (zs.map V.str).length = zs.length := List.length_map ..
  refine ⟨nl, rfl, ⟨_, SqL.of hzl⟩, fun D hD => ?_⟩
  have nDw : D ≠ w := D4.wl.nep hD
  refine lc_acc (walk_list (K := K) (a := nl) (xs := zs.map V.str)) (fun i acc H' => Dn w (n + 2 + 20 * mm + i) H4 H' ∧ ∃ qs : List (Addr × Str × Str), acc = (qs.map fun q => V.ref q.1) ∧ qs.length = i ∧ ∀ j q z, qs[j]? = some q → zs[j]? = some z → q.2.1 = z ∧ q.1 ≠ w ∧ H' q.1 = some (.tup [.str q.2.1, .str q.2.2]) ∧ q.2.2 ∈ hs) hD (by rw [zln]; omega)
    (fun i acc H' q => by obtain ⟨_, qs, rfl, h, _⟩ := q; rw [List.length_map]; omega) ⟨⟨D4.wl, Wk.refl _ _⟩, [], rfl, rfl, fun (j : Nat) q z h _ => nil_at h⟩ (fun i acc H' h1 q => SqL.of (hid_ex _ _ (q.1.k _ _ nnw hzl))) (fun i x H5 H6 acc C N hi5 hD5 hI hy hc _ => ?_) (fun H5 acc hD5 hI => ?_)
  · obtain ⟨rfl, hv⟩ := hy
    obtain ⟨z, hz, rfl⟩ := map_at hv
    obtain ⟨D5, qs, rfl, hql, hq⟩ := hI
    have izs : i < zs.length := (List.getElem?_eq_some_iff.mp hz).1
    have hh5 : SqL K H6 hl (hs.map V.str) := sql_stay (fun o z => hid_ex _ _ (D5.k _ _ nhw z)) hh4
    refine ⟨rfl, yes_ok ⟨_, rfl, _, rfl, _, rfl, w, hl, n + 2 + 20 * mm + i, _, rfl, Ex.wl hid_ex D5.wl, by omega, hh5, nhw, by rw [List.length_map]; omega, by rw [List.length_map]; omega, fun v H7 hv7 D7 => ?_⟩⟩
    obtain ⟨h, hm, rfl⟩ := List.mem_map.mp hv7
    refine ⟨(by show 2 ≤ sizeLine; decide), fun p2 hp2 => ?_⟩
    have np2 : p2 ≠ w := D7.wl.nep hp2
    have hD7 := D7.k _ _ nDw hD5
    have npD : p2 ≠ D := fun e => by
      rw [e, hD7] at hp2
      cases hp2
    generalize hH_ : upd H7 p2 _ = H8
    have x8 : Evl.Ex H7 H8 := (by rw [← hH_]; exact Evl.Ex.new hp2)
    have g8 := (congrFun hH_ p2).symm
    rw [upd_same] at g8
    clear hH_
    have wk : Wk w (hid D H6) (hid D H8) := Wk.hid (D7.k.trans (Ex.wk w x8))
    refine hc _ _ (x8 _ _ hD7) ⟨⟨((D7.wl.ex x8).hid (Ne.symm nDw)).mono (by omega), D5.k.trans wk⟩, qs ++ [(p2, z, h)], by rw [List.map_append]; rfl, by rw [List.length_append, hql]; rfl, fun j q z' h1 h2 => ?_⟩
    rcases snoc_at h1 with e | ⟨e, rfl⟩
    · obtain ⟨q1, q2, q3, q4⟩ := hq j q z' e h2
      exact ⟨q1, q2, wk _ _ q2 q3, q4⟩
    · rw [e, hql, hz] at h2
      obtain rfl := Option.some.inj h2
      exact ⟨rfl, np2, by rw [hid_ne npD]; exact g8, hm⟩
  obtain ⟨D5, qs, rfl, hql, hq⟩ := hI
  rw [zln] at hql
  let ss : List (Str × Str) := qs.map (·.2)
  have sk : ss.map (·.1) = zs := by
    refine List.ext_getElem? fun j => ?_
    show (List.map _ (List.map _ _))[j]? = _
    rw [List.map_map, List.getElem?_map]
    cases e : qs[j]? with
    | none =>
      rw [List.getElem?_eq_none (by have := List.getElem?_eq_none_iff.mp e; omega)]
      rfl
    | some q =>
      obtain ⟨z, hz⟩ : ∃ z, zs[j]? = some z := ⟨_, List.getElem?_eq_getElem (by have := (List.getElem?_eq_some_iff.mp e).1; omega)⟩
      rw [hz]
      obtain ⟨q1, _⟩ := hq j q z e hz
      show some q.2.1 = _
      rw [q1]
  have qat : ∀ {j : Nat} {q : Addr × Str × Str}, qs[j]? = some q → ∃ z, zs[j]? = some z := fun {j q} h => ⟨_, List.getElem?_eq_getElem (by have := (List.getElem?_eq_some_iff.mp h).1; omega)⟩
  refine ⟨D, qs.map (·.1), ssK ss, rfl, SqL.of (by rw [List.map_map]; exact hD5), paired_at ?_ (fun i p kv h1 h2 => ?_), fun dd hdd => ?_⟩
  · rw [List.length_map, ssK, List.length_map, List.length_map]
  · obtain ⟨q, hq1, rfl⟩ := map_at h1
    obtain ⟨s, hs1, rfl⟩ := map_at h2
    obtain ⟨q', hq1', rfl⟩ := map_at hs1
    rw [hq1] at hq1'
    obtain rfl := Option.some.inj hq1'
    obtain ⟨z, hz⟩ := qat hq1
    exact SqT.of (hid_ex _ _ (hq i q z hq1 hz).2.2.1)
  have kn : ((ssK ss).map (·.1)).Nodup := by
    have : (ssK ss).map (·.1) = zs.map fun z => (Sum.inr z : Key) := by
      rw [← sk, List.map_map]
      show (ss.map _).map _ = _
      rw [List.map_map]
      rfl
    rw [this]
    exact List.Pairwise.map _ (fun a b e z => e (Sum.inr.inj z)) znd
  rw [mergeK_nodup (by rw [List.nil_append]; exact kn), List.nil_append]
  have W5 := Ex.wl hid_ex D5.wl
  have ndw : dd ≠ w := W5.nep hdd
  have k05 : Wk w H H5 := k04.trans fun b o nb h => hid_ex _ _ (D5.k b o nb h)
  have Hdd : H dd = none := Dn.free ⟨W5, k05⟩ hdd
  generalize hH_ : upd H5 dd _ = H9
  have x9 : Evl.Ex H5 H9 := (by rw [← hH_]; exact Evl.Ex.new hdd)
  have g9 := (congrFun hH_ dd).symm
  rw [upd_same] at g9
  clear hH_
  refine k dd ss H9 ⟨(W5.ex x9).mono (by rw [zln]; omega), k05.trans (Ex.wk w x9)⟩ Hdd ndw g9 ⟨?_, ?_, fun q hq1 => ?_, by rw [sk]; exact znd⟩
  · show 1 ≤ (List.map _ _).length
    rw [List.length_map]
    omega
  · show (List.map _ _).length ≤ 20
    rw [List.length_map]
    omega
  · obtain ⟨u, hu, rfl⟩ := List.mem_map.mp hq1
    obtain ⟨j, hj⟩ := List.mem_iff_getElem?.mp hu
    obtain ⟨z, hz⟩ := qat hj
    obtain ⟨e1, _, _, e4⟩ := hq j u z hj hz
    exact ⟨by rw [e1]; exact znm z (List.mem_of_getElem? hz), ok.nm _ e4, e4⟩

end
end Lw

namespace Lw
open PySem PySem.Spec PyProof.Rows L2 TP
section
variable {P : Program} {w : World} {K : PySem.W.Frag} {mg : Str → Option Value} {base : Heap}

theorem ok_lroads (T : TX w K mg) : Gt P w K mg base CX0 5 "_law_roads" ["_law_well_here", "_law_houses"] (spLRoads K) := by
  refine gt_mk (D_lroads T) (g_lroads T) sc_lroads rfl (fun _ _ _ _ _ _ us hl => match us, hl with | [_, _], _ => rfl) (fun vs H Q E h => ?_) (fun f cdv A outer s H vs Q E hr h => ?_)
  · obtain ⟨w, hl, n, hs, rfl, _⟩ := h
    rfl
  obtain ⟨w, hl, n, hs, rfl, wl, hn, hh, nhw, ok, k⟩ := h
  refine ⟨_, (pss_cons (ps_set (i := 2) sc_lroads.nd rfl (by first | exact Or.inl rfl | exact Or.inr rfl) ((ok_mixed T).pe (hr.mono (by decide)) (pa_cons (pv 0) (pa_cons (pv 1) pa_nil))))
    (pss_cons (ps_set (i := 3) sc_lroads.nd rfl (by first | exact Or.inl rfl | exact Or.inr rfl) (pe_lst pa_nil))
    (pss_cons (ps_for PassesOwn.never rfl (pi_range1 (by rfl) (f_range T) (pa_cons (pe_op op_mul (pe_callB call_len_seq (by rfl) (f_len T) (by decide +kernel) (pa_cons (pv 2) pa_nil)) (pe_callTy call_int1 (by rfl) (f_int T) (by decide +kernel) (pa_cons (pe_cmpR op_gt (pe_callB call_len_seq (by rfl) (f_len T) (by decide +kernel) (pa_cons (pv 2) pa_nil)) pe_int (nomark _)) pa_nil))) pa_nil)) (pg_name (i := 4) sc_lroads.nd rfl (by first | exact Or.inl rfl | exact Or.inr rfl))
      (pss_one (ps_expr (pe_bm PySem.F.plainAttrs_list PySem.F.slot_list_append PySem.F.type_list_append mt_append (pv 3) (pa_cons (pe_tup (pa_cons (pe_ix ix_list (pv 2) (pe_op op_sub (pv 4) pe_int) (fun _ _ => rfl)) (pa_cons (pe_ix ix_list (pv 2) (pv 4) (fun _ _ => rfl)) pa_nil))) pa_nil)))))
    (pss_cons (ps_for PassesOwn.never rfl (pi_range1 (by rfl) (f_range T) (pa_cons (pe_op op_mul ((ok_draw T).pe (hr.mono (by decide)) (pa_cons (pv 0) (pa_cons pe_int pa_nil))) (pe_callTy call_int1 (by rfl) (f_int T) (by decide +kernel) (pa_cons (pe_cmpR op_gt (pe_callB call_len_seq (by rfl) (f_len T) (by decide +kernel) (pa_cons (pv 2) pa_nil)) pe_int (nomark _)) pa_nil))) pa_nil)) (pg_name (i := 4) sc_lroads.nd rfl (by first | exact Or.inl rfl | exact Or.inr rfl))
      (pss_cons (ps_set (i := 5) sc_lroads.nd rfl (by first | exact Or.inl rfl | exact Or.inr rfl) ((ok_draw T).pe (hr.mono (by decide)) (pa_cons (pv 0) (pa_cons (pe_callB call_len_seq (by rfl) (f_len T) (by decide +kernel) (pa_cons (pv 2) pa_nil)) pa_nil))))
    (pss_one (ps_expr (pe_bm PySem.F.plainAttrs_list PySem.F.slot_list_append PySem.F.type_list_append mt_append (pv 3) (pa_cons (pe_tup (pa_cons (pe_ix ix_list (pv 2) (pv 5) (fun _ _ => rfl)) (pa_cons (pe_ix ix_list (pv 2) (pe_op op_sub (pe_op op_sub (pv 5) pe_int) ((ok_draw T).pe (hr.mono (by decide)) (pa_cons (pv 0) (pa_cons (pe_op op_sub (pe_callB call_len_seq (by rfl) (f_len T) (by decide +kernel) (pa_cons (pv 2) pa_nil)) pe_int) pa_nil)))) (fun _ _ => rfl)) pa_nil))) pa_nil))))))
    (pss_cons (ps_set (i := 6) sc_lroads.nd rfl (by first | exact Or.inl rfl | exact Or.inr rfl) (pe_lst pa_nil))
    (pss_cons (ps_for PassesOwn.never rfl (pi_list ((ok_mixed T).pe (hr.mono (by decide)) (pa_cons (pv 0) (pa_cons (pe_slice sl_list (pv 3) po_none (po_some pe_int)) pa_nil)))) (pg_tup (by rfl) (pgs_cons (pg_name (i := 7) sc_lroads.nd rfl (by first | exact Or.inl rfl | exact Or.inr rfl)) (pgs_cons (pg_name (i := 8) sc_lroads.nd rfl (by first | exact Or.inl rfl | exact Or.inr rfl)) pgs_nil)))
      (pss_cons (ps_set (i := 9) sc_lroads.nd rfl (by first | exact Or.inl rfl | exact Or.inr rfl) ((ok_draw T).pe (hr.mono (by decide)) (pa_cons (pv 0) (pa_cons ((ok_one T).pe (hr.mono (by decide)) (pa_cons (pv 0) (pa_cons (pe_lst (pa_cons pe_int (pa_cons pe_int (pa_cons (pe_op op_pow pe_int pe_int) pa_nil)))) pa_nil))) pa_nil))))
    (pss_cons (ps_set (i := 10) sc_lroads.nd rfl (by first | exact Or.inl rfl | exact Or.inr rfl) (pe_op op_add pe_int ((ok_draw T).pe (hr.mono (by decide)) (pa_cons (pv 0) (pa_cons pe_int pa_nil)))))
    (pss_one (ps_expr (pe_bm PySem.F.plainAttrs_list PySem.F.slot_list_append PySem.F.type_list_append mt_append (pv 6) (pa_cons (pe_tup (pa_cons (pv 7) (pa_cons (pv 8) (pa_cons (pv 9) (pa_cons (pv 10) (pa_cons (pe_op op_add pe_int ((ok_draw T).pe (hr.mono (by decide)) (pa_cons (pv 0) (pa_cons ((ok_one T).pe (hr.mono (by decide)) (pa_cons (pv 0) (pa_cons (pe_lst (pa_cons pe_int (pa_cons pe_int (pa_cons (pe_op op_pow pe_int pe_int) pa_nil)))) pa_nil))) pa_nil)))) pa_nil)))))) pa_nil)))))))
    (pss_one (ps_ret (pv 6))))))))), ?_⟩
  have lo := ok.lo
  have hi := ok.hi
  have hhl : (hs.map V.str).length = hs.length := List.length_map ..
  refine ⟨_, rfl, _, rfl, w, hl, n, _, rfl, wl, by omega, .inl hh, nhw, by rw [hhl]; omega, fun ol ys H1 D1 Hol nolw gol pm => ?_⟩
  obtain ⟨os, rfl, pm2⟩ := perm_strs pm
  have osl : os.length = hs.length := pm2.length_eq
  have ond : os.Nodup := pm2.nodup_iff.mpr ok.nd
  have oml : (os.map V.str).length = os.length := List.length_map ..
  rw [hhl] at D1
  refine ⟨(by show 0 ≤ sizeLine; decide), fun fl hfl => ?_⟩
  have nfw : fl ≠ w := D1.wl.nep hfl
  have nof : ol ≠ fl := ne_of_none gol hfl
  have F0 : FqAt w ol fl os H1 (upd H1 fl (.lst [])) [] (n + hs.length) := ⟨⟨D1.wl.new hfl, Wk.new (Wk.refl _ _) hfl⟩, by rw [upd_ne nof]; exact gol, upd_same, fun q h => (nomatch h)⟩
  refine ⟨_, rfl, ol, _, rfl, .inl (SqL.of F0.o), _, rfl, ol, _, rfl, .inl (SqL.of F0.o), _, _, rfl, rfl, .inr ⟨_, rfl, ?_⟩⟩
  rw [oml]
  have oF1 : ∀ a : Int, CMul a (if decide (1 < (os.length : Int)) = true then 1 else 0) := fun a => .inr (by split <;> decide)
  refine ⟨_, _, rfl, rfl, oF1 _, ?_⟩
  have hN : ∃ N : Nat, (os.length : Int) * (if decide (1 < (os.length : Int)) = true then 1 else 0) = (N : Int) ∧ (N = os.length ∧ 1 < os.length ∨ N = 0 ∧ os.length = 1) := by
    by_cases h : 1 < os.length
    · exact ⟨os.length, by rw [if_pos (decide_eq_true (by omega)), Int.mul_one], .inl ⟨rfl, h⟩⟩
    · exact ⟨0, by rw [if_neg (fun z => h (by have := of_decide_eq_true z; omega)), Int.mul_zero]; rfl, .inr ⟨rfl, by omega⟩⟩
  obtain ⟨N, eN, cN⟩ := hN
  have tN : ((os.length : Int) * (if decide (1 < (os.length : Int)) = true then 1 else 0)).toNat = N := by rw [eN]; rfl
  refine ⟨_, rfl, (by show -(2 ^ 62) ≤ ((os.length : Int) * (if decide (1 < (os.length : Int)) = true then 1 else 0)); rw [eN]; omega), (by show ((os.length : Int) * (if decide (1 < (os.length : Int)) = true then 1 else 0)) < 2 ^ 62; rw [eN]; omega), for_range (lo := 0) (n := ((os.length : Int) * (if decide (1 < (os.length : Int)) = true then 1 else 0)).toNat) (fun j σ H' => ∃ (fq : List (Addr × Str × Str)) (u4 u5 u6 u7 u8 u9 u10 : Option V), σ = [some (.ref w), some (.ref hl), some (.ref ol), some (.ref fl), u4, u5, u6, u7, u8, u9, u10] ∧ FqAt w ol fl os H1 H' fq (n + hs.length) ∧ fq.length = j ∧ (∀ (i : Nat) x y, i < j → os[i]? = some y → os[(i + os.length - 1) % os.length]? = some x → (x, y) ∈ pqP fq)) ⟨[], _, _, _, _, _, _, _, rfl, F0, rfl, fun i x y h => by omega⟩ ?_ ?_⟩
  · rintro j σ H2 hj ⟨fq, u4, u5, u6, u7, u8, u9, u10, rfl, F, fql, ring⟩
    rw [tN] at hj
    have oN : N = os.length ∧ 1 < os.length := by omega
    obtain ⟨j1, x1, hx1, ax1, ej1⟩ := atI_str (os := os) (i := (j : Int) - 1) (by omega) (by omega)
    obtain ⟨j2, x2, hx2, ax2, ej2⟩ := atI_str (os := os) (i := (j : Int)) (by omega) (by omega)
    have ej2' : j2 = j := by
      have := (List.getElem?_eq_some_iff.mp hx2).1
      omega
    subst ej2'
    rw [Int.zero_add]
    refine ⟨_, rfl, .inl ⟨rfl, _, SqL.of F.f⟩, _, rfl, _, rfl, _, _, rfl, rfl, ol, _, _, _, rfl, rfl, SqL.of F.o, ax1, _, rfl, _, rfl, ol, _, _, _, rfl, rfl, SqL.of F.o, ax2, (by show 2 ≤ sizeLine; decide), fun p hp => ?_⟩
    have hp2 : (upd H2 p (.tup [.str x1, .str x2])) fl = some (.lst (pqV fq)) := by rw [upd_ne (ne_of_none F.f hp)]; exact F.f
    have pl1 : (pqV fq).length = fq.length := List.length_map ..
    have lj1 := (List.getElem?_eq_some_iff.mp hx1).1
    have jm : (j2 + os.length - 1) % os.length = j1 := by
      rcases ej1 with e | e
      · rw [show j2 + os.length - 1 = j1 + os.length by omega, Nat.add_mod_right, Nat.mod_eq_of_lt lj1]
      · rw [show j2 + os.length - 1 = j1 by omega, Nat.mod_eq_of_lt lj1]
    have ne12 : x1 ≠ x2 := nodup_at ond hx1 hx2 (by omega)
    refine ⟨fl, _, _, rfl, rfl, hp2, (by rw [pl1, sizeLine_eq]; omega), fq ++ [(p, x1, x2)], _, _, _, _, _, _, _, rfl, F.step hfl nfw nolw nof ⟨F.d.wl, Wk.refl _ _⟩ hp (List.mem_of_getElem? hx1) (List.mem_of_getElem? hx2) ne12, by rw [List.length_append, fql]; rfl, fun i x y hi2 hy hx => ?_⟩
    unfold pqP
    rw [List.map_append]
    rcases Nat.lt_or_ge i j2 with h | h
    · exact List.mem_append_left _ (ring i x y h hy hx)
    · obtain rfl : i = j2 := by omega
      rw [jm, hx1] at hx
      rw [hx2] at hy
      obtain rfl := Option.some.inj hx
      obtain rfl := Option.some.inj hy
      exact List.mem_append_right _ (List.mem_cons_self ..)
  · rintro σ H2 ⟨fq, u4, u5, u6, u7, u8, u9, u10, rfl, F, fql, ring⟩
    rw [tN] at fql ring
    refine ⟨_, rfl, w, n + hs.length, 9, rfl, F.d.wl, by omega, by decide, log2_small_of (by decide), fun d H3 d0 d1 D3 => ?_⟩
    have F3 := F.dn nfw nolw D3
    refine ⟨_, rfl, ol, _, rfl, .inl (SqL.of F3.o), _, _, rfl, rfl, .inr ⟨_, rfl, ?_⟩⟩
    rw [oml]
    refine ⟨_, _, rfl, rfl, oF1 _, ?_⟩
    have hM : ∃ M : Nat, d * (if decide (1 < (os.length : Int)) = true then 1 else 0) = (M : Int) ∧ M ≤ 8 ∧ (1 < os.length ∨ M = 0 ∧ os.length = 1) := by
      by_cases h : 1 < os.length
      · exact ⟨d.toNat, by rw [if_pos (decide_eq_true (by omega)), Int.mul_one]; omega, by omega, .inl h⟩
      · exact ⟨0, by rw [if_neg (fun z => h (by have := of_decide_eq_true z; omega)), Int.mul_zero]; rfl, by omega, .inr ⟨rfl, by omega⟩⟩
    obtain ⟨M, eM, M8, cM⟩ := hM
    have tM : (d * (if decide (1 < (os.length : Int)) = true then 1 else 0)).toNat = M := by rw [eM]; rfl
    refine ⟨_, rfl, (by show -(2 ^ 62) ≤ (d * (if decide (1 < (os.length : Int)) = true then 1 else 0)); rw [eM]; omega), (by show (d * (if decide (1 < (os.length : Int)) = true then 1 else 0)) < 2 ^ 62; rw [eM]; omega), for_range (lo := 0) (n := (d * (if decide (1 < (os.length : Int)) = true then 1 else 0)).toNat) (fun j σ H' => ∃ (fq : List (Addr × Str × Str)) (u4 u5 u6 u7 u8 u9 u10 : Option V), σ = [some (.ref w), some (.ref hl), some (.ref ol), some (.ref fl), u4, u5, u6, u7, u8, u9, u10] ∧ FqAt w ol fl os H1 H' fq (n + hs.length + 1 + 2 * j) ∧ fq.length = N + j ∧ (∀ (i : Nat) x y, i < N → os[i]? = some y → os[(i + os.length - 1) % os.length]? = some x → (x, y) ∈ pqP fq)) ⟨fq, _, _, _, _, _, _, _, rfl, F3, fql, ring⟩ ?_ ?_⟩
    · clear F F3 ring fql fq u4 u5 u6 u7 u8 u9 u10
      rintro j σ H2 hj ⟨fq, u4, u5, u6, u7, u8, u9, u10, rfl, F, fql, ring⟩
      rw [tM] at hj
      refine ⟨_, rfl, _, rfl, ol, _, rfl, .inl (SqL.of F.o), ?_⟩
      rw [oml]
      refine ⟨w, n + hs.length + 1 + 2 * j, _, rfl, F.d.wl, by omega, by omega, log2_small_of (by omega), fun d2 H4 d20 d21 D4 => ?_⟩
      have F4 := F.dn nfw nolw D4
      have l1 : 1 < os.length := by omega
      obtain ⟨j1, x1, hx1, ax1, ej1⟩ := atI_str (os := os) (i := d2) (by omega) (by omega)
      have lj1 := (List.getElem?_eq_some_iff.mp hx1).1
      refine ⟨_, rfl, .inl ⟨rfl, _, SqL.of F4.f⟩, _, rfl, _, rfl, ol, _, _, _, rfl, rfl, SqL.of F4.o, ax1, _, rfl, _, rfl, _, _, rfl, rfl, _, rfl, _, rfl, ol, _, rfl, .inl (SqL.of F4.o), _, _, rfl, rfl, ?_⟩
      rw [oml]
      refine ⟨w, n + hs.length + 1 + 2 * j + 1, _, rfl, F4.d.wl, by omega, by omega, log2_small_of (by omega), fun d3 H5 d30 d31 D5 => ?_⟩
      have F5 := F4.dn nfw nolw D5
      obtain ⟨j2, x2, hx2, ax2, ej2⟩ := atI_str (os := os) (i := d2 - 1 - d3) (by omega) (by omega)
      refine ⟨_, _, rfl, rfl, ol, _, _, _, rfl, rfl, SqL.of F5.o, ax2, (by show 2 ≤ sizeLine; decide), fun p hp => ?_⟩
      have hp2 : (upd H5 p (.tup [.str x1, .str x2])) fl = some (.lst (pqV fq)) := by rw [upd_ne (ne_of_none F5.f hp)]; exact F5.f
      have pl1 : (pqV fq).length = fq.length := List.length_map ..
      have ne12 : x1 ≠ x2 := nodup_at ond hx1 hx2 (by omega)
      refine ⟨fl, _, _, rfl, rfl, hp2, (by rw [pl1, sizeLine_eq]; omega), fq ++ [(p, x1, x2)], _, _, _, _, _, _, _, rfl, F5.step hfl nfw nolw nof ⟨F5.d.wl.mono (by omega), Wk.refl _ _⟩ hp (List.mem_of_getElem? hx1) (List.mem_of_getElem? hx2) ne12, by rw [List.length_append, fql]; rfl, fun i x y hi2 hy hx => ?_⟩
      unfold pqP
      rw [List.map_append]
      exact List.mem_append_left _ (ring i x y hi2 hy hx)
    · rintro σ H4 ⟨fq, u4, u5, u6, u7, u8, u9, u10, rfl, F, fql, ring⟩
      rw [tM] at fql F
      have fq16 : fq.length ≤ 16 := by omega
      have pl0 : (pqV fq).length = fq.length := List.length_map ..
      refine ⟨(by show 0 ≤ sizeLine; decide), fun pl hpl => ?_⟩
      have npw : pl ≠ w := F.d.wl.nep hpl
      generalize hH_ : upd H4 pl _ = H5
      have x5 : Evl.Ex H4 H5 := (by rw [← hH_]; exact Evl.Ex.new hpl)
      have g5 := (congrFun hH_ pl).symm
      rw [upd_same] at g5
      clear hH_
      refine ⟨_, rfl, _, rfl, _, rfl, fl, _, rfl, SqL.of (x5 _ _ F.f), fun sl hsl => ?_⟩
      have hsz : pl ≠ sl := ne_of_none g5 hsl
      rw [show cutV (pqV fq) none (some 16) = pqV fq from cutV_all (k := 16) (by omega)]
      have W5 := F.d.wl.ex x5
      have nsw : sl ≠ w := W5.nep hsl
      generalize hH_ : upd H5 sl _ = H6
      have x6 : Evl.Ex H5 H6 := (by rw [← hH_]; exact Evl.Ex.new hsl)
      have g6 := (congrFun hH_ sl).symm
      rw [upd_same] at g6
      clear hH_
      refine ⟨w, sl, n + hs.length + 1 + 2 * M, _, rfl, W5.ex x6, by omega, .inl (SqL.of g6), nsw, by omega, fun ml ys H7 D7 Hml nmw gml pm7 => ?_⟩
      obtain ⟨gq, rfl, pmq⟩ := perm_refs (fq := fq) pm7
      have gql : gq.length = fq.length := pmq.length_eq
      have gml' : (gq.map fun q => V.ref q.1).length = gq.length := List.length_map ..
      rw [pl0] at D7
      have D47 : Dn w (n + hs.length + 1 + 2 * M + fq.length) H4 H7 := ⟨D7.wl, (Ex.wk w x5).trans ((Ex.wk w x6).trans D7.k)⟩
      have gpl7 : H7 pl = some (.lst []) := D7.k _ _ npw (x6 _ _ g5)
      have npm : pl ≠ ml := ne_of_none (x6 _ _ g5) Hml
      have gat : ∀ g ∈ gq, H4 g.1 = some (.tup [.str g.2.1, .str g.2.2]) ∧ g.1 ≠ w ∧ g.2.1 ∈ os ∧ g.2.2 ∈ os ∧ g.2.1 ≠ g.2.2 := fun g hg => by
        obtain ⟨h1, h2, h3, h4, h5, h6⟩ := F.q g (pmq.mem_iff.mp hg)
        exact ⟨h3, h1, h4, h5, h6⟩
      refine ⟨_, rfl, ⟨_, SqL.of gml⟩, for_list (K := K) (a := ml) (xs := gq.map fun q => V.ref q.1) (fun i σ H' => ∃ (rq : List (Addr × RD)) (u7 u8 u9 u10 : Option V), σ = [some (.ref w), some (.ref hl), some (.ref ol), some (.ref fl), u4, u5, some (.ref pl), u7, u8, u9, u10] ∧ Dn w (n + hs.length + 1 + 2 * M + fq.length + 5 * i) H4 H' ∧ H' ml = some (.lst (gq.map fun q => V.ref q.1)) ∧ H' pl = some (.lst (rqV rq)) ∧ rq.length = i ∧ (∀ (j : Nat) (q : Addr × RD) (g : Addr × Str × Str), rq[j]? = some q → gq[j]? = some g → (q.2.b, q.2.g) = g.2) ∧ (∀ q ∈ rq, H4 q.1 = none ∧ q.1 ≠ w ∧ q.1 ≠ pl ∧ H' q.1 = some (.tup q.2.vs) ∧ q.2.ok hs ∧ RB q.2)) ⟨[], _, _, _, _, rfl, D47, gml, gpl7, rfl, fun j q g h => nil_at h, fun q h => (nomatch h)⟩ (fun i σ H' _ ⟨_, _, _, _, _, _, _, h, _⟩ => SqL.of h) ?_ ?_⟩
      · rintro i x σ H8 hx ⟨rq, u7, u8, u9, u10, rfl, D8, hml8, hpl8, rql, hpair, hall⟩
        obtain ⟨g, hg, rfl⟩ := map_at hx
        have ig : i < gq.length := (List.getElem?_eq_some_iff.mp hg).1
        obtain ⟨tg, ngw, o1, o2, o12⟩ := gat g (List.mem_of_getElem? hg)
        have tg8 := D8.k _ _ ngw tg
        refine ⟨g.1, _, rfl, SqT.of tg8, rfl, ?_⟩
        refine ⟨_, _, rfl, _, _, rfl, rfl, ?_⟩
        refine ⟨_, rfl, _, rfl, _, _, rfl, rfl, ⟨by decide, by decide, by decide⟩, (by show 3 ≤ sizeLine; decide), fun a ha => ?_⟩
        generalize hH_ : upd H8 a _ = H9
        have xa : Evl.Ex H8 H9 := (by rw [← hH_]; exact Evl.Ex.new ha)
        have ga := (congrFun hH_ a).symm
        rw [upd_same] at ga
        clear hH_
        refine ⟨w, a, n + hs.length + 1 + 2 * M + fq.length + 5 * i, _, rfl, D8.wl.ex xa, by omega, SqL.of ga, D8.wl.nep ha, (by show 0 < 3; decide), (by show 3 ≤ 1000000; decide), fun va Hao hva Da => ?_⟩
        obtain ⟨ma, rfl, ma0, ma1⟩ : ∃ m : Int, va = .int m ∧ 0 < m ∧ m ≤ 10 ^ 6 := by
          simp only [List.mem_cons, List.not_mem_nil, or_false] at hva
          rcases hva with rfl | rfl | rfl
          · exact ⟨_, rfl, by decide, by decide⟩
          · exact ⟨_, rfl, by decide, by decide⟩
          · exact ⟨_, rfl, by decide, by decide⟩
        refine ⟨w, n + hs.length + 1 + 2 * M + fq.length + 5 * i + 1, ma, rfl, Da.wl, by omega, ma0, log2_small_of (by omega), fun da Had da0 da1 Ea => ?_⟩
        have ka : Dn w (n + hs.length + 1 + 2 * M + fq.length + 5 * i + 2) H8 Had := ⟨Ea.wl, (Ex.wk w xa).trans (Da.k.trans Ea.k)⟩
        refine ⟨_, rfl, w, n + hs.length + 1 + 2 * M + fq.length + 5 * i + 2, 12, rfl, ka.wl, by omega, by decide, log2_small_of (by decide), fun db Hb db0 db1 Db => ⟨_, _, rfl, rfl, ?_⟩⟩
        have kb := ka.trans Db
        have hpb := kb.k _ _ npw hpl8
        refine ⟨_, rfl, .inl ⟨rfl, _, SqL.of hpb⟩, _, rfl, _, rfl, _, rfl, _, rfl, ?_⟩
        refine ⟨_, rfl, _, rfl, _, _, rfl, rfl, ⟨by decide, by decide, by decide⟩, (by show 3 ≤ sizeLine; decide), fun c hc => ?_⟩
        generalize hH_ : upd Hb c _ = Hc
        have xc : Evl.Ex Hb Hc := (by rw [← hH_]; exact Evl.Ex.new hc)
        have gc := (congrFun hH_ c).symm
        rw [upd_same] at gc
        clear hH_
        refine ⟨w, c, n + hs.length + 1 + 2 * M + fq.length + 5 * i + 3, _, rfl, kb.wl.ex xc, by omega, SqL.of gc, kb.wl.nep hc, (by show 0 < 3; decide), (by show 3 ≤ 1000000; decide), fun vc Hco hvc Dc => ?_⟩
        obtain ⟨mc, rfl, mc0, mc1⟩ : ∃ m : Int, vc = .int m ∧ 0 < m ∧ m ≤ 10 ^ 6 := by
          simp only [List.mem_cons, List.not_mem_nil, or_false] at hvc
          rcases hvc with rfl | rfl | rfl
          · exact ⟨_, rfl, by decide, by decide⟩
          · exact ⟨_, rfl, by decide, by decide⟩
          · exact ⟨_, rfl, by decide, by decide⟩
        refine ⟨w, n + hs.length + 1 + 2 * M + fq.length + 5 * i + 3 + 1, mc, rfl, Dc.wl, by omega, mc0, log2_small_of (by omega), fun dc Hcd dc0 dc1 Ec => ?_⟩
        have kc : Dn w (n + hs.length + 1 + 2 * M + fq.length + 5 * i + 3 + 2) Hb Hcd := ⟨Ec.wl, (Ex.wk w xc).trans (Dc.k.trans Ec.k)⟩
        have kc' := kb.trans kc
        have hpc := kc'.k _ _ npw hpl8
        refine ⟨_, _, rfl, rfl, (by show 5 ≤ sizeLine; decide), fun p hp => ?_⟩
        have npw2 : p ≠ w := kc'.wl.nep hp
        have npp : p ≠ pl := Ne.symm (ne_of_none hpc hp)
        have hmc := kc'.k _ _ nmw hml8
        have npml : p ≠ ml := Ne.symm (ne_of_none hmc hp)
        have rl : (rqV rq).length = rq.length := List.length_map ..
        let r : RD := ⟨g.2.1, g.2.2, da, 1 + db, 1 + dc⟩
        have rok : r.ok hs := ⟨ok.nm _ (pm2.mem_iff.mp o1), ok.nm _ (pm2.mem_iff.mp o2), o12, pm2.mem_iff.mp o1, pm2.mem_iff.mp o2, da0, (by show 1 ≤ 1 + db; omega), (by show 1 ≤ 1 + dc; omega)⟩
        have rb : RB r := ⟨(by show da < 10 ^ 7; omega), (by show 1 + db < 100; omega), (by show 1 + dc < 10 ^ 7; omega)⟩
        refine ⟨pl, _, _, rfl, rfl, Eq.trans (upd_ne (Ne.symm npp)) hpc, (by rw [rl, sizeLine_eq]; omega), rq ++ [(p, r)], _, _, _, _, rfl, (((D8.trans kc').new hp).put hpl npw).mono (by omega), ?_, ?_, ?_, ?_, ?_⟩
        · rw [upd_ne (Ne.symm npm), upd_ne (Ne.symm npml)]
          exact hmc
        · rw [upd_same]
          unfold rqV
          rw [List.map_append]
          rfl
        · rw [List.length_append, rql]
          rfl
        · intro j q g' h1 h2
          rcases snoc_at h1 with e | ⟨e, rfl⟩
          · exact hpair j q g' e h2
          · rw [e, rql, hg] at h2
            obtain rfl := Option.some.inj h2
            rfl
        · intro q hq
          rcases List.mem_append.mp hq with h | h
          · obtain ⟨h1, h2, h3, h4, h5, h6⟩ := hall q h
            have h4' := kc'.k _ _ h2 h4
            refine ⟨h1, h2, h3, ?_, h5, h6⟩
            rw [upd_ne h3, upd_ne (ne_of_none h4' hp)]
            exact h4'
          · obtain rfl : q = (p, r) := by simpa using h
            refine ⟨(D8.trans kc').free hp, npw2, npp, ?_, rok, rb⟩
            show upd _ pl _ p = _
            rw [upd_ne npp, upd_same]
            rfl
      · rintro σ H8 ⟨rq, u7, u8, u9, u10, rfl, D8, hml8, hpl8, rql, hpair, hall⟩
        rw [gml', gql] at rql D8
        refine ⟨_, rfl, k pl rq H8 ((D1.trans (F.d.trans D8)).mono (by omega)) (D1.free (F.d.free hpl)) npw hpl8 (fun q hq => ?_) (by omega) ?_⟩
        · obtain ⟨h1, h2, h3, h4, h5, h6⟩ := hall q hq
          exact ⟨D1.free (F.d.free h1), h2, h3, h4, h5, h6⟩
        · have eP : rdP rq = pqP gq := by
            unfold rdP pqP
            refine List.ext_getElem? fun j => ?_
            rw [List.getElem?_map, List.getElem?_map]
            cases e : rq[j]? with
            | none =>
              rw [List.getElem?_eq_none (by have := List.getElem?_eq_none_iff.mp e; omega)]
              rfl
            | some q =>
              obtain ⟨g, hg⟩ : ∃ g, gq[j]? = some g := ⟨_, List.getElem?_eq_getElem (by have := (List.getElem?_eq_some_iff.mp e).1; omega)⟩
              rw [hg]
              show some (q.2.b, q.2.g) = some g.2
              rw [hpair j q g e hg]
          rcases cN with ⟨cN, cN2⟩ | ⟨cN, cN2⟩
          · refine ring_tied pm2 fun i x y hx hy => ?_
            rw [eP]
            have hi3 := (List.getElem?_eq_some_iff.mp hx).1
            have hlt : (i + 1) % os.length < os.length := Nat.mod_lt _ (by omega)
            have mem := ring ((i + 1) % os.length) x y (by omega) hy (by
              rw [← hx]
              congr 1
              rcases Nat.lt_or_ge (i + 1) os.length with h | h
              · rw [Nat.mod_eq_of_lt h, show i + 1 + os.length - 1 = i + os.length by omega, Nat.add_mod_right, Nat.mod_eq_of_lt hi3]
              · rw [show i + 1 = os.length by omega, Nat.mod_self, Nat.zero_add, Nat.mod_eq_of_lt (by omega)]
                omega)
            exact (pmq.map (fun q => q.2)).mem_iff.mpr mem
          · exact tied_one (by omega)

end
end Lw

namespace Lw
open PySem PySem.Spec PyProof.Rows L2 TP
section
variable {P : Program} {w : World} {K : PySem.W.Frag} {mg : Str → Option Value} {base : Heap}

theorem ok_NoRule_init (T : TX w K mg) : GtF P w K mg base CX0 1 d_NoRule_init ["self", "at"] (spErr1 K "NoRule" "at") := by
  refine gtF_mk (D_NoRule_init T) sc_NoRule_init (fun vs H Q E h => ?_) (fun f cdv A outer s H vs Q E hr h => ?_)
  · obtain ⟨a, v, rfl, _⟩ := h
    rfl
  obtain ⟨a, v, rfl, ha, k⟩ := h
  refine ⟨_, (pss_cons (ps_expr (pe_poinit (bc_PostError T) (g_PostError T) (pa_cons (pv 0) (pa_cons pe_str pa_nil))))
    (pss_one (ps_ost (pv 0) (pv 1)))), ?_⟩
  refine ⟨_, rfl, a, _, _, rfl, (by show 1 ≤ 1000; decide), ox_NoRule T, ha, _, rfl, _, rfl, a, _, rfl, ox_NoRule T, nf_NoRule_at T, .inl ⟨ha, fun dx n ne => k dx n ne⟩⟩

theorem ok_NoLand_init (T : TX w K mg) : GtF P w K mg base CX0 1 d_NoLand_init ["self", "why"] (spErr1 K "NoLand" "why") := by
  refine gtF_mk (D_NoLand_init T) sc_NoLand_init (fun vs H Q E h => ?_) (fun f cdv A outer s H vs Q E hr h => ?_)
  · obtain ⟨a, v, rfl, _⟩ := h
    rfl
  obtain ⟨a, v, rfl, ha, k⟩ := h
  refine ⟨_, (pss_cons (ps_expr (pe_poinit (bc_PostError T) (g_PostError T) (pa_cons (pv 0) (pa_cons pe_str pa_nil))))
    (pss_one (ps_ost (pv 0) (pv 1)))), ?_⟩
  refine ⟨_, rfl, a, _, _, rfl, (by show 1 ≤ 1000; decide), ox_NoLand T, ha, _, rfl, _, rfl, a, _, rfl, ox_NoLand T, nf_NoLand_why T, .inl ⟨ha, fun dx n ne => k dx n ne⟩⟩

theorem ok_NoHouse_init (T : TX w K mg) : GtF P w K mg base CX0 1 d_NoHouse_init ["self", "house"] (spErr1 K "NoHouse" "house") := by
  refine gtF_mk (D_NoHouse_init T) sc_NoHouse_init (fun vs H Q E h => ?_) (fun f cdv A outer s H vs Q E hr h => ?_)
  · obtain ⟨a, v, rfl, _⟩ := h
    rfl
  obtain ⟨a, v, rfl, ha, k⟩ := h
  refine ⟨_, (pss_cons (ps_expr (pe_poinit (bc_PostError T) (g_PostError T) (pa_cons (pv 0) (pa_cons pe_str pa_nil))))
    (pss_one (ps_ost (pv 0) (pv 1)))), ?_⟩
  refine ⟨_, rfl, a, _, _, rfl, (by show 1 ≤ 1000; decide), ox_NoHouse T, ha, _, rfl, _, rfl, a, _, rfl, ox_NoHouse T, nf_NoHouse_house T, .inl ⟨ha, fun dx n ne => k dx n ne⟩⟩

theorem ok_NoStreet_init (T : TX w K mg) : GtF P w K mg base CX0 1 d_NoStreet_init ["self", "street"] (spErr1 K "NoStreet" "street") := by
  refine gtF_mk (D_NoStreet_init T) sc_NoStreet_init (fun vs H Q E h => ?_) (fun f cdv A outer s H vs Q E hr h => ?_)
  · obtain ⟨a, v, rfl, _⟩ := h
    rfl
  obtain ⟨a, v, rfl, ha, k⟩ := h
  refine ⟨_, (pss_cons (ps_expr (pe_poinit (bc_PostError T) (g_PostError T) (pa_cons (pv 0) (pa_cons pe_str pa_nil))))
    (pss_one (ps_ost (pv 0) (pv 1)))), ?_⟩
  refine ⟨_, rfl, a, _, _, rfl, (by show 1 ≤ 1000; decide), ox_NoStreet T, ha, _, rfl, _, rfl, a, _, rfl, ox_NoStreet T, nf_NoStreet_street T, .inl ⟨ha, fun dx n ne => k dx n ne⟩⟩

theorem ok_is_whole (T : TX w K mg) : Gt P w K mg base CX0 1 "is_whole" ["thing"] (spWhole K) := by
  refine gt_mk (D_is_whole T) (g_is_whole T) sc_is_whole rfl (fun _ _ _ _ _ _ us hl => match us, hl with | [_], _ => rfl) (fun vs H Q E h => ?_) (fun f cdv A outer s H vs Q E hr h => ?_)
  · obtain ⟨x, d, rfl, _⟩ := h
    rfl
  obtain ⟨x, d, rfl, hd, k⟩ := h
  refine ⟨_, (pss_one (ps_ret (pe_and (pe_callB call_isi (by rfl) (f_isinstance T) (by decide +kernel) (pa_cons (pv 0) (pa_cons (pe_gty (n := "int") (f_int T) (by decide +kernel)) pa_nil))) (pe_one (pe_not (pe_callB call_isi (by rfl) (f_isinstance T) (by decide +kernel) (pa_cons (pv 0) (pa_cons (pe_gty (n := "bool") (f_bool T) (by decide +kernel)) pa_nil)))))))), ?_⟩
  refine ⟨_, rfl, x, _, _, _, _, rfl, .ty "int", hd.ty, kit_int d, _, rfl, ite2 (fun e => ?_) (fun e => ?_)⟩
  · refine ⟨_, rfl, x, _, _, _, _, rfl, .ty "bool", hd.ty, kit_thing d, _, rfl, ?_⟩
    cases d <;> first | exact k | exact absurd (of_decide_eq_true e) (by simp [tyN])
  · have : isIntD d = false := by
      cases d <;> first | rfl | exact absurd (decide_eq_true (Or.inl rfl)) e
    rw [this] at k
    exact k
theorem ok_is_from (T : TX w K mg) : Gt P w K mg base CX0 2 "is_from" ["thing", "least"] (spFrom K) := by
  refine gt_mk (D_is_from T) (g_is_from T) sc_is_from rfl (fun _ _ _ _ _ _ us hl => match us, hl with | [_, _], _ => rfl) (fun vs H Q E h => ?_) (fun f cdv A outer s H vs Q E hr h => ?_)
  · obtain ⟨x, d, l, rfl, _⟩ := h
    rfl
  obtain ⟨x, d, l, rfl, hd, k⟩ := h
  refine ⟨_, (pss_one (ps_ret (pe_and ((ok_is_whole T).pe (hr.mono (by decide)) (pa_cons (pv 0) pa_nil)) (pe_one (pe_cmpR op_le (pv 1) (pv 0) (nomark _)))))), ?_⟩
  refine ⟨_, rfl, x, d, rfl, hd, _, rfl, ite2 (fun e => ?_) (fun e => ?_)⟩
  · cases d with
    | int i =>
      cases hd
      exact ⟨_, rfl, _, rfl, _, _, rfl, rfl, k⟩
    | _ => cases e
  · have : isFromD d l = false := by
      cases d <;> first | rfl | exact absurd rfl e
    rw [this] at k
    exact k

theorem ok_Rule_init (T : TX w K mg) : GtF P w K mg base (L2.CX P w) 3 d_Rule_init ["self", "since", "base", "step", "more", "leg", "kept", "back"] (spRuleX K) := by
  refine gtFX_mk (D_Rule_init T) sc_Rule_init (fun vs H Q E h => ?_) (fun f cdv A outer s H vs Q E hr h => ?_)
  · obtain ⟨x, dx, u0, u1, u2, u3, u4, u5, u6, ds, rfl, _⟩ := h
    rfl
  obtain ⟨x, dx, u0, u1, u2, u3, u4, u5, u6, ds, rfl, hd, hx, k, kx⟩ := h
  obtain ⟨es, ep, DL, hks⟩ := t_LEASTS T
  have KK := kkeys_of DL hks
  refine ⟨_, (pss_cons (ps_set (i := 8) sc_Rule_init.nd rfl (by first | exact Or.inl rfl | exact Or.inr rfl) (pe_lst (pa_cons (pv 1) (pa_cons (pv 2) (pa_cons (pv 3) (pa_cons (pv 4) (pa_cons (pv 5) (pa_cons (pv 6) (pa_cons (pv 7) pa_nil)))))))))
    (pss_cons (ps_for (passes_of rfl) rfl (pi_kz KK (by rfl) (f_zip T) (pa_cons (pe_gref (g_LEASTS T)) (pa_cons (pv 8) pa_nil))) (pg_tup (by rfl) (pgs_cons (pg_name (i := 9) sc_Rule_init.nd rfl (by first | exact Or.inl rfl | exact Or.inr rfl)) (pgs_cons (pg_name (i := 10) sc_Rule_init.nd rfl (by first | exact Or.inl rfl | exact Or.inr rfl)) pgs_nil)))
      (pss_one (ps_if (pt_not (pt_val ((ok_is_from T).pe (hr.mono (by decide)) (pa_cons (pv 10) (pa_cons (pe_ix ix_kdict (pe_gref (g_LEASTS T)) (pv 9) (fun _ _ => rfl)) pa_nil)))))
      (pss_one (ps_raise rfl (takes_of rfl rfl rfl rfl) (GtF.pmk (d := d_NoRule_init) (ox_NoRule T) (ei_NoRule T) (ok_NoRule_init T) rfl (fun _ _ _ _ _ _ us hl => match us, hl with | [_, _], _ => rfl) (g_NoRule T) (hr.mono (by decide)) pass0 (pa_cons (pv 9) pa_nil))))
      pss_nil)))
    (pss_one (ps_asg (pv 8) (pg_unl (by rfl) (pgs_cons (pg_attr (pv 0)) (pgs_cons (pg_attr (pv 0)) (pgs_cons (pg_attr (pv 0)) (pgs_cons (pg_attr (pv 0)) (pgs_cons (pg_attr (pv 0)) (pgs_cons (pg_attr (pv 0)) (pgs_cons (pg_attr (pv 0)) pgs_nil)))))))))))), ?_⟩
  refine ⟨_, rfl, _, rfl, _, rfl, _, rfl, _, rfl, _, rfl, _, rfl, (by show 7 ≤ sizeLine; decide), fun n hn => ?_⟩
  generalize hH_ : upd H n _ = H0
  have x0 : Evl.Ex H H0 := (by rw [← hH_]; exact Evl.Ex.new hn)
  have g0 := (congrFun hH_ n).symm
  rw [upd_same] at g0
  clear hH_
  have hx0 := x0 _ _ hx
  have hd0 := DrAll.ex x0 _ _ hd
  refine ⟨_, rfl, n, [u0, u1, u2, u3, u4, u5, u6], rfl, SqL.of g0, for_it (walk_kz (ks := LKs) (ys := [u0, u1, u2, u3, u4, u5, u6]) rfl) (fun i σ H' => (∃ u9 u10 : Option V, σ = [some (.ref x), some u0, some u1, some u2, some u3, some u4, some u5, some u6, some (.ref n), u9, u10]) ∧ Evl.Ex H0 H' ∧ badOf LSl ds = badOf (LSl.drop i) (ds.drop i))
    ⟨⟨_, _, rfl⟩, Evl.Ex.refl _, rfl⟩ (fun i σ H' _ q => SqL.of (q.2.1 _ _ g0)) ?_ ?_⟩
  · rintro i v σ H1 H2 hi ⟨⟨u9, u10, rfl⟩, e1, hb⟩ ⟨T', y1, y2, rfl, hT, rfl, hy1, hy2⟩
    obtain ⟨z, l, rfl, hz, hm⟩ := rule_key hi hy1
    obtain ⟨d, hd1, hd2⟩ := DrAll.at (DrAll.ex e1 _ _ hd0) hy2
    have x2 : Evl.Ex H1 _ := Evl.Ex.new (o := .tup [V.str z, y2]) hT
    have hst := bad_step (ks := LSl) (ds := ds) hz hd1
    refine ⟨T', _, rfl, SqT.of upd_same, rfl, _, _, rfl, _, _, rfl, rfl, ?_⟩
    refine ⟨_, rfl, _, rfl, _, _, _, rfl, rfl, kdct_of DL (v_LEASTS T) hm, _, _, _, rfl, Dr.ex x2 _ _ hd2, _, rfl, ?_⟩
    cases hf : isFromD d l with
    | true =>
      refine iteF ⟨⟨_, _, rfl⟩, e1.trans x2, ?_⟩
      rw [hb, hst, hf]
      rfl
    | false =>
      refine iteT ?_
      refine ⟨_, rfl, (by show 1 ≤ 1000; decide), fun a ha => ⟨a, .str z, rfl, upd_same, fun d2 hn2 ne => ⟨rfl, d2, _, upd_same, Eq.trans (upd_ne ne) upd_same, ?_, ?_⟩⟩⟩
      · exact (raised (fs := [("at", .str z)]) ha hn2 ne).2
      · obtain ⟨r1, r2⟩ := raised (fs := [("at", .str z)]) ha hn2 ne
        have e12 := (x0.trans e1).trans x2
        refine kx z ?_ d2 _ (e12.trans r1) (Ex.free e12 r2) upd_same
        rw [hb, hst, hf]
        rfl
  · rintro σ H1 ⟨⟨u9, u10, rfl⟩, e1, hb⟩
    have hx1 := e1 _ _ hx0
    have hn1 := e1 _ _ g0
    have wk : Wk x H H1 := fun b o nb hb => e1 b o (x0 b o hb)
    refine ⟨_, rfl, n, [u0, u1, u2, u3, u4, u5, u6], rfl, SqL.of hn1, rfl, _, _, rfl, _, rfl, x, _, dx, _, rfl, hx1, cl_Rule T, na_Rule_since T, (by show 0 < 1000; decide), _, _, rfl, _, rfl, x, _, dx, _, rfl, upd_same, cl_Rule T, na_Rule_base T, (by show 1 < 1000; decide), _, _, rfl, _, rfl, x, _, dx, _, rfl, upd_same, cl_Rule T, na_Rule_step T, (by show 2 < 1000; decide), _, _, rfl, _, rfl, x, _, dx, _, rfl, upd_same, cl_Rule T, na_Rule_more T, (by show 3 < 1000; decide), _, _, rfl, _, rfl, x, _, dx, _, rfl, upd_same, cl_Rule T, na_Rule_leg T, (by show 4 < 1000; decide), _, _, rfl, _, rfl, x, _, dx, _, rfl, upd_same, cl_Rule T, na_Rule_kept T, (by show 5 < 1000; decide), _, _, rfl, _, rfl, x, _, dx, _, rfl, upd_same, cl_Rule T, na_Rule_back T, (by show 6 < 1000; decide), rfl, k ?_ _ ?_ ?_⟩
    · rw [hb]
      rfl
    · exact Wk.set (Wk.set (Wk.set (Wk.set (Wk.set (Wk.set (Wk.set wk))))))
    · exact upd_same

theorem ok_is_name (T : TX w K mg) : Gt P w K mg base CX0 1 "is_name" ["thing"] (spIsName K) := by
  refine gt_mk (D_is_name T) (g_is_name T) sc_is_name rfl (fun _ _ _ _ _ _ us hl => match us, hl with | [_], _ => rfl) (fun vs H Q E h => ?_) (fun f cdv A outer s H vs Q E hr h => ?_)
  · obtain ⟨x, d, rfl, _⟩ := h
    rfl
  obtain ⟨x, d, rfl, hd, hz, k⟩ := h
  refine ⟨_, (pss_one (ps_ret (pe_and (pe_callB call_isi (by rfl) (f_isinstance T) (by decide +kernel) (pa_cons (pv 0) (pa_cons (pe_gty (n := "str") (f_str T) (by decide +kernel)) pa_nil))) (pe_and (pe_chain op_le op_le pe_int (pe_callB call_len_str (by rfl) (f_len T) (by decide +kernel) (pa_cons (pv 0) pa_nil)) (pe_gint (c_MOST_LETTERS T))) (pe_one (pe_callB (cr_all rfl) (by rfl) (f_all T) (by decide +kernel) (pa_cons (pe_lc (own := [("sign", 1)]) (g := gName 1) (tt := tYes) rfl sc_is_name.nd (pi_str (pv 0)) (blkOk_by (N := ["thing", "sign"]) (sc := defScope s_is_name) (by decide +kernel)) (fun _ _ _ _ _ => (pg_name (i := 1) sc_is_name.nd rfl (by first | exact Or.inl rfl | exact Or.inr rfl))) (fun _ _ _ _ _ => pts_nil) (fun _ _ _ _ _ => (pe_cmpR op_in_sign (pv 1) (pe_gstr (c_LETTERS T)) (by rfl)))) pa_nil))))))), ?_⟩
  refine ⟨_, rfl, x, _, _, _, _, rfl, .ty "str", hd.ty, kit_thing d, _, rfl, ite2 (fun e => ?_) (fun e => ?_)⟩
  · obtain ⟨z, rfl, rfl⟩ := hd.str_of (of_decide_eq_true e)
    have hl := hz z rfl
    have hl2 : z.length ≤ sizeLine := Nat.le_trans hl (by decide)
    have fin : ∀ (b : Bool) H', b = isNm z → Evl.Ex H H' → Q (.bl b) H' := fun b H' hb he => by rw [hb]; exact k H' he
    refine ⟨_, rfl, z, rfl, hl2, _, _, rfl, rfl, _, rfl, ite2 (fun h1 => ?_) (fun h1 => ?_)⟩
    · refine ⟨_, _, rfl, rfl, _, rfl, ite2 (fun h8 => ?_) (fun h8 => ?_)⟩
      · refine ⟨_, rfl, _, rfl, fun D hD => lc_fm walk_str (fun _ => true) (fun i => .bl (decide (z.cps.toList.getD i 0 ∈ LT.cps.toList))) hD (by show z.length < 1000000; have := of_decide_eq_true h8; omega) (fun _ _ => trivial) (fun i v H1 H2 C N hi he hy hc _ => ?_) (fun H' he hD' => ?_)⟩
        · obtain ⟨rfl, c, hc1, rfl⟩ := hy
          refine ⟨rfl, yes_ok ?_⟩
          refine ⟨_, rfl, c, LT, rfl, rfl, ?_⟩
          have e1 : z.cps.toList.getD i 0 = c := by
            rw [List.getD_eq_getElem?_getD, Array.getElem?_toList, hc1]
            rfl
          have := hc rfl _ (Evl.Ex.refl _)
          rw [e1] at this
          exact this
        · refine ⟨D, z.cps.toList.map fun c => decide (c ∈ LT.cps.toList), rfl, SqL.of ?_, fin _ _ ?_ he⟩
          · rw [hD', filter_yes]
            congr 2
            rw [List.map_map, ← range_map_get _ 0 z.cps.toList, ← strLen]
            rfl
          · unfold isNm
            rw [decide_eq_true (show 1 ≤ z.length by have := of_decide_eq_true h1; omega), decide_eq_true (show z.length ≤ 8 by have := of_decide_eq_true h8; omega), List.all_map]
            rfl
      · refine fin false H ?_ (Evl.Ex.refl H)
        unfold isNm
        rw [decide_eq_false (show ¬ z.length ≤ 8 from fun q => h8 (decide_eq_true (by omega)))]
        simp
    · refine ⟨_, rfl, iteF (fin false H ?_ (Evl.Ex.refl H))⟩
      unfold isNm
      rw [decide_eq_false (show ¬ 1 ≤ z.length from fun q => h1 (decide_eq_true (by omega)))]
      rfl
  · have e2 : isNmD d = false := isNmD_no fun q => e (decide_eq_true q)
    have := k H (Evl.Ex.refl H)
    rw [e2] at this
    exact this

theorem ok_is_row (T : TX w K mg) : Gt P w K mg base CX0 1 "is_row" ["thing"] (spRow K) := by
  refine gt_mk (D_is_row T) (g_is_row T) sc_is_row rfl (fun _ _ _ _ _ _ us hl => match us, hl with | [_], _ => rfl) (fun vs H Q E h => ?_) (fun f cdv A outer s H vs Q E hr h => ?_)
  · obtain ⟨x, t, rfl, _⟩ := h
    rfl
  obtain ⟨x, t, rfl, ht, ty, k⟩ := h
  refine ⟨_, (pss_one (ps_ret (pe_callB call_isiT (by rfl) (f_isinstance T) (by decide +kernel) (pa_cons (pv 0) (pa_cons (pe_tup (pa_cons (pe_gty (n := "list") (f_list T) (by decide +kernel)) (pa_cons (pe_gty (n := "tuple") (f_tuple T) (by decide +kernel)) pa_nil))) pa_nil))))), ?_⟩
  refine ⟨_, rfl, (by show 2 ≤ sizeLine; decide), fun p hp => ?_⟩
  generalize hH_ : upd H p _ = H1
  have x1 : Evl.Ex H H1 := (by rw [← hH_]; exact Evl.Ex.new hp)
  have g1 := (congrFun hH_ p).symm
  rw [upd_same] at g1
  clear hH_
  exact ⟨x, p, _, _, [_, _], _, rfl, g1, .cons (.ty "list") (.cons (.ty "tuple") .nil), ty H1 x1, kit_row ht, k H1 x1⟩
theorem ok_is_between (T : TX w K mg) : Gt P w K mg base CX0 2 "is_between" ["thing", "least", "most"] (spBetw K) := by
  refine gt_mk (D_is_between T) (g_is_between T) sc_is_between rfl (fun _ _ _ _ _ _ us hl => match us, hl with | [_, _, _], _ => rfl) (fun vs H Q E h => ?_) (fun f cdv A outer s H vs Q E hr h => ?_)
  · obtain ⟨x, d, l, m, rfl, _⟩ := h
    rfl
  obtain ⟨x, d, l, m, rfl, hd, k⟩ := h
  refine ⟨_, (pss_one (ps_ret (pe_and ((ok_is_whole T).pe (hr.mono (by decide)) (pa_cons (pv 0) pa_nil)) (pe_one (pe_chain op_le op_le (pv 1) (pv 0) (pv 2)))))), ?_⟩
  refine ⟨_, rfl, x, d, rfl, hd, _, rfl, ite2 (fun e => ?_) (fun e => ?_)⟩
  · cases d with
    | int i =>
      cases hd
      refine ⟨_, rfl, _, rfl, _, _, rfl, rfl, _, rfl, ite2 (fun e1 => ?_) (fun e1 => ?_)⟩
      · refine ⟨_, rfl, _, _, rfl, rfl, ?_⟩
        have e2 : isBetwD (.int i) l m = decide (i ≤ m) := by
          show (decide (l ≤ i) && decide (i ≤ m)) = _
          rw [e1]
          rfl
        rw [e2] at k
        exact k
      · have e2 : isBetwD (.int i) l m = false := by
          show (decide (l ≤ i) && decide (i ≤ m)) = _
          rw [Bool.eq_false_iff.mpr e1]
          rfl
        rw [e2] at k
        exact k
    | _ => cases e
  · have : isBetwD d l m = false := by
      cases d <;> first | rfl | exact absurd rfl e
    rw [this] at k
    exact k
theorem ok_are_houses (T : TX w K mg) : Gt P w K mg base CX0 2 "are_houses" ["thing"] (spHouses K) := by
  refine gt_mk (D_are_houses T) (g_are_houses T) sc_are_houses rfl (fun _ _ _ _ _ _ us hl => match us, hl with | [_], _ => rfl) (fun vs H Q E h => ?_) (fun f cdv A outer s H vs Q E hr h => ?_)
  · obtain ⟨a, hs, rfl, _⟩ := h
    rfl
  obtain ⟨a, hs, rfl, hrow, ok, k⟩ := h
  refine ⟨_, (pss_cons (ps_if (PW.pt (pw_or (pt_not (pt_val ((ok_is_row T).pe (hr.mono (by decide)) (pa_cons (pv 0) pa_nil)))) (pw_or (pt_not (pt_chain op_le op_le pe_int (pe_callB call_len_seq (by rfl) (f_len T) (by decide +kernel) (pa_cons (pv 0) pa_nil)) (pe_gint (c_MOST_HOUSES T)))) (pw_or1 (pt_not (pt_val (pe_callB (cr_all rfl) (by rfl) (f_all T) (by decide +kernel) (pa_cons (pe_lc (own := [("house", 1)]) (g := gName 1) (tt := tYes) rfl sc_are_houses.nd (pi_row (pv 0)) (blkOk_by (N := ["thing", "house"]) (sc := defScope s_are_houses) (by decide +kernel)) (fun _ _ _ _ _ => (pg_name (i := 1) sc_are_houses.nd rfl (by first | exact Or.inl rfl | exact Or.inr rfl))) (fun _ _ _ _ _ => pts_nil) (fun _ _ _ _ _ => ((ok_is_name T).pe (hr.mono (by decide)) (pa_cons (pv 1) pa_nil)))) pa_nil))))))))
      (pss_one (ps_ret pe_bl))
      pss_nil)
    (pss_one (ps_ret (pe_cmpR op_eq (pe_lenSetN rfl (by rfl) (f_len T) (by rfl) (f_set T) (pv 0)) (pe_callB call_len_seq (by rfl) (f_len T) (by decide +kernel) (pa_cons (pv 0) pa_nil)) (nomark _))))), ?_⟩
  obtain ⟨t, ht, hb, ty⟩ := hrow.ty
  have lo := ok.lo
  have hi := ok.hi
  have hln : (hs.map V.str).length = hs.length := List.length_map ..
  refine ⟨_, rfl, .ref a, t, rfl, ht, ty, fun H1 e1 => ⟨_, rfl, ?_⟩⟩
  rw [hb]
  refine iteF ?_
  have hr1 := hrow.ex e1
  refine ⟨_, rfl, a, _, rfl, hr1, _, _, rfl, rfl, _, rfl, iteT' (decide_eq_true (by rw [hln]; omega)) ⟨_, _, rfl, rfl, _, rfl, ?_⟩⟩
  rw [decide_eq_true (show ((hs.map V.str).length : Int) ≤ 8 by rw [hln]; omega)]
  refine iteF ?_
  refine ⟨_, rfl, a, _, rfl, hr1, fun J hJ => ?_⟩
  obtain ⟨G, w, hG⟩ := walk_row hJ
  refine fun D hD => lc_true w hD (by rw [hln]; omega) (fun H' he => hG H' (fun o q => he _ _ q)) (fun i v H2 H3 C N hi he hy hc => ?_) (fun H2 he hD2 => ?_)
  · obtain ⟨rfl, hv⟩ := hy
    obtain ⟨z, hz, rfl⟩ := map_at hv
    have nz := ok.nm z (List.mem_of_getElem? hz)
    have n8 := nz.hi
    refine ⟨rfl, yes_ok ⟨_, rfl, _, .str z, rfl, .str z, fun y e => by cases e; omega, fun H4 e4 => ?_⟩⟩
    rw [show isNmD (.str z) = true from isNm_iff.mpr nz]
    exact hc H4 e4
  · refine ⟨D, _, rfl, SqL.of hD2, ?_⟩
    rw [allT]
    refine ⟨_, rfl, iteF ?_⟩
    have hr2 := hr1.ex he
    refine ⟨_, rfl, a, hs, rfl, hr2, by omega, _, rfl, a, _, rfl, hr2, rfl, ?_⟩
    rw [firsts_nodup ok.nd, hln, decide_eq_true rfl]
    exact k H2 (e1.trans he)
theorem ok_are_streets (T : TX w K mg) : Gt P w K mg base CX0 2 "are_streets" ["thing", "houses"] (spStreets K) := by
  refine gt_mk (D_are_streets T) (g_are_streets T) sc_are_streets rfl (fun _ _ _ _ _ _ us hl => match us, hl with | [_, _], _ => rfl) (fun vs H Q E h => ?_) (fun f cdv A outer s H vs Q E hr h => ?_)
  · obtain ⟨a, h, ss, hs, rfl, _⟩ := h
    rfl
  obtain ⟨a, h, ss, hs, rfl, ha, hrow, nah, ok, k⟩ := h
  refine ⟨_, (pss_cons (ps_if (PW.pt (pw_or (pt_not (pt_val (pe_callB call_isi (by rfl) (f_isinstance T) (by decide +kernel) (pa_cons (pv 0) (pa_cons (pe_gty (n := "dict") (f_dict T) (by decide +kernel)) pa_nil))))) (pw_or1 (pt_not (pt_chain op_le op_le pe_int (pe_callB call_lenD (by rfl) (f_len T) (by decide +kernel) (pa_cons (pv 0) pa_nil)) (pe_gint (c_MOST_STREETS T)))))))
      (pss_one (ps_ret pe_bl))
      pss_nil)
    (pss_one (ps_ret (pe_callB (cr_all rfl) (by rfl) (f_all T) (by decide +kernel) (pa_cons (pe_lock (pe_lc (own := [("street", 2), ("house", 3)]) (g := (gTup K 2 (gCons (gName 2) (gCons (gName 3) gNil)))) (tt := tYes) rfl sc_are_streets.nd (pi_items (pv 0)) (blkOk_by (N := ["thing", "houses", "street", "house"]) (sc := defScope s_are_streets) (by decide +kernel)) (fun _ _ _ _ _ => (pg_tup (by rfl) (pgs_cons (pg_name (i := 2) sc_are_streets.nd rfl (by first | exact Or.inl rfl | exact Or.inr rfl)) (pgs_cons (pg_name (i := 3) sc_are_streets.nd rfl (by first | exact Or.inl rfl | exact Or.inr rfl)) pgs_nil)))) (fun _ _ _ _ _ => pts_nil) (fun _ _ _ _ _ => (pe_and ((ok_is_name T).pe (hr.mono (by decide)) (pa_cons (pv 2) pa_nil)) (pe_and ((ok_is_name T).pe (hr.mono (by decide)) (pa_cons (pv 3) pa_nil)) (pe_one (pe_cmpR (show OpR _ _ (rIn K false) from op_in_seq) (pv 3) (pv 1) (by rfl)))))))) pa_nil))))), ?_⟩
  have lo := ok.lo
  have hi := ok.hi
  have hln : (ssK ss).length = ss.length := List.length_map ..
  refine ⟨_, rfl, .ref a, _, _, _, true, rfl, .ty "dict", .base (.dK ha), kit_ty (by decide +kernel), _, rfl, iteF ?_⟩
  refine ⟨_, rfl, a, _, rfl, ha, _, _, rfl, rfl, _, rfl, iteT' (decide_eq_true (by rw [hln]; omega)) ⟨_, _, rfl, rfl, _, rfl, ?_⟩⟩
  rw [decide_eq_true (show ((ssK ss).length : Int) ≤ 20 by rw [hln]; omega)]
  refine iteF ?_
  refine ⟨a, _, ha, trivial, fun od => ?_⟩
  generalize hH : upd H a _ = H0
  have ha0 : H0 a = some (.frz od (.dK (ssK ss))) := by rw [← hH]; exact upd_same
  have hr0 : Rw K H0 h (hs.map V.str) := hrow.stay fun o q => by rw [← hH, upd_ne (Ne.symm nah)]; exact q
  have fin : ∀ {H' : Hp}, Evl.Ex H0 H' → Evl.Ex H (upd H' a (.dK (ssK ss))) := fun e => unlock (o := od) ha (by rw [hH]; exact e)
  clear hH
  refine ⟨_, rfl, a, od, _, rfl, ha0, fun D hD => ?_⟩
  refine lc_true (walk_items (d := a) (o := od) (kvs := ssK ss)) hD (by rw [hln]; omega) (fun H' he => he _ _ ha0) (fun i v H2 H3 C N hi he hy hc => ?_) (fun H2 he hD2 => ?_)
  · obtain ⟨T', y1, y2, rfl, hT, rfl, hy1, hy2⟩ := hy
    dsimp only at hy1 hy2
    rw [hln] at hi
    obtain ⟨q, hq⟩ : ∃ q, ss[i]? = some q := ⟨_, List.getElem?_eq_getElem hi⟩
    have hq2 : (ssK ss)[i]? = some (.inr q.1, .str q.2) := by
      unfold ssK
      rw [List.getElem?_map, hq]
      rfl
    rw [hq2] at hy1 hy2
    obtain rfl : V.str q.1 = y1 := Option.some.inj hy1
    obtain rfl : V.str q.2 = y2 := Option.some.inj hy2
    obtain ⟨n1, n2, n3⟩ := ok.nm q (List.mem_of_getElem? hq)
    have l1 := n1.hi
    have l2 := n2.hi
    generalize hH_ : upd H2 T' _ = H4
    have x4 : Evl.Ex H2 H4 := (by rw [← hH_]; exact Evl.Ex.new hT)
    have g4 := (congrFun hH_ T').symm
    rw [upd_same] at g4
    clear hH_
    refine ⟨T', _, rfl, SqT.of g4, rfl, _, _, rfl, _, _, rfl, rfl, rfl, yes_ok ?_⟩
    refine ⟨_, rfl, _, .str q.1, rfl, .str _, fun y e => by cases e; omega, fun H5 e5 => ?_⟩
    rw [show isNmD (.str q.1) = true from isNm_iff.mpr n1]
    refine ⟨_, rfl, iteT ⟨_, rfl, _, .str q.2, rfl, .str _, fun y e => by cases e; omega, fun H6 e6 => ?_⟩⟩
    rw [show isNmD (.str q.2) = true from isNm_iff.mpr n2]
    have e26 := x4.trans (e5.trans e6)
    refine ⟨_, rfl, iteT ⟨_, rfl, _, rfl, h, _, rfl, hr0.ex (he.trans e26), rfl, flat_strs' hs, ?_⟩⟩
    show C (.bl (inV (.str q.2) (hs.map V.str))) H6
    rw [inV_str, decide_eq_true n3]
    exact hc H6 e26
  · refine ⟨he _ _ ha0, ?_⟩
    have nD : D ≠ a := fun z => by
      rw [z, ha0] at hD
      cases hD
    refine ⟨D, _, rfl, SqL.of (by rw [upd_ne nD]; exact hD2), ?_⟩
    rw [allT]
    exact k _ (fin he)
theorem ok_is_road (T : TX w K mg) : Gt P w K mg base CX0 3 "is_road" ["thing", "houses"] (spRoad K) := by
  refine gt_mk (D_is_road T) (g_is_road T) sc_is_road rfl (fun _ _ _ _ _ _ us hl => match us, hl with | [_, _], _ => rfl) (fun vs H Q E h => ?_) (fun f cdv A outer s H vs Q E hr h => ?_)
  · obtain ⟨p, h, r, hs, rfl, _⟩ := h
    rfl
  obtain ⟨p, h, r, hs, rfl, hp, hrow, ok, k⟩ := h
  refine ⟨_, (pss_cons (ps_if (PW.pt (pw_or (pt_not (pt_val (pe_callB call_isi (by rfl) (f_isinstance T) (by decide +kernel) (pa_cons (pv 0) (pa_cons (pe_gty (n := "tuple") (f_tuple T) (by decide +kernel)) pa_nil))))) (pw_or1 (pt_cmpR op_ne (pe_callB call_len_seq (by rfl) (f_len T) (by decide +kernel) (pa_cons (pv 0) pa_nil)) pe_int (nomark _)))))
      (pss_one (ps_ret pe_bl))
      pss_nil)
    (pss_cons (ps_asg (pv 0) (pg_tup (by rfl) (pgs_cons (pg_name (i := 2) sc_is_road.nd rfl (by first | exact Or.inl rfl | exact Or.inr rfl)) (pgs_cons (pg_name (i := 3) sc_is_road.nd rfl (by first | exact Or.inl rfl | exact Or.inr rfl)) (pgs_cons (pg_name (i := 4) sc_is_road.nd rfl (by first | exact Or.inl rfl | exact Or.inr rfl)) (pgs_cons (pg_name (i := 5) sc_is_road.nd rfl (by first | exact Or.inl rfl | exact Or.inr rfl)) (pgs_cons (pg_name (i := 6) sc_is_road.nd rfl (by first | exact Or.inl rfl | exact Or.inr rfl)) pgs_nil)))))))
    (pss_cons (ps_if (PW.pt (pw_or (pt_not (pt_val ((ok_is_name T).pe (hr.mono (by decide)) (pa_cons (pv 2) pa_nil)))) (pw_or (pt_not (pt_val ((ok_is_name T).pe (hr.mono (by decide)) (pa_cons (pv 3) pa_nil)))) (pw_or (pt_cmpR op_eq (pv 2) (pv 3) (nomark _)) (pw_or (pt_cmpR op_notIn_seq (pv 2) (pv 1) (by rfl)) (pw_or1 (pt_cmpR op_notIn_seq (pv 3) (pv 1) (by rfl))))))))
      (pss_one (ps_ret pe_bl))
      pss_nil)
    (pss_one (ps_ret (pe_and ((ok_is_from T).pe (hr.mono (by decide)) (pa_cons (pv 4) (pa_cons pe_int pa_nil))) (pe_and ((ok_is_from T).pe (hr.mono (by decide)) (pa_cons (pv 5) (pa_cons pe_int pa_nil))) (pe_one ((ok_is_from T).pe (hr.mono (by decide)) (pa_cons (pv 6) (pa_cons pe_int pa_nil))))))))))), ?_⟩
  refine ⟨_, rfl, .ref p, _, _, _, true, rfl, .ty "tuple", sqt_ty hp, kit_ty (by decide +kernel), _, rfl, iteF ?_⟩
  refine ⟨_, rfl, p, _, rfl, .inr hp, rfl, _, rfl, iteNS rfl ?_⟩
  refine ⟨_, rfl, p, _, rfl, hp, rfl, _, _, rfl, _, _, rfl, _, _, rfl, _, _, rfl, _, _, rfl, rfl, ?_⟩
  have l1 := ok.nb.hi
  have l2 := ok.ng.hi
  refine ⟨_, rfl, _, .str r.b, rfl, .str _, fun y e => by cases e; omega, fun H1 e1 => ?_⟩
  rw [show isNmD (.str r.b) = true from isNm_iff.mpr ok.nb]
  refine ⟨_, rfl, iteF ⟨_, rfl, _, .str r.g, rfl, .str _, fun y e => by cases e; omega, fun H2 e2 => ?_⟩⟩
  rw [show isNmD (.str r.g) = true from isNm_iff.mpr ok.ng]
  have hr2 := hrow.ex (e1.trans e2)
  refine ⟨_, rfl, iteF ⟨_, rfl, _, rfl, rfl, _, rfl, ?_⟩⟩
  rw [decide_eq_false (show ¬ V.str r.b = V.str r.g from fun z => ok.ne (V.str.inj z))]
  refine iteF ⟨_, rfl, _, rfl, h, _, rfl, hr2, rfl, flat_strs' hs, ?_⟩
  rw [show (if true = true then !inV (.str r.b) (hs.map V.str) else inV (.str r.b) (hs.map V.str)) = false by rw [if_pos rfl, inV_str, decide_eq_true ok.hb]; rfl]
  refine ⟨_, rfl, iteF ⟨_, rfl, _, rfl, h, _, rfl, hr2, rfl, flat_strs' hs, ?_⟩⟩
  rw [show (if true = true then !inV (.str r.g) (hs.map V.str) else inV (.str r.g) (hs.map V.str)) = false by rw [if_pos rfl, inV_str, decide_eq_true ok.hg]; rfl]
  refine ⟨_, rfl, iteF ?_⟩
  refine ⟨_, rfl, _, .int r.f, _, rfl, .int _, ?_⟩
  rw [show isFromD (.int r.f) 0 = true from decide_eq_true ok.f0]
  refine ⟨_, rfl, iteT ⟨_, rfl, _, .int r.e, _, rfl, .int _, ?_⟩⟩
  rw [show isFromD (.int r.e) 1 = true from decide_eq_true ok.e1]
  refine ⟨_, rfl, iteT ⟨_, rfl, _, .int r.t, _, rfl, .int _, ?_⟩⟩
  rw [show isFromD (.int r.t) 1 = true from decide_eq_true ok.t1]
  exact k _ (e1.trans e2)
theorem ok_are_roads (T : TX w K mg) : Gt P w K mg base CX0 4 "are_roads" ["thing", "houses"] (spRoads K) := by
  refine gt_mk (D_are_roads T) (g_are_roads T) sc_are_roads rfl (fun _ _ _ _ _ _ us hl => match us, hl with | [_, _], _ => rfl) (fun vs H Q E h => ?_) (fun f cdv A outer s H vs Q E hr h => ?_)
  · obtain ⟨a, h, rq, hs, rfl, _⟩ := h
    rfl
  obtain ⟨a, h, rq, hs, rfl, ha, hq, hl, hrow, k⟩ := h
  refine ⟨_, (pss_one (ps_ret (pe_and ((ok_is_row T).pe (hr.mono (by decide)) (pa_cons (pv 0) pa_nil)) (pe_and (pe_cmpR op_le (pe_callB call_len_seq (by rfl) (f_len T) (by decide +kernel) (pa_cons (pv 0) pa_nil)) (pe_gint (c_MOST_ROADS T)) (nomark _)) (pe_one (pe_callB (cr_all rfl) (by rfl) (f_all T) (by decide +kernel) (pa_cons (pe_lc (own := [("road", 2)]) (g := gName 2) (tt := tYes) rfl sc_are_roads.nd (pi_row (pv 0)) (blkOk_by (N := ["thing", "houses", "road"]) (sc := defScope s_are_roads) (by decide +kernel)) (fun _ _ _ _ _ => (pg_name (i := 2) sc_are_roads.nd rfl (by first | exact Or.inl rfl | exact Or.inr rfl))) (fun _ _ _ _ _ => pts_nil) (fun _ _ _ _ _ => ((ok_is_road T).pe (hr.mono (by decide)) (pa_cons (pv 2) (pa_cons (pv 1) pa_nil))))) pa_nil))))))), ?_⟩
  obtain ⟨t, ht, hb, ty⟩ := ha.ty
  have hln : (rqV rq).length = rq.length := List.length_map ..
  refine ⟨_, rfl, .ref a, t, rfl, ht, ty, fun H1 e1 => ?_⟩
  rw [hb]
  have ha1 := ha.ex e1
  refine ⟨_, rfl, iteT ⟨_, rfl, a, _, rfl, ha1, _, _, rfl, rfl, _, rfl, iteT' (decide_eq_true (by rw [hln]; omega)) ⟨_, rfl, a, _, rfl, ha1, fun J hJ => ?_⟩⟩⟩
  obtain ⟨G, w, hG⟩ := walk_row hJ
  refine fun D hD => lc_true w hD (by rw [hln]; omega) (fun H' he => hG H' (fun o q => he _ _ q)) (fun i v H2 H3 C N hi he hy hc => ?_) (fun H2 he hD2 => ?_)
  · obtain ⟨rfl, hv⟩ := hy
    obtain ⟨q, hq1, rfl⟩ := map_at hv
    obtain ⟨q1, q2⟩ := hq q (List.mem_of_getElem? hq1)
    exact ⟨rfl, yes_ok ⟨_, rfl, _, rfl, q.1, h, q.2, hs, rfl, sqt_ex q1 (e1.trans he), hrow.ex (e1.trans he), q2, fun H4 e4 => hc H4 e4⟩⟩
  · refine ⟨D, _, rfl, SqL.of hD2, ?_⟩
    rw [allT]
    exact k H2 (e1.trans he)

end
end Lw

namespace Lw
open PySem PySem.Spec PyProof.Rows L2 TP
section
variable {P : Program} {w : World} {K : PySem.W.Frag} {mg : Str → Option Value} {base : Heap}

theorem ok_Land_has (T : TX w K mg) : GtF P w K mg base CX0 5 d_Land_has ["self", "house"] (spHas K) := by
  refine gtF_mk (D_Land_has T) sc_Land_has (fun vs H Q E h => ?_) (fun f cdv A outer s H vs Q E hr h => ?_)
  · obtain ⟨a, L, v, D, rfl, _⟩ := h
    rfl
  obtain ⟨a, L, v, D, rfl, LA, hD, hz, k⟩ := h
  refine ⟨_, (pss_one (ps_ret (pe_and ((ok_is_name T).pe (hr.mono (by decide)) (pa_cons (pv 1) pa_nil)) (pe_one (pe_cmpR op_in_seq (pv 1) (pe_fld (pv 0) rfl) (by rfl)))))), ?_⟩
  refine ⟨_, rfl, v, D, rfl, hD, hz, fun H1 e1 => ⟨_, rfl, ite2 (fun b => ?_) (fun b => ?_)⟩⟩
  · obtain ⟨z, rfl, rfl, nz⟩ := isNmD_str hD b
    obtain ⟨dx, ht, st, rt, ut, LI⟩ := LA.ex e1
    refine ⟨_, rfl, _, rfl, a, _, dx, _, _, rfl, LI.o, cl_Land T, na_Land_houses T, rfl, ht, _, rfl, .inr LI.h, rfl, flat_strs' L.hs, ?_⟩
    have := k H1 e1
    rw [hasD_yes nz] at this
    rw [show (if false = true then !inV (.str z) (L.hs.map V.str) else inV (.str z) (L.hs.map V.str)) = decide (z ∈ L.hs) by rw [if_neg Bool.false_ne_true, inV_str]]
    exact this
  · have := k H1 e1
    rw [hasD_no (by cases h : isNmD D; rfl; exact absurd h b)] at this
    exact this
theorem ok_Land_has_street (T : TX w K mg) : GtF P w K mg base CX0 5 d_Land_has_street ["self", "street"] (spHasS K) := by
  refine gtF_mk (D_Land_has_street T) sc_Land_has_street (fun vs H Q E h => ?_) (fun f cdv A outer s H vs Q E hr h => ?_)
  · obtain ⟨a, L, v, D, rfl, _⟩ := h
    rfl
  obtain ⟨a, L, v, D, rfl, LA, hD, hz, k⟩ := h
  refine ⟨_, (pss_one (ps_ret (pe_and ((ok_is_name T).pe (hr.mono (by decide)) (pa_cons (pv 1) pa_nil)) (pe_one (pe_cmp (pc_din (hu_of hr) (pv 1) (pe_fld (pv 0) rfl)) rfl))))), ?_⟩
  refine ⟨_, rfl, v, D, rfl, hD, hz, fun H1 e1 => ⟨_, rfl, ite2 (fun b => ?_) (fun b => ?_)⟩⟩
  · obtain ⟨z, rfl, rfl, nz⟩ := isNmD_str hD b
    obtain ⟨dx, ht, st, rt, ut, LI⟩ := LA.ex e1
    refine ⟨_, rfl, _, rfl, a, _, dx, _, _, rfl, LI.o, cl_Land T, na_Land_streets T, rfl, ?_⟩
    have := k H1 e1
    rw [hasD_yes nz] at this
    have g := DGet.k (k := .inr z) LI.s
    rw [ssGet_val] at g
    refine ⟨st, _, rfl, g, ?_⟩
    rw [Option.isSome_map, ssGet_some]
    exact this
  · have := k H1 e1
    rw [hasD_no (by cases h : isNmD D; rfl; exact absurd h b)] at this
    exact this
theorem ok_Land_house_of (T : TX w K mg) : GtF P w K mg base (L2.CX P w) 6 d_Land_house_of ["self", "street"] (spHouseX K) := by
  refine gtFX_mk (D_Land_house_of T) sc_Land_house_of (fun vs H Q E h => ?_) (fun f cdv A outer s H vs Q E hr h => ?_)
  · obtain ⟨a, L, v, D, rfl, _⟩ := h
    rfl
  obtain ⟨a, L, v, D, rfl, LA, hD, hz, k, kx⟩ := h
  refine ⟨_, (pss_cons (ps_if (pt_not (pt_val (GtF.meth (ok_Land_has_street T) rfl (fun _ _ _ _ _ _ us hl => match us, hl with | [_, _], _ => rfl) (cl_Land T) (m_Land_has_street T) (hr.mono (by decide)) pass0 (pv 0) (pa_cons (pv 1) pa_nil))))
      (pss_one (ps_raise rfl (takes_of rfl rfl rfl rfl) (GtF.pmk (d := d_NoStreet_init) (ox_NoStreet T) (ei_NoStreet T) (ok_NoStreet_init T) rfl (fun _ _ _ _ _ _ us hl => match us, hl with | [_, _], _ => rfl) (g_NoStreet T) (hr.mono (by decide)) pass0 (pa_cons (pv 1) pa_nil))))
      pss_nil)
    (pss_one (ps_ret (pe_dget (hu_of hr) (pe_fld (pv 0) rfl) (pv 1) (fun _ _ => rfl))))), ?_⟩
  have LA0 := LA
  obtain ⟨dx0, ht0, st0, rt0, ut0, LI0⟩ := LA0
  refine ⟨_, rfl, a, dx0, _, rfl, LI0.o, rfl, _, rfl, a, L, v, D, rfl, LA, hD, hz, fun H1 e1 => ⟨_, rfl, ?_⟩⟩
  cases hb : hasD (L.ss.map (·.1)) D with
  | false =>
    refine iteT ?_
    refine ⟨_, rfl, (by show 1 ≤ 1000; decide), fun a1 ha1 => ⟨a1, v, rfl, upd_same, fun d2 hn2 ne2 => ⟨rfl, d2, _, upd_same, Eq.trans (upd_ne ne2) upd_same, (raised (fs := [("street", v)]) ha1 hn2 ne2).2, ?_⟩⟩⟩
    exact kx hb d2 _ (Evl.Ex.trans e1 (raised (fs := [("street", v)]) ha1 hn2 ne2).1) upd_same
  | true =>
    refine iteF ?_
    obtain ⟨dx, ht, st, rt, ut, LI⟩ := LA.ex e1
    obtain ⟨z, rfl, rfl, nz⟩ : ∃ z, v = .str z ∧ D = .str z ∧ NmP z := isNmD_str hD (by
      cases h : isNmD D with
      | true => rfl
      | false => rw [hasD_no h] at hb; cases hb)
    have hb2 := hb
    rw [hasD_yes nz, ← ssGet_some] at hb2
    obtain ⟨s', hs'⟩ := Option.isSome_iff_exists.mp hb2
    have g := DGet.k (k := .inr z) LI.s
    rw [ssGet_val, hs'] at g
    exact ⟨_, rfl, a, _, dx, _, _, rfl, LI.o, cl_Land T, na_Land_streets T, rfl, _, rfl, st, _, rfl, g, k z s' rfl hb hs' H1 e1⟩
theorem ok_Land_roads_from (T : TX w K mg) : GtF P w K mg base (L2.CX P w) 6 d_Land_roads_from ["self", "house"] (spFromX K) := by
  refine gtFX_mk (D_Land_roads_from T) sc_Land_roads_from (fun vs H Q E h => ?_) (fun f cdv A outer s H vs Q E hr h => ?_)
  · obtain ⟨a, L, v, D, rfl, _⟩ := h
    rfl
  obtain ⟨a, L, v, D, rfl, LA, hrl, hD, hz, k, kx⟩ := h
  refine ⟨_, (pss_cons (ps_if (pt_not (pt_val (GtF.meth (ok_Land_has T) rfl (fun _ _ _ _ _ _ us hl => match us, hl with | [_, _], _ => rfl) (cl_Land T) (m_Land_has T) (hr.mono (by decide)) pass0 (pv 0) (pa_cons (pv 1) pa_nil))))
      (pss_one (ps_raise rfl (takes_of rfl rfl rfl rfl) (GtF.pmk (d := d_NoHouse_init) (ox_NoHouse T) (ei_NoHouse T) (ok_NoHouse_init T) rfl (fun _ _ _ _ _ _ us hl => match us, hl with | [_, _], _ => rfl) (g_NoHouse T) (hr.mono (by decide)) pass0 (pa_cons (pv 1) pa_nil))))
      pss_nil)
    (pss_one (ps_ret (pe_lc (own := [("number", 2), ("road", 3)]) (g := (gTup K 2 (gCons (gName 2) (gCons (gName 3) gNil)))) rfl sc_Land_roads_from.nd (pi_enumT (by rfl) (f_enumerate T) (pa_cons (pe_fld (pv 0) rfl) pa_nil)) (blkOk_by (N := ["self", "house", "number", "road"]) (sc := defScope s_Land_roads_from) (by decide +kernel)) (fun _ _ _ _ _ => (pg_tup (by rfl) (pgs_cons (pg_name (i := 2) sc_Land_roads_from.nd rfl (by first | exact Or.inl rfl | exact Or.inr rfl)) (pgs_cons (pg_name (i := 3) sc_Land_roads_from.nd rfl (by first | exact Or.inl rfl | exact Or.inr rfl)) pgs_nil)))) (fun _ _ _ _ _ => (pts_one (pt_cmpR op_eq (pe_ix (show IxR _ (rIxT K) from ix_tup) (pv 3) pe_int (fun _ _ => rfl)) (pv 1) (nomark _)))) (fun _ _ _ _ _ => (pv 2)))))), ?_⟩
  have LA0 := LA
  obtain ⟨dx0, ht0, st0, rt0, ut0, LI0⟩ := LA0
  refine ⟨_, rfl, a, dx0, _, rfl, LI0.o, rfl, _, rfl, a, L, v, D, rfl, LA, hD, hz, fun H1 e1 => ⟨_, rfl, ?_⟩⟩
  cases hb : hasD L.hs D with
  | false =>
    refine iteT ?_
    refine ⟨_, rfl, (by show 1 ≤ 1000; decide), fun a1 ha1 => ⟨a1, v, rfl, upd_same, fun d2 hn2 ne2 => ⟨rfl, d2, _, upd_same, Eq.trans (upd_ne ne2) upd_same, (raised (fs := [("house", v)]) ha1 hn2 ne2).2, ?_⟩⟩⟩
    exact kx hb d2 _ (Evl.Ex.trans e1 (raised (fs := [("house", v)]) ha1 hn2 ne2).1) upd_same
  | true =>
    refine iteF ?_
    obtain ⟨dx, ht, st, rt, ut, LI⟩ := LA.ex e1
    obtain ⟨z, rfl, rfl, nz⟩ : ∃ z, v = .str z ∧ D = .str z ∧ NmP z := isNmD_str hD (by
      cases h : isNmD D with
      | true => rfl
      | false => rw [hasD_no h] at hb; cases hb)
    have rl : (rqV L.rq).length = L.rq.length := List.length_map ..
    refine ⟨_, rfl, a, _, dx, _, _, rfl, LI.o, cl_Land T, na_Land_roads T, rfl, rt, _, rfl, LI.r, fun Dl hDl => ?_⟩
    refine lc_acc (walk_enumT (K := K) (a := rt) (xs := rqV L.rq)) (fun i acc H' => Evl.Ex H1 H' ∧ acc = (rdFrom z 0 ((L.rq.take i).map (·.2))).map V.int) hDl (by rw [rl]; omega)
      (fun i acc H' q => by
        rw [q.2, List.length_map]
        refine Nat.le_trans (rdFrom_len _ _ _) ?_
        rw [List.length_map, List.length_take]
        omega) ⟨Evl.Ex.refl _, rfl⟩ (fun i acc H' h1 q => sqt_ex LI.r (q.1.trans hid_ex)) (fun i x H2 H3 acc C N hi hD2 hI hy hc hn => ?_) (fun H2 acc hD2 hI => ?_)
    · obtain ⟨T', x1, x2, rfl, hT', rfl, hx1, hx2⟩ := hy
      obtain ⟨q, hq, rfl⟩ := map_at hx2
      obtain rfl : x1 = .int (i : Nat) := (Option.some.inj hx1).symm
      obtain ⟨eI, rfl⟩ := hI
      have eA : Evl.Ex H1 (upd H2 T' (.tup [.int (i : Nat), .ref q.1])) := eI.trans (hid_ex.trans (Evl.Ex.new hT'))
      have nTD : Dl ≠ T' := ne_of_none hD2 hT'
      have hD3 : upd H2 T' (.tup [.int (i : Nat), .ref q.1]) Dl = some (.lst ((rdFrom z 0 ((L.rq.take i).map (·.2))).map V.int)) := by rw [upd_ne nTD]; exact hD2
      have eH : Evl.Ex H1 (hid Dl (upd H2 T' (.tup [.int (i : Nat), .ref q.1]))) := eI.trans (Ex.hid (Evl.Ex.new hT'))
      have il : i < L.rq.length := (List.getElem?_eq_some_iff.mp hq).1
      have tk : (L.rq.take (i + 1)).map (·.2) = (L.rq.take i).map (·.2) ++ [q.2] := by
        rw [List.take_succ, hq, List.map_append]
        rfl
      have tl : ((L.rq.take i).map (·.2)).length = i := by rw [List.length_map, List.length_take]; omega
      refine ⟨T', _, rfl, SqT.of upd_same, rfl, _, _, rfl, _, _, rfl, rfl, rfl, _, rfl, q.1, _, _, _, rfl, rfl, sqt_ex (LI.rs q (List.mem_of_getElem? hq)) eA, atI_nat (j := 0) rfl, _, rfl, rfl, _, rfl, ite2 (fun b => ?_) (fun b => ?_)⟩
      · have hb' : q.2.b = z := by
          have := of_decide_eq_true b
          injection this
        refine ⟨_, rfl, hc _ _ hD3 ⟨eH, ?_⟩⟩
        rw [tk, rdFrom_snoc, if_pos hb', tl, List.map_append]
        rw [Nat.zero_add]
        rfl
      · have hb' : ¬ q.2.b = z := fun e => b (decide_eq_true (by show V.str q.2.b = V.str z; rw [e]))
        refine hn _ hD3 ⟨eH, ?_⟩
        rw [tk, rdFrom_snoc, if_neg hb', List.append_nil]
    · obtain ⟨eI, rfl⟩ := hI
      rw [rl, List.take_length] at hD2
      exact k z rfl hb Dl H2 (e1.trans (eI.trans hid_ex)) (Ex.free e1 hDl) hD2

end
end Lw

namespace Lw
open PySem PySem.Spec PyProof.Rows L2 TP
section
variable {P : Program} {w : World} {K : PySem.W.Frag} {mg : Str → Option Value} {base : Heap}

theorem ok_law_told (T : TX w K mg) : Gt P w K mg base CX0 7 "_law_told" ["_law_land", "_law_which", "_law_thing"] (spTold11 K) := by
  refine gt_mk (D_law_told T) (g_law_told T) sc_law_told rfl (fun _ _ _ _ _ _ us hl => match us, hl with | [_, _, _], _ => rfl) (fun vs H Q E h => ?_) (fun f cdv A outer s H vs Q E hr h => ?_)
  · obtain ⟨a, L, b, v, D, rfl, _⟩ := h
    rfl
  obtain ⟨a, L, b, v, D, rfl, LA, rl, hD, hz, k⟩ := h
  refine ⟨_, (pss_one (ps_try_asM rfl rfl (fun W pn xe tk pw => (pss_cons (ps_if (pt_cmpR op_eq (pv 1) pe_str (nomark _))
      (pss_one (ps_ret (pe_tup (pa_cons pe_str (pa_cons (GtF.methS (ok_Land_roads_from T) rfl (fun _ _ _ _ _ _ us hl => match us, hl with | [_, _], _ => rfl) (cl_Land T) (m_Land_roads_from T) (hr.mono (by decide)) (fun σ => passAt tk σ) (pv 0) (pa_cons (pv 2) pa_nil)) pa_nil)))))
      pss_nil)
    (pss_one (ps_ret (pe_tup (pa_cons pe_str (pa_cons (GtF.methS (ok_Land_house_of T) rfl (fun _ _ _ _ _ _ us hl => match us, hl with | [_, _], _ => rfl) (cl_Land T) (m_Land_house_of T) (hr.mono (by decide)) (fun σ => passAt tk σ) (pv 0) (pa_cons (pv 2) pa_nil)) pa_nil)))))))
      (HdsAs.as (i := 3) sc_law_told.nd rfl rfl ⟨rfl, by decide, .inl (g_NoStreet T)⟩ (fun a_ oe_ cls_ d_ pn_ hz_ hf_ => (pss_one (ps_ret (pe_ifExp (pt_val (pe_callB (call_isCT hz_ hf_) (by rfl) (f_isinstance T) (by decide +kernel) (pa_cons (pv 3) (pa_cons (pe_tup (pa_cons (pe_gref (g_NoHouse T)) (pa_cons (pe_gref (g_NoLand T)) (pa_cons (pe_gref (g_NoDeed T)) pa_nil)))) pa_nil)))) (pe_tup (pa_cons pe_str (pa_cons pe_non pa_nil))) (pe_tup (pa_cons pe_str (pa_cons (pe_xf (TP.ExcC.xf (xc_NoStreet T)) (nf_NoStreet_street T) hz_ hf_ (pv 3)) pa_nil)))))))
      (HdsAs.as (i := 3) sc_law_told.nd rfl rfl ⟨rfl, by decide, .inl (g_NoHouse T)⟩ (fun a_ oe_ cls_ d_ pn_ hz_ hf_ => (pss_one (ps_ret (pe_ifExp (pt_val (pe_callB (call_isCT hz_ hf_) (by rfl) (f_isinstance T) (by decide +kernel) (pa_cons (pv 3) (pa_cons (pe_tup (pa_cons (pe_gref (g_NoLand T)) (pa_cons (pe_gref (g_NoPiece T)) pa_nil))) pa_nil)))) (pe_tup (pa_cons pe_str (pa_cons pe_non pa_nil))) (pe_tup (pa_cons pe_str (pa_cons (pe_xf (TP.ExcC.xf (xc_NoHouse T)) (nf_NoHouse_house T) hz_ hf_ (pv 3)) pa_nil)))))))
      (HdsAs.nil _))))), ?_⟩
  have LA0 := LA
  obtain ⟨dx, ht, st, rt, ut, LI⟩ := LA0
  cases b with
  | true =>
    refine ⟨_, rfl, rfl, _, rfl, iteT' (decide_eq_true rfl) ?_⟩
    refine ⟨_, rfl, a, dx, _, rfl, LI.o, rfl, _, rfl, a, L, v, D, rfl, LA, rl, hD, hz, fun z hvz hb l H1 e1 hl hl1 => ?_, fun hb d H1 e1 h1 => ?_⟩
    · subst hvz
      obtain rfl := dr_str hD
      refine ⟨(by show 2 ≤ sizeLine; decide), fun p hp => k _ _ (e1.trans (Evl.Ex.new hp)) ?_⟩
      rw [told_hy hb]
      exact .tup (SqT.of upd_same) (.cons (.str _) (.cons (.lst (SqL.of (Evl.Ex.new hp _ _ hl1)) (drInts _)) .nil))
    · refine ⟨false, exmB2_ok (xt T) (x := "NoHouse") (y := "NoStreet") (by decide +kernel) (by decide +kernel), (fun q => nomatch q), fun _ => ⟨true, exmB2_ok (xt T) (x := "NoHouse") (y := "NoHouse") (by decide +kernel) (by decide +kernel), fun _ a' na => ?_, (fun q => nomatch q)⟩⟩
      refine ⟨_, rfl, (by show 2 ≤ sizeLine; decide), fun p hp => ?_⟩
      generalize hH_ : upd H1 p _ = H2
      have x2 : Evl.Ex H1 H2 := (by rw [← hH_]; exact Evl.Ex.new hp)
      have g2 := (congrFun hH_ p).symm
      rw [upd_same] at g2
      clear hH_
      have hd2 := x2 _ _ h1
      refine ⟨_, d, p, _, _, [_, _], false, rfl, rfl, rfl, hd2, g2, .cons (.own _) (.cons (.own _) .nil), xc_NoHouse T, kitAny2 (kitB2_ok (kt T) (x := "NoHouse") (y := "NoLand") (by decide +kernel) (by decide +kernel)) (kitB2_ok (kt T) (x := "NoHouse") (y := "NoPiece") (by decide +kernel) (by decide +kernel)), _, rfl, iteF ?_⟩
      refine ⟨_, rfl, rfl, rfl, d, _, _, rfl, hd2, rfl, (by show 2 ≤ sizeLine; decide), fun p2 hp2 => k _ _ (e1.trans (x2.trans (Evl.Ex.new hp2))) ?_⟩
      rw [told_hn hb]
      exact .tup (SqT.of upd_same) (.cons (.str _) (.cons (Dr.ex (e1.trans (x2.trans (Evl.Ex.new hp2))) _ _ hD) .nil))
  | false =>
    refine ⟨_, rfl, rfl, _, rfl, iteF' (by decide +kernel) ?_⟩
    refine ⟨_, rfl, a, dx, _, rfl, LI.o, rfl, _, rfl, a, L, v, D, rfl, LA, hD, hz, fun z s hvz hb hs H1 e1 => ?_, fun hb d H1 e1 h1 => ?_⟩
    · subst hvz
      obtain rfl := dr_str hD
      refine ⟨(by show 2 ≤ sizeLine; decide), fun p hp => k _ _ (e1.trans (Evl.Ex.new hp)) ?_⟩
      rw [told_sy hb, show strOf (.str z) = z from rfl, hs]
      exact .tup (SqT.of upd_same) (.cons (.str _) (.cons (.str _) .nil))
    · refine ⟨true, exmB2_ok (xt T) (x := "NoStreet") (y := "NoStreet") (by decide +kernel) (by decide +kernel), fun _ a' na => ?_, (fun q => nomatch q)⟩
      refine ⟨_, rfl, (by show 3 ≤ sizeLine; decide), fun p hp => ?_⟩
      generalize hH_ : upd H1 p _ = H2
      have x2 : Evl.Ex H1 H2 := (by rw [← hH_]; exact Evl.Ex.new hp)
      have g2 := (congrFun hH_ p).symm
      rw [upd_same] at g2
      clear hH_
      have hd2 := x2 _ _ h1
      refine ⟨_, d, p, _, _, [_, _, _], false, rfl, rfl, rfl, hd2, g2, .cons (.own _) (.cons (.own _) (.cons (.own _) .nil)), xc_NoStreet T, kitAny3 (kitB2_ok (kt T) (x := "NoStreet") (y := "NoHouse") (by decide +kernel) (by decide +kernel)) (kitB2_ok (kt T) (x := "NoStreet") (y := "NoLand") (by decide +kernel) (by decide +kernel)) (kitB2_ok (kt T) (x := "NoStreet") (y := "NoDeed") (by decide +kernel) (by decide +kernel)), _, rfl, iteF ?_⟩
      refine ⟨_, rfl, rfl, rfl, d, _, _, rfl, hd2, rfl, (by show 2 ≤ sizeLine; decide), fun p2 hp2 => k _ _ (e1.trans (x2.trans (Evl.Ex.new hp2))) ?_⟩
      rw [told_sn hb]
      exact .tup (SqT.of upd_same) (.cons (.str _) (.cons (Dr.ex (e1.trans (x2.trans (Evl.Ex.new hp2))) _ _ hD) .nil))

end
end Lw

namespace TP
open PySem PySem.Spec PyProof.Rows L2
/-! ### streets, some put in, some taken out -/
structure SsM (hs : List Str) (ss : List (Str × Str)) (lo hi : Nat) : Prop where
  lo : lo ≤ ss.length
  hi : ss.length ≤ hi
  nm : ∀ q ∈ ss, NmP q.1 ∧ NmP q.2 ∧ q.2 ∈ hs
  nd : (ss.map (·.1)).Nodup
theorem SsOk.m {hs : List Str} {ss : List (Str × Str)} (h : SsOk hs ss) : SsM hs ss 1 21 := ⟨h.lo, Nat.le_trans h.hi (by decide), h.nm, h.nd⟩
theorem SsM.ok {hs : List Str} {ss : List (Str × Str)} {hi : Nat} (h : SsM hs ss 1 hi) (l : ss.length ≤ 20) : SsOk hs ss := ⟨h.lo, l, h.nm, h.nd⟩
theorem ss_keys (ss : List (Str × Str)) : (ssK ss).map (·.1) = (ss.map (·.1)).map Sum.inr := by
  unfold ssK
  rw [List.map_map, List.map_map]
  rfl
theorem ss_put {hs : List Str} {ss : List (Str × Str)} {z h : Str} (ok : SsOk hs ss) (nz : NmP z) (nh : NmP h) (hm : h ∈ hs) : ∃ ss', putK (ssK ss) (.inr z) (.str h) = ssK ss' ∧ SsM hs ss' 1 21 := by
  by_cases e : z ∈ ss.map (·.1)
  · refine ⟨ss.map fun q => if q.1 = z then (q.1, h) else q, ?_, ⟨by rw [List.length_map]; exact ok.lo, by rw [List.length_map]; exact Nat.le_trans ok.hi (by decide), fun q hq => ?_, ?_⟩⟩
    · unfold putK
      rw [if_pos]
      · unfold ssK
        rw [List.map_map, List.map_map]
        refine List.map_congr_left fun q _ => ?_
        show (if (Sum.inr q.1 : Key) = Sum.inr z then _ else _) = _
        by_cases hq : q.1 = z
        · rw [if_pos (by rw [hq])]
          show _ = ((Sum.inr (if q.1 = z then (q.1, h) else q).1 : Key), V.str (if q.1 = z then (q.1, h) else q).2)
          rw [if_pos hq]
        · rw [if_neg (fun k => hq (Sum.inr.inj k))]
          show _ = ((Sum.inr (if q.1 = z then (q.1, h) else q).1 : Key), V.str (if q.1 = z then (q.1, h) else q).2)
          rw [if_neg hq]
      · obtain ⟨q, hq, rfl⟩ := List.mem_map.mp e
        rw [List.any_eq_true]
        exact ⟨(.inr q.1, .str q.2), List.mem_map.mpr ⟨q, hq, rfl⟩, decide_eq_true rfl⟩
    · obtain ⟨u, hu, rfl⟩ := List.mem_map.mp hq
      obtain ⟨n1, n2, n3⟩ := ok.nm u hu
      by_cases hz : u.1 = z
      · rw [if_pos hz]
        exact ⟨n1, nh, hm⟩
      · rw [if_neg hz]
        exact ⟨n1, n2, n3⟩
    · have : (ss.map fun q => if q.1 = z then (q.1, h) else q).map (·.1) = ss.map (·.1) := by
        rw [List.map_map]
        refine List.map_congr_left fun q _ => ?_
        show (if q.1 = z then (q.1, h) else q).1 = q.1
        by_cases hz : q.1 = z
        · rw [if_pos hz]
        · rw [if_neg hz]
      rw [this]
      exact ok.nd
  · refine ⟨ss ++ [(z, h)], ?_, ⟨by rw [List.length_append]; exact Nat.le_trans ok.lo (Nat.le_add_right _ _), ?_, fun q hq => ?_, ?_⟩⟩
    · rw [TP.putK_new]
      · unfold ssK
        rw [List.map_append]
        rfl
      · rw [ss_keys]
        intro k
        obtain ⟨u, hu, hk⟩ := List.mem_map.mp k
        exact e (Sum.inr.inj hk ▸ hu)
    · have := ok.hi
      rw [List.length_append]
      show ss.length + 1 ≤ 21
      omega
    · rcases List.mem_append.mp hq with k | k
      · exact ok.nm q k
      · obtain rfl : q = (z, h) := by simpa using k
        exact ⟨nz, nh, hm⟩
    · rw [List.map_append, List.nodup_append]
      refine ⟨ok.nd, by simp, fun a ha b hb => ?_⟩
      obtain rfl : b = z := by simpa using hb
      exact fun k => e (k ▸ ha)
theorem ss_drop {hs : List Str} {ss : List (Str × Str)} {z : Str} {hi : Nat} (ok : SsM hs ss 1 hi) (h2 : 20 < ss.length) (hz : z ∈ ss.map (·.1)) :
    ∃ ss', dropK (ssK ss) (.inr z) = ssK ss' ∧ SsM hs ss' 1 hi ∧ ss'.length < ss.length := by
  have nd2 : ((ssK ss).map (·.1)).Nodup := by
    rw [ss_keys]
    exact ok.nd.map _ (fun a b n k => n (Sum.inr.inj k))
  have m2 : (Sum.inr z : Key) ∈ (ssK ss).map (·.1) := by
    rw [ss_keys]
    exact List.mem_map.mpr ⟨z, hz, rfl⟩
  have ll := dropK_len nd2 m2
  have e : dropK (ssK ss) (.inr z) = ssK (ss.filter fun q => decide (q.1 ≠ z)) := by
    unfold dropK ssK
    rw [List.filter_map]
    congr 1
    refine List.filter_congr fun q _ => ?_
    show decide ((Sum.inr q.1 : Key) ≠ Sum.inr z) = _
    refine Bool.eq_iff_iff.mpr ?_
    simp
  rw [e] at ll
  have l1 : (ssK (ss.filter fun q => decide (q.1 ≠ z))).length = (ss.filter fun q => decide (q.1 ≠ z)).length := List.length_map ..
  have l2 : (ssK ss).length = ss.length := List.length_map ..
  refine ⟨_, e, ⟨by omega, by have := ok.hi; omega, fun q hq => ok.nm q (List.mem_filter.mp hq).1, ?_⟩, by omega⟩
  exact ok.nd.sublist (List.filter_sublist.map _)
theorem ss_val {ss : List (Str × Str)} {z : Str} (hz : z ∈ ss.map (·.1)) : ∃ s, ssGet ss z = some s ∧ valV (ssK ss) (.inr z) = some (.str s) := by
  have := ssGet_some ss z
  rw [decide_eq_true hz] at this
  obtain ⟨s, hs⟩ := Option.isSome_iff_exists.mp this
  exact ⟨s, hs, by rw [ssGet_val, hs]; rfl⟩
theorem Wl.put {H : Hp} {a c : Addr} {o : HO} {n : Nat} (h : Wl H a n) (ne : c ≠ a) : Wl (upd H c o) a n := by
  obtain ⟨x, y, m, e, r⟩ := h
  exact ⟨x, y, m, by rw [upd_ne (Ne.symm ne)]; exact e, r⟩
/-! ### any thing that is asked for -/
structure Thg (K : PySem.W.Frag) (H : Hp) (v : V) (D : PyData) : Prop where
  dr : Dr K H v D
  sz : Sz 200 3 D
  sh : ∀ z, D = .str z → z.length ≤ 1000000
theorem Thg.ex {K : PySem.W.Frag} {H H' : Hp} {v : V} {D : PyData} (h : Thg K H v D) (e : Evl.Ex H H') : Thg K H' v D := ⟨Dr.ex e _ _ h.dr, h.sz, h.sh⟩
theorem Thg.nm {K : PySem.W.Frag} {H : Hp} {z : Str} (n : NmP z) : Thg K H (.str z) (.str z) :=
  ⟨.str z, (Sz.str n.as).mono (by decide) (by decide), fun y e => by cases e; have := n.hi; omega⟩
theorem inD_has {D : PyData} {hs : List Str} (n : ∀ z ∈ hs, NmP z) : inD D hs = hasD hs D := by
  cases D with
  | str z =>
    rw [inD_str]
    by_cases h : z ∈ hs
    · rw [hasD_yes (n z h)]
    · by_cases k : isNmD (.str z) = true
      · rw [hasD_yes (isNm_iff.mp k)]
      · rw [hasD_no (Bool.eq_false_iff.mpr k), decide_eq_false h]
  | _ => rw [inD_no (fun z e => by cases e), hasD_no rfl]
theorem inD_of {D : PyData} {hs : List Str} (h : inD D hs = true) : ∃ z, D = .str z ∧ z ∈ hs := by
  cases D with
  | str z =>
    rw [inD_str] at h
    exact ⟨z, rfl, of_decide_eq_true h⟩
  | _ => rw [inD_no (fun z e => by cases e)] at h; cases h
theorem dr_strV {K : PySem.W.Frag} {H : Hp} {v : V} {z : Str} (h : Dr K H v (.str z)) : v = .str z := by
  cases h
  rfl
theorem isTx_str (x z : Str) : isTx (.str x) z = decide (z = x) := by
  rw [← isTx_eq]
  by_cases h : z = x
  · subst h
    simp
  · rw [decide_eq_false h]
    simpa using h
theorem told11_rp {L : LandD} {D : PyData} {hs : List Str} (b : Bool) (th : Sz 200 3 D) (rl : L.rq.length ≤ 16) (sok : SsOk hs L.ss) : (told11 L b D).showable = true ∧ (told11 L b D).depth ≤ 50 ∧ (told11 L b D).shown.length ≤ sizeLine := by
  have as4 : As 6 "told" := ⟨by decide, by decide +kernel⟩
  have as5 : As 6 "house" := ⟨by decide, by decide +kernel⟩
  have as6 : As 6 "street" := ⟨by decide, by decide +kernel⟩
  have l4 : Sz 2000 4 (.str "told") := (Sz.str as4).mono (by decide) (by decide)
  have l5 : Sz 2000 4 (.str "house") := (Sz.str as5).mono (by decide) (by decide)
  have l6 : Sz 2000 4 (.str "street") := (Sz.str as6).mono (by decide) (by decide)
  have thm : Sz 2000 4 D := th.mono (by decide) (by decide)
  suffices h : ∃ x y, told11 L b D = .tuple [x, y] ∧ Sz 2000 4 x ∧ Sz 2000 4 y by
    obtain ⟨x, y, e, hx, hy⟩ := h
    rw [e]
    exact (Sz.tup (n := 2) (forall2 hx hy) (Nat.le_refl _)).rp
  unfold told11
  cases b
  · rw [if_neg Bool.false_ne_true]
    by_cases h : hasD (L.ss.map (·.1)) D = true
    · rw [if_pos h]
      refine ⟨_, _, rfl, l4, ?_⟩
      cases e : ssGet L.ss (strOf D) with
      | none => exact (Sz.str (B := 6) ⟨by decide, by decide +kernel⟩).mono (by decide) (by decide)
      | some z =>
        have : ∃ q ∈ L.ss, q.2 = z := by
          have h2 := ssGet_val L.ss (strOf D)
          rw [e] at h2
          unfold valV at h2
          cases f : (ssK L.ss).find? (fun kv => decide (kv.1 = Sum.inr (strOf D))) with
          | none => rw [f] at h2; cases h2
          | some kv =>
            rw [f] at h2
            have m := List.mem_of_find?_eq_some f
            obtain ⟨q, hq, rfl⟩ := List.mem_map.mp m
            refine ⟨q, hq, ?_⟩
            have := Option.some.inj h2
            injection this
        obtain ⟨q, hq, rfl⟩ := this
        exact (Sz.str (sok.nm q hq).2.1.as).mono (by decide) (by decide)
    · rw [if_neg h]
      exact ⟨_, _, rfl, l6, thm⟩
  · rw [if_pos rfl]
    by_cases h : hasD L.hs D = true
    · rw [if_pos h]
      refine ⟨_, _, rfl, l4, ?_⟩
      have hl := rdFrom_len (strOf D) (L.rq.map (·.2)) 0
      rw [List.length_map] at hl
      refine (Sz.lst (n := 16) (B := 100) (k := 0) (fun d hd => ?_) (by rw [List.length_map]; omega)).mono (by decide) (by decide)
      obtain ⟨i, hi, rfl⟩ := List.mem_map.mp hd
      rw [rdFrom_filter] at hi
      obtain ⟨j, hj, rfl⟩ := List.mem_map.mp hi
      have := List.mem_range.mp (List.mem_filter.mp hj).1
      rw [List.length_map] at this
      refine Sz.nat (by omega) ?_
      have : (j : Int) < 16 := by omega
      exact Int.lt_trans this (by decide +kernel)
    · rw [if_neg h]
      exact ⟨_, _, rfl, l5, thm⟩
end TP

namespace Lw
open PySem PySem.Spec PyProof.Rows L2 TP
section
variable {P : Program} {w : World} {K : PySem.W.Frag} {mg : Str → Option Value} {base : Heap}

end
abbrev RwL : PySem.W.OpenRow := PySem.W.OpenLaw.row PySem.Challenge.rw_trailpost_k11_houses_and_streets_not_the
def loose0 : List Str := ["_wall", "PostError", "NoLand", "NoRule", "NoHouse", "NoStreet", "NoDeed", "NoPiece", "LETTERS", "MOST_LETTERS", "is_name", "is_whole", "is_from", "is_between", "is_row", "LEASTS", "Rule", "MOST_HOUSES", "MOST_STREETS", "MOST_ROADS", "LEAST_BINS", "MOST_BINS", "are_houses", "are_streets", "is_road", "are_roads", "are_rules", "reached", "are_tied", "Land"]
def loose1 : List Str := ["_law_well", "_law_draw", "_law_one", "_law_name", "_law_names", "_law_mixed", "_law_roads", "_law_streets", "_law_told"]
def loose : List Str := loose0 ++ loose1
abbrev hk : PySem.W.Hook := hookM 6 fa fn ts ex
def ob (s : PySem.W.SharedT) : AlM := obsM 6 fa fn ts ex (HandSHeadRun.getT s)
theorem ob_eq (s : PySem.W.SharedT) : ob s = hk.obs s.abs := obsM_eq (HandSHeadRun.getT_eq s)
theorem run0 (b : Bool) (w : World) : HandSHeadRun.RunEq RwL (PySem.W.view RwL.prog [44]) hk ob 6000 loose (w.withFollow "special-get-raises" b) := by
  cases b <;> (intro os; kernel_rfl)
theorem run (w : World) : HandSHeadRun.RunEq RwL (PySem.W.view RwL.prog [44]) hk ob 6000 loose w := by
  have h := run0 (w.params.followText "special-get-raises") w
  rwa [World.withFollow_self] at h
end Lw

namespace Lw
open PySem PySem.Spec PyProof.Rows L2 TP
section
variable {P : Program} {w : World} {K : PySem.W.Frag} {mg : Str → Option Value} {base : Heap}

theorem rising_zip : ∀ l : List Int, ((l.zip l.tail).map fun q => decide (q.1 < q.2)).all id = rising l
  | [] => rfl
  | [_] => rfl
  | a :: b :: l => by
    show (decide (a < b) && (((b :: l).zip l).map fun q => decide (q.1 < q.2)).all id) = _
    rw [show ((b :: l).zip l) = ((b :: l).zip (b :: l).tail) from rfl, rising_zip (b :: l)]
    rfl
theorem zip_tail_at {l : List Int} {i : Nat} (h : i + 1 < l.length) : (l.zip l.tail)[i]? = some (l.getD i 0, l.getD (i + 1) 0) := by
  have h1 : l[i]? = some (l.getD i 0) := by
    rw [List.getD_eq_getElem?_getD, List.getElem?_eq_getElem (by omega)]
    rfl
  have h2 : l.tail[i]? = some (l.getD (i + 1) 0) := by
    rw [List.getD_eq_getElem?_getD, List.getElem?_tail, List.getElem?_eq_getElem h]
    rfl
  exact List.getElem?_zip_eq_some.mpr ⟨h1, h2⟩
theorem cut_tail (l : List Int) : cutV (l.map V.int) (some 1) none = l.tail.map V.int := by
  unfold cutV
  cases l with
  | nil => rfl
  | cons a l =>
    simp [HT.sIx]
    exact List.take_of_length_le (by rw [List.length_map]; exact Nat.le_refl _)
theorem ok_are_rules (T : TX w K mg) : Gt P w K mg base CX0 2 "are_rules" ["thing"] (spRules K) := by
  refine gt_mk (D_are_rules T) (g_are_rules T) sc_are_rules rfl (fun _ _ _ _ _ _ us hl => match us, hl with | [_], _ => rfl) (fun vs H Q E h => ?_) (fun f cdv A outer s H vs Q E hr h => ?_)
  · obtain ⟨a, uq, rfl, _⟩ := h
    rfl
  obtain ⟨a, uq, rfl, ha, hq, hl, k⟩ := h
  refine ⟨_, (pss_cons (ps_if (PW.pt (pw_or (pt_not (pt_val ((ok_is_row T).pe (hr.mono (by decide)) (pa_cons (pv 0) pa_nil)))) (pw_or (pt_cmpR op_eq (pe_callB call_len_seq (by rfl) (f_len T) (by decide +kernel) (pa_cons (pv 0) pa_nil)) pe_int (nomark _)) (pw_or1 (pt_not (pt_val (pe_callB (cr_all rfl) (by rfl) (f_all T) (by decide +kernel) (pa_cons (pe_lc (own := [("rule", 1)]) (g := gName 1) (tt := tYes) rfl sc_are_rules.nd (pi_row (pv 0)) (blkOk_by (N := ["thing", "rule", "ticks", "ahead", "behind"]) (sc := defScope s_are_rules) (by decide +kernel)) (fun _ _ _ _ _ => (pg_name (i := 1) sc_are_rules.nd rfl (by first | exact Or.inl rfl | exact Or.inr rfl))) (fun _ _ _ _ _ => pts_nil) (fun _ _ _ _ _ => (pe_callB (show CallR _ _ (rIsi K) from call_isi) (by rfl) (f_isinstance T) (by decide +kernel) (pa_cons (pv 1) (pa_cons (pe_gref (g_Rule T)) pa_nil))))) pa_nil))))))))
      (pss_one (ps_ret pe_bl))
      pss_nil)
    (pss_cons (ps_setLc (i := 2) (own := [("rule", 1)]) (g := gName 1) (tt := tYes) rfl sc_are_rules.nd rfl rfl (sw_true rfl rfl rfl (by decide +kernel)) (pi_row (pv 0)) (blkOk_by (N := ["thing", "rule", "ticks", "ahead", "behind"]) (sc := defScope s_are_rules) (by decide +kernel)) (fun _ _ _ _ _ => (pg_name (i := 1) sc_are_rules.nd rfl (by first | exact Or.inl rfl | exact Or.inr rfl))) (fun _ _ _ _ _ => pts_nil) (fun _ _ _ _ _ => (pe_fldL K (pv 1) rfl)))
    (pss_one (ps_ret (pe_and (pe_cmpR op_eq (pe_ix ix_list (pv 2) pe_int (fun _ _ => rfl)) pe_int (nomark _)) (pe_one (pe_callB (cr_all rfl) (by rfl) (f_all T) (by decide +kernel) (pa_cons (pe_lc (own := [("ahead", 3), ("behind", 4)]) (g := (gTup K 2 (gCons (gName 3) (gCons (gName 4) gNil)))) (tt := tYes) rfl sc_are_rules.nd (pi_zip (by rfl) (f_zip T) (pa_cons (pv 2) (pa_cons (pe_slice sl_list (pv 2) (po_some pe_int) po_none) pa_nil))) (blkOk_by (N := ["thing", "rule", "ticks", "ahead", "behind"]) (sc := defScope s_are_rules) (by decide +kernel)) (fun _ _ _ _ _ => (pg_tup (by rfl) (pgs_cons (pg_name (i := 3) sc_are_rules.nd rfl (by first | exact Or.inl rfl | exact Or.inr rfl)) (pgs_cons (pg_name (i := 4) sc_are_rules.nd rfl (by first | exact Or.inl rfl | exact Or.inr rfl)) pgs_nil)))) (fun _ _ _ _ _ => pts_nil) (fun _ _ _ _ _ => (pe_cmpR op_lt (pv 3) (pv 4) (nomark _)))) pa_nil)))))))), ?_⟩
  obtain ⟨t, ht, hb, ty⟩ := ha.ty
  have hln : (uqV uq).length = uq.length := List.length_map ..
  have C := cl_Rule T
  refine ⟨_, rfl, .ref a, t, rfl, ht, ty, fun H1 e1 => ⟨_, rfl, ?_⟩⟩
  rw [hb]
  have ha1 := ha.ex e1
  refine iteF ⟨_, rfl, a, _, rfl, ha1, rfl, _, rfl, ite2 (fun b => ?_) (fun b => ?_)⟩
  · have e0 : uq = [] := by
      have := V.int.inj (of_decide_eq_true b)
      rw [hln] at this
      cases uq with
      | nil => rfl
      | cons q l =>
        rw [List.length_cons] at this
        omega
    subst e0
    exact k H1 e1
  have hne : uq.length ≠ 0 := fun z => b (decide_eq_true (by rw [hln, z]; rfl))
  refine ⟨_, rfl, a, _, rfl, ha1, fun J hJ => ?_⟩
  obtain ⟨G, w, hG⟩ := walk_row hJ
  refine fun D hD => lc_true w hD (by rw [hln]; omega) (fun H' he => hG H' (fun o q => he _ _ q)) (fun i v H2 H3 C N hi he hy hc => ?_) (fun H2 he hD2 => ?_)
  · obtain ⟨rfl, hv⟩ := hy
    obtain ⟨q, hq1, rfl⟩ := map_at hv
    obtain ⟨dx, q1⟩ := hq q (List.mem_of_getElem? hq1)
    exact ⟨rfl, yes_ok ⟨_, rfl, _, _, _, _, true, rfl, .own _, (in_Rule T).ty (cl_Rule T) ((e1.trans he) _ _ q1), (in_Rule T).hk, hc _ (Evl.Ex.refl _)⟩⟩
  refine ⟨D, _, rfl, SqL.of hD2, ?_⟩
  rw [allT]
  refine ⟨_, rfl, iteF ?_⟩
  have ha2 := ha1.ex he
  have e2 := e1.trans he
  refine ⟨_, rfl, a, _, rfl, ha2, fun J2 hJ2 => ?_⟩
  obtain ⟨G2, w2, hG2⟩ := walk_row hJ2
  let ts : List Int := uq.map fun q => q.2.s
  refine fun D3 hD3 => lc_fm w2 (fun _ => true) (fun i => .int (ts.getD i 0)) hD3 (by rw [hln]; omega) (fun H' he => hG2 H' (fun o q => he _ _ q)) (fun i v H4 H5 C' N hi he4 hy hc _ => ?_) (fun H4 he4 hD4 => ?_)
  · obtain ⟨rfl, hv⟩ := hy
    obtain ⟨q, hq1, rfl⟩ := map_at hv
    obtain ⟨dx, q1⟩ := hq q (List.mem_of_getElem? hq1)
    refine ⟨rfl, yes_ok ⟨_, rfl, q.1, _, dx, _, _, rfl, (e2.trans he4) _ _ q1, C, na_Rule_since T, rfl, ?_⟩⟩
    have q2 := hc rfl _ (Evl.Ex.refl _)
    rw [show ts.getD i 0 = q.2.s by rw [List.getD_eq_getElem?_getD, List.getElem?_map, hq1]; rfl] at q2
    exact q2
  have hts : ts.length = uq.length := List.length_map ..
  have hD5 : H4 D3 = some (.lst (ts.map V.int)) := by
    rw [hD4, filter_yes, hln, ← hts]
    exact congrArg (fun z => some (HO.lst z)) (range_map_get V.int 0 ts)
  have e4 := e2.trans he4
  obtain ⟨t0, tl, htl⟩ : ∃ t0 tl, ts = t0 :: tl := by
    cases h : ts with
    | nil =>
      rw [h] at hts
      simp at hts
      omega
    | cons x l => exact ⟨x, l, rfl⟩
  have kk : ∀ H', Evl.Ex H H' → Q (.bl (decide (t0 = 0) && rising ts)) H' := fun H' e => by
    have q := k H' e
    rw [show rulesOk (uq.map fun q => q.2.s) = (decide (t0 = 0) && rising ts) by
      show rulesOk ts = _
      rw [htl]
      rfl] at q
    exact q
  refine ⟨_, rfl, D3, _, _, _, rfl, rfl, SqL.of hD5, (show atI (ts.map V.int) 0 = some (.int t0) from atI_nat (j := 0) (by rw [htl]; rfl)), rfl, _, rfl, ite2 (fun b0 => ?_) (fun b0 => ?_)⟩
  · have t00 : t0 = 0 := V.int.inj (of_decide_eq_true b0)
    refine ⟨_, rfl, _, rfl, _, rfl, D3, _, rfl, SqL.of hD5, fun S hS => ?_⟩
    generalize hH_ : upd H4 S _ = H6
    have x6 : Evl.Ex H4 H6 := (by rw [← hH_]; exact Evl.Ex.new hS)
    have g6 := (congrFun hH_ S).symm
    rw [upd_same] at g6
    clear hH_
    rw [cut_tail] at g6
    have hD6 := x6 _ _ hD5
    have hz : ts.length - 1 = min (ts.map V.int).length (ts.tail.map V.int).length := by
      have l1 : (ts.map V.int).length = ts.length := List.length_map ..
      have l2 : (ts.tail.map V.int).length = ts.length - 1 := by rw [List.length_map, List.length_tail]
      omega
    refine ⟨D3, S, _, _, rfl, SqL.of hD6, SqL.of g6, fun D7 hD7 => ?_⟩
    refine lc_fm (walk_zip (K := K) (a := D3) (b := S) (xs := ts.map V.int) (ys := ts.tail.map V.int) (n := ts.length - 1) hz) (fun _ => true) (fun i => .bl (decide (ts.getD i 0 < ts.getD (i + 1) 0))) hD7 ?_ (fun H' he => ⟨SqL.of (he _ _ hD6), SqL.of (he _ _ g6)⟩) (fun i v H7 H8 C' N hi he7 hy hc _ => ?_) (fun H7 he7 hD8 => ?_)
    · rw [hts]
      omega
    · obtain ⟨T', y1, y2, rfl, hT, rfl, hy1, hy2⟩ := hy
      dsimp only at hy1 hy2
      obtain ⟨j1, hj1, rfl⟩ := map_at hy1
      obtain ⟨j2, hj2, rfl⟩ := map_at hy2
      have i1 : ts.getD i 0 = j1 := by rw [List.getD_eq_getElem?_getD, hj1]; rfl
      have i2 : ts.getD (i + 1) 0 = j2 := by
        rw [List.getElem?_tail] at hj2
        rw [List.getD_eq_getElem?_getD, hj2]
        rfl
      generalize hH_ : upd H7 T' _ = H9
      have x9 : Evl.Ex H7 H9 := (by rw [← hH_]; exact Evl.Ex.new hT)
      have g9 := (congrFun hH_ T').symm
      rw [upd_same] at g9
      clear hH_
      refine ⟨T', _, rfl, SqT.of g9, rfl, _, _, rfl, _, _, rfl, rfl, rfl, yes_ok ⟨_, rfl, _, rfl, _, _, rfl, rfl, ?_⟩⟩
      have q := hc rfl H9 x9
      rw [i1, i2] at q
      exact q
    · refine ⟨D7, (ts.zip ts.tail).map fun q => decide (q.1 < q.2), rfl, SqL.of ?_, ?_⟩
      · rw [hD8, filter_yes]
        refine congrArg (fun z => some (HO.lst z)) (List.ext_getElem? fun i => ?_)
        rw [List.map_map, List.getElem?_map, List.getElem?_map]
        by_cases hi : i < ts.length - 1
        · rw [List.getElem?_range hi, zip_tail_at (by omega)]
          rfl
        · rw [List.getElem?_eq_none (by rw [List.length_range]; omega), List.getElem?_eq_none (by rw [List.length_zip, List.length_tail]; omega)]
          rfl
      · rw [rising_zip]
        have q := kk H7 (e4.trans (x6.trans he7))
        rw [decide_eq_true t00] at q
        exact q
  · have q := kk H4 e4
    rw [show decide (t0 = 0) = false from decide_eq_false (fun z => b0 (decide_eq_true (by rw [z])))] at q
    exact q

theorem ok_reached (T : TX w K mg) : Gt P w K mg base CX0 1 "reached" ["pairs", "house"] (spReached K) := by
  refine gt_mk (D_reached T) (g_reached T) sc_reached rfl (fun _ _ _ _ _ _ us hl => match us, hl with | [_, _], _ => rfl) (fun vs H Q E h => ?_) (fun f cdv A outer s H vs Q E hr h => ?_)
  · obtain ⟨a, pq, h, rfl, _⟩ := h
    rfl
  obtain ⟨a, pq, h, rfl, ha, hq, hl, k⟩ := h
  refine ⟨_, (pss_cons (ps_set (i := 2) sc_reached.nd rfl (by first | exact Or.inl rfl | exact Or.inr rfl) (pe_lst (pa_cons (pv 1) pa_nil)))
    (pss_cons (ps_set (i := 3) sc_reached.nd rfl (by first | exact Or.inl rfl | exact Or.inr rfl) pe_int)
    (pss_cons (ps_while PassesOwn.never (pt_cmpR op_lt (pv 3) (pe_callB call_len_seq (by rfl) (f_len T) (by decide +kernel) (pa_cons (pv 2) pa_nil)) (nomark _))
      (pss_cons (ps_for PassesOwn.never rfl (pi_list (pv 0)) (pg_tup (by rfl) (pgs_cons (pg_name (i := 4) sc_reached.nd rfl (by first | exact Or.inl rfl | exact Or.inr rfl)) (pgs_cons (pg_name (i := 5) sc_reached.nd rfl (by first | exact Or.inl rfl | exact Or.inr rfl)) pgs_nil)))
      (pss_one (ps_if (PW.pt (pw_and (pt_cmpR op_eq (pv 4) (pe_ix ix_list (pv 2) (pv 3) (fun _ _ => rfl)) (nomark _)) (pw_and1 (pt_cmpR op_notIn_seq (pv 5) (pv 2) (by rfl)))))
      (pss_one (ps_expr (pe_bm PySem.F.plainAttrs_list PySem.F.slot_list_append PySem.F.type_list_append mt_append (pv 2) (pa_cons (pv 5) pa_nil))))
      pss_nil)))
    (pss_one (ps_aug (i := 3) sc_reached.nd rfl (by first | exact Or.inl rfl | exact Or.inr rfl) pe_int ip_add))))
    (pss_one (ps_ret (pv 2)))))), ?_⟩
  have hln : (pqV pq).length = pq.length := List.length_map ..
  have hpl : (pqP pq).length = pq.length := List.length_map ..
  refine ⟨_, rfl, (by show 1 ≤ sizeLine; decide), fun l hl0 => ?_⟩
  have nla : ∀ o, H a = some o → a ≠ l := fun o z => ne_of_none z hl0
  -- what stands at each turn
  let Kp : Hp → Prop := fun H' => ∀ b o, b ≠ l → H b = some o → H' b = some o
  have kA : ∀ {H'}, Kp H' → SqL K H' a (pqV pq) := fun kp => sql_stay (fun o q => kp a o (nla o q) q) ha
  have kT : ∀ {H'}, Kp H' → ∀ q ∈ pq, SqT K H' q.1 [.str q.2.1, .str q.2.2] := fun {H'} kp q hq1 => sqt_stay (fun o z => kp q.1 o (ne_of_none z hl0) z) (hq q hq1)
  have bound : ∀ f : List Str, f.Nodup → (∀ z ∈ f, Rc (pqP pq) h z) → f.length ≤ pq.length + 1 := fun f nd hf => by
    have sub : f ⊆ h :: (pqP pq).map (·.2) := fun z hz => by
      cases hf z hz with
      | here => exact List.mem_cons_self ..
      | step _ m => exact List.mem_cons_of_mem _ (List.mem_map.mpr ⟨_, m, rfl⟩)
    have := nd.length_le_of_subset sub
    rw [List.length_cons, List.length_map, hpl] at this
    exact this
  refine while_by (fun σ H' => ∃ (f : List Str) (i : Nat) (u4 u5 : Option V), σ = [some (.ref a), some (.str h), some (.ref l), some (.int i), u4, u5] ∧ Kp H' ∧ H' l = some (.lst (f.map V.str)) ∧ f.Nodup ∧ h ∈ f ∧ (∀ z ∈ f, Rc (pqP pq) h z) ∧ i ≤ f.length ∧
      ∀ j z, j < i → f[j]? = some z → ∀ g, (z, g) ∈ pqP pq → g ∈ f)
    (fun σ _ => match σ with | [_, _, _, some (.int i), _, _] => pq.length + 2 - i.toNat | _ => 0) ⟨[h], 0, none, none, rfl, fun b o nb z => by rw [upd_ne nb]; exact z, upd_same, by simp, by simp, fun z hz => by
      obtain rfl : z = h := by simpa using hz
      exact .here, by simp, fun j z hj => by omega⟩ ?_ ?_
  · rintro σ H1 ⟨f, i, u4, u5, rfl, kp, hf, nd, hh, hr, hi, hc⟩
    have hfl : (f.map V.str).length = f.length := List.length_map ..
    have hb := bound f nd hr
    refine ⟨_, rfl, _, rfl, l, _, rfl, .inl (SqL.of hf), _, _, rfl, rfl, _, rfl, ite2 (fun b => ?_) (fun b => ?_)⟩
    · have lt : i < f.length := by
        have := of_decide_eq_true b
        rw [hfl] at this
        omega
      obtain ⟨zi, hzi⟩ : ∃ z, f[i]? = some z := ⟨_, List.getElem?_eq_getElem lt⟩
      refine ⟨_, rfl, a, rfl, ⟨_, kA kp⟩, for_list (K := K) (a := a) (xs := pqV pq) (fun j σ H' => ∃ (f2 : List Str) (u4 u5 : Option V), σ = [some (.ref a), some (.str h), some (.ref l), some (.int i), u4, u5] ∧ Kp H' ∧ H' l = some (.lst (f2.map V.str)) ∧ f2.Nodup ∧ (∀ z ∈ f2, Rc (pqP pq) h z) ∧ f <+: f2 ∧
          ∀ m q, m < j → pq[m]? = some q → q.2.1 = zi → q.2.2 ∈ f2) ⟨f, u4, u5, rfl, kp, hf, nd, hr, List.prefix_refl f, fun m q hm => by omega⟩ (fun j σ H' _ q => by obtain ⟨_, _, _, _, kp, _⟩ := q; exact kA kp) ?_ ?_⟩
      · rintro j x σ H2 hx ⟨f2, u4, u5, rfl, kp2, hf2, nd2, hr2, pre, hd⟩
        obtain ⟨q, hq1, rfl⟩ := map_at hx
        have hqm : q ∈ pq := List.mem_of_getElem? hq1
        have hz2 : f2[i]? = some zi := by
          obtain ⟨r, rfl⟩ := pre
          rw [List.getElem?_append_left lt]
          exact hzi
        refine ⟨q.1, _, rfl, kT kp2 q hqm, rfl, _, _, rfl, _, _, rfl, rfl, ?_⟩
        have hat : atI (f2.map V.str) (i : Int) = some (.str zi) := atI_nat (j := i) (by rw [List.getElem?_map, hz2]; rfl)
        have next : ∀ (f3 : List Str) (H3 : Hp), Kp H3 → H3 l = some (.lst (f3.map V.str)) → f3.Nodup → (∀ z ∈ f3, Rc (pqP pq) h z) → f2 <+: f3 → (q.2.1 = zi → q.2.2 ∈ f3) →
            ∃ (f2 : List Str) (v4 v5 : Option V), [some (V.ref a), some (.str h), some (.ref l), some (.int i), some (.str q.2.1), some (.str q.2.2)] = [some (.ref a), some (.str h), some (.ref l), some (.int i), v4, v5] ∧ Kp H3 ∧ H3 l = some (.lst (f2.map V.str)) ∧ f2.Nodup ∧ (∀ z ∈ f2, Rc (pqP pq) h z) ∧ f <+: f2 ∧
              ∀ m q, m < j + 1 → pq[m]? = some q → q.2.1 = zi → q.2.2 ∈ f2 := fun f3 H3 k3 h3 n3 r3 p3 hn => by
          refine ⟨f3, _, _, rfl, k3, h3, n3, r3, pre.trans p3, fun m q' hm hq' e => ?_⟩
          rcases Nat.lt_or_ge m j with h | h
          · exact p3.subset (hd m q' h hq' e)
          · have : m = j := by omega
            rw [this, hq1] at hq'
            obtain rfl := Option.some.inj hq'
            exact hn e
        refine ⟨_, rfl, _, rfl, _, rfl, l, _, _, _, rfl, rfl, SqL.of hf2, hat, rfl, _, rfl, ite2 (fun b1 => ?_) (fun b1 => ?_)⟩
        · have e1 : q.2.1 = zi := V.str.inj (of_decide_eq_true b1)
          refine ⟨_, rfl, _, rfl, l, _, rfl, .inl (SqL.of hf2), rfl, flat_strs' f2, ?_⟩
          rw [show (if true = true then !inV (.str q.2.2) (f2.map V.str) else inV (.str q.2.2) (f2.map V.str)) = !decide (q.2.2 ∈ f2) by rw [if_pos rfl, inV_str]]
          refine ⟨_, rfl, ite2 (fun b2 => ?_) (fun b2 => ?_)⟩
          · have nin : q.2.2 ∉ f2 := fun z => by
              rw [decide_eq_true z] at b2
              cases b2
            have hb2 := bound f2 nd2 hr2
            refine ⟨_, rfl, .inl ⟨rfl, _, SqL.of hf2⟩, _, rfl, l, _, _, rfl, rfl, hf2, ?_, ?_⟩
            · rw [List.length_map]
              have : sizeLine = 16777216 := sizeLine_eq
              omega
            refine next (f2 ++ [q.2.2]) _ (fun b o nb z => by rw [upd_ne nb]; exact kp2 b o nb z) (by rw [upd_same, List.map_append]; rfl) ?_ ?_ (List.prefix_append ..) (fun _ => List.mem_append_right _ (by simp))
            · refine List.nodup_append.mpr ⟨nd2, by simp, fun x hx y hy => ?_⟩
              have : y = q.2.2 := by simpa using hy
              rw [this]
              exact fun z => nin (by rw [← z]; exact hx)
            · intro z hz
              rcases List.mem_append.mp hz with h1 | h1
              · exact hr2 z h1
              · obtain rfl : z = q.2.2 := by simpa using h1
                refine .step (b := zi) (hr zi (List.mem_of_getElem? hzi)) ?_
                rw [← e1]
                exact List.mem_map.mpr ⟨q, hqm, rfl⟩
          · have yin : q.2.2 ∈ f2 := by
              by_cases z : q.2.2 ∈ f2
              · exact z
              · exact absurd (by rw [decide_eq_false z]; rfl) b2
            exact next f2 _ kp2 hf2 nd2 hr2 (List.prefix_refl _) (fun _ => yin)
        · exact next f2 _ kp2 hf2 nd2 hr2 (List.prefix_refl _) (fun e => absurd (decide_eq_true (by rw [e])) b1)
      · rintro σ H2 ⟨f2, u4, u5, rfl, kp2, hf2, nd2, hr2, pre, hd⟩
        rw [hln] at hd
        refine ⟨_, rfl, _, _, rfl, rfl, ⟨f2, i + 1, _, _, rfl, kp2, hf2, nd2, pre.subset hh, hr2, ?_, fun j z hj hz g hg => ?_⟩, ?_⟩
        · have := pre.length_le
          omega
        · rcases Nat.lt_or_ge j i with h1 | h1
          · have hz' : f[j]? = some z := by
              obtain ⟨r, rfl⟩ := pre
              rw [List.getElem?_append_left (by omega)] at hz
              exact hz
            exact pre.subset (hc j z h1 hz' g hg)
          · have hji : j = i := by omega
            have hzz : z = zi := by
              obtain ⟨r, rfl⟩ := pre
              rw [hji, List.getElem?_append_left lt, hzi] at hz
              exact (Option.some.inj hz).symm
            obtain ⟨q, hqm, e⟩ := List.mem_map.mp hg
            obtain ⟨m, hm⟩ := List.mem_iff_getElem?.mp hqm
            have h1 := hd m q (List.getElem?_eq_some_iff.mp hm).1 hm (by rw [e]; exact hzz)
            rw [e] at h1
            exact h1
        · show pq.length + 2 - ((i : Int) + 1).toNat < pq.length + 2 - (i : Int).toNat
          omega
    · have ge : ¬ i < f.length := fun z => b (decide_eq_true (by rw [hfl]; omega))
      refine ⟨_, rfl, k l f H1 (fun b o z => kp b o (ne_of_none z hl0) z) hf nd (fun z => ⟨hr z, fun r => ?_⟩) (by omega)⟩
      induction r with
      | here => exact hh
      | step _ m ih =>
        obtain ⟨j, hj⟩ := List.mem_iff_getElem?.mp ih
        exact hc j _ (by have := (List.getElem?_eq_some_iff.mp hj).1; omega) hj _ m
  · intro σ H' Q1 Q2 hQ h1
    obtain ⟨v, e1, v2, e2, p, ys, e3, r, i, j, e4, e5, c, e6, q⟩ := h1
    exact ⟨v, e1, v2, e2, p, ys, e3, r, i, j, e4, e5, c, e6, hQ _ _ q⟩

theorem sw_rd (rq : List (Addr × RD)) : sw (rdP rq) = rq.map fun q => (q.2.g, q.2.b) := by
  unfold sw rdP
  rw [List.map_map]
  rfl
theorem ok_are_tied (T : TX w K mg) : Gt P w K mg base CX0 2 "are_tied" ["houses", "roads"] (spTied K) := by
  refine gt_mk (D_are_tied T) (g_are_tied T) sc_are_tied rfl (fun _ _ _ _ _ _ us hl => match us, hl with | [_, _], _ => rfl) (fun vs H Q E h => ?_) (fun f cdv A outer s H vs Q E hr h => ?_)
  · obtain ⟨h, a, hs, rq, rfl, _⟩ := h
    rfl
  obtain ⟨h, a, hs, rq, rfl, hrow, ok, ha, hq, hl, k⟩ := h
  refine ⟨_, (pss_cons (ps_setLc (i := 2) (own := [("road", 3)]) (g := gName 3) (tt := tYes) rfl sc_are_tied.nd rfl rfl (sw_true rfl rfl rfl (by decide +kernel)) (pi_row (pv 1)) (blkOk_by (N := ["houses", "roads", "there", "road", "back", "begin", "goal", "pairs"]) (sc := defScope s_are_tied) (by decide +kernel)) (fun _ _ _ _ _ => (pg_name (i := 3) sc_are_tied.nd rfl (by first | exact Or.inl rfl | exact Or.inr rfl))) (fun _ _ _ _ _ => pts_nil) (fun _ _ _ _ _ => (pe_slice (show SlR _ (rSlA K) from sl_tupA) (pv 3) po_none (po_some pe_int))))
    (pss_cons (ps_setLc (i := 4) (own := [("begin", 5), ("goal", 6)]) (g := (gTup K 2 (gCons (gName 5) (gCons (gName 6) gNil)))) (tt := tYes) rfl sc_are_tied.nd rfl rfl (sw_true rfl rfl rfl (by decide +kernel)) (pi_list (pv 2)) (blkOk_by (N := ["houses", "roads", "there", "road", "back", "begin", "goal", "pairs"]) (sc := defScope s_are_tied) (by decide +kernel)) (fun _ _ _ _ _ => (pg_tup (by rfl) (pgs_cons (pg_name (i := 5) sc_are_tied.nd rfl (by first | exact Or.inl rfl | exact Or.inr rfl)) (pgs_cons (pg_name (i := 6) sc_are_tied.nd rfl (by first | exact Or.inl rfl | exact Or.inr rfl)) pgs_nil)))) (fun _ _ _ _ _ => pts_nil) (fun _ _ _ _ _ => (pe_tup (pa_cons (pv 6) (pa_cons (pv 5) pa_nil)))))
    (pss_one (ps_ret (pe_callB (cr_all rfl) (by rfl) (f_all T) (by decide +kernel) (pa_cons (pe_lc (own := [("pairs", 7)]) (g := gName 7) (tt := tYes) rfl sc_are_tied.nd (pi_tup (pe_tup (pa_cons (pv 2) (pa_cons (pv 4) pa_nil)))) (blkOk_by (N := ["houses", "roads", "there", "road", "back", "begin", "goal", "pairs"]) (sc := defScope s_are_tied) (by decide +kernel)) (fun _ _ _ _ _ => (pg_name (i := 7) sc_are_tied.nd rfl (by first | exact Or.inl rfl | exact Or.inr rfl))) (fun _ _ _ _ _ => pts_nil) (fun _ _ _ _ _ => (pe_cmpR op_eq (pe_callB (show CallR _ _ (rLenS K) from call_lenS) (by rfl) (f_len T) (by decide +kernel) (pa_cons ((ok_reached T).pe (hr.mono (by decide)) (pa_cons (pv 7) (pa_cons (pe_ix (r := rIx K) ix_seq (pv 0) pe_int (fun _ _ => rfl)) pa_nil))) pa_nil)) (pe_callB (show CallR _ _ (rLenS K) from call_lenS) (by rfl) (f_len T) (by decide +kernel) (pa_cons (pv 0) pa_nil)) (nomark _)))) pa_nil)))))), ?_⟩
  have lo := ok.lo
  have hi := ok.hi
  have hln : (rqV rq).length = rq.length := List.length_map ..
  obtain ⟨h0, hh0⟩ : ∃ h0, hs[0]? = some h0 := ⟨_, List.getElem?_eq_getElem (by omega)⟩
  have h0m : h0 ∈ hs := List.mem_of_getElem? hh0
  have hhd : hs.head? = some h0 := by rw [List.head?_eq_getElem?]; exact hh0
  -- there
  refine ⟨_, rfl, a, _, rfl, ha, fun J hJ => ?_⟩
  obtain ⟨G, w, hG⟩ := walk_row hJ
  refine fun D hD => lc_acc w (fun i acc H' => Evl.Ex H H' ∧ ∃ ps : List Addr, acc = ps.map V.ref ∧ ps.length = i ∧ ∀ j p q, ps[j]? = some p → rq[j]? = some q → H' p = some (.tup [.str q.2.b, .str q.2.g])) hD (by rw [hln]; omega)
    (fun i acc H' q => by obtain ⟨_, ps, rfl, h, _⟩ := q; rw [List.length_map]; omega) ⟨Evl.Ex.refl _, [], rfl, rfl, fun (j : Nat) p q h _ => nil_at h⟩ (fun i acc H' h1 q => hG H' fun o z => hid_ex _ _ (q.1 _ _ z)) (fun i x H2 H3 acc C N hi hD2 hI hy hc _ => ?_) (fun H2 acc hD2 hI => ?_)
  · obtain ⟨rfl, hv⟩ := hy
    obtain ⟨q, hq1, rfl⟩ := map_at hv
    obtain ⟨e2, ps, rfl, hpl, hp⟩ := hI
    have q1 := sqt_ex (hq q (List.mem_of_getElem? hq1)).1 (e2.trans hid_ex)
    refine ⟨rfl, yes_ok ⟨_, rfl, _, rfl, q.1, _, rfl, q1, fun z => ?_, fun _ p hp2 => ?_⟩⟩
    · exact absurd z.2 (by show ¬ (2 : Nat) = 5; decide)
    · skip
      generalize hH_ : upd H3 p _ = H4
      have x4 : Evl.Ex H3 H4 := (by rw [← hH_]; exact Evl.Ex.new hp2)
      have g4 := (congrFun hH_ p).symm
      rw [upd_same] at g4
      clear hH_
      have nD : p ≠ D := fun z => by
        rw [z, hD2] at hp2
        cases hp2
      refine hc _ _ (x4 _ _ hD2) ⟨e2.trans (Ex.hid x4), ps ++ [p], by rw [List.map_append]; rfl, by rw [List.length_append, hpl]; rfl, fun j p' q' h1 h2 => ?_⟩
      rcases snoc_at h1 with h | ⟨h, rfl⟩
      · exact Ex.hid x4 _ _ (hp j p' q' h h2)
      · rw [h, hpl, hq1] at h2
        obtain rfl := Option.some.inj h2
        rw [hid_ne nD, g4]
        rfl
  obtain ⟨e2, ps, rfl, hpl, hp⟩ := hI
  have eA : Evl.Ex H H2 := e2.trans hid_ex
  have hpA : ∀ (j : Nat) (p : Addr) (q : Addr × RD), ps[j]? = some p → rq[j]? = some q → H2 p = some (.tup [.str q.2.b, .str q.2.g]) := fun j p q h1 h2 => hid_ex _ _ (hp j p q h1 h2)
  rw [hln] at hpl
  have hpml : (ps.map V.ref).length = rq.length := by rw [List.length_map, hpl]
  have rqat : ∀ {j : Nat} {p : Addr}, ps[j]? = some p → ∃ q, rq[j]? = some q := fun {j p} h => ⟨_, List.getElem?_eq_getElem (by have := (List.getElem?_eq_some_iff.mp h).1; omega)⟩
  -- back
  refine ⟨_, rfl, D, rfl, ⟨_, SqL.of hD2⟩, fun B hB => ?_⟩
  refine lc_acc (walk_list (K := K) (a := D) (xs := ps.map V.ref)) (fun i acc H' => Evl.Ex H2 H' ∧ ∃ bs : List Addr, acc = bs.map V.ref ∧ bs.length = i ∧ ∀ j p q, bs[j]? = some p → rq[j]? = some q → H' p = some (.tup [.str q.2.g, .str q.2.b])) hB (by rw [hpml]; omega)
    (fun i acc H' q => by obtain ⟨_, ps, rfl, h, _⟩ := q; rw [List.length_map]; omega) ⟨Evl.Ex.refl _, [], rfl, rfl, fun (j : Nat) p q h _ => nil_at h⟩ (fun i acc H' h1 q => SqL.of (hid_ex _ _ (q.1 _ _ hD2))) (fun i x H3 H4 acc C N hi hB2 hI hy hc _ => ?_) (fun H3 acc hB2 hI => ?_)
  · obtain ⟨rfl, hv⟩ := hy
    obtain ⟨p, hp1, rfl⟩ := map_at hv
    obtain ⟨q, hq1⟩ := rqat hp1
    obtain ⟨e3, bs, rfl, hbl, hb⟩ := hI
    have q1 : H4 p = some (.tup [.str q.2.b, .str q.2.g]) := (e3.trans hid_ex) _ _ (hpA i p q hp1 hq1)
    refine ⟨p, _, rfl, SqT.of q1, rfl, _, _, rfl, _, _, rfl, rfl, rfl, yes_ok ⟨_, rfl, _, rfl, (by show 2 ≤ sizeLine; decide), fun p2 hp2 => ?_⟩⟩
    generalize hH_ : upd H4 p2 _ = H5
    have x5 : Evl.Ex H4 H5 := (by rw [← hH_]; exact Evl.Ex.new hp2)
    have g5 := (congrFun hH_ p2).symm
    rw [upd_same] at g5
    clear hH_
    have nB : p2 ≠ B := fun z => by
      rw [z, hB2] at hp2
      cases hp2
    refine hc _ _ (x5 _ _ hB2) ⟨e3.trans (Ex.hid x5), bs ++ [p2], by rw [List.map_append]; rfl, by rw [List.length_append, hbl]; rfl, fun j p' q' h1 h2 => ?_⟩
    rcases snoc_at h1 with h | ⟨h, rfl⟩
    · exact Ex.hid x5 _ _ (hb j p' q' h h2)
    · rw [h, hbl, hq1] at h2
      obtain rfl := Option.some.inj h2
      rw [hid_ne nB, g5]
  obtain ⟨e3, bs, rfl, hbl, hb⟩ := hI
  rw [hpml] at hbl
  have eB : Evl.Ex H2 H3 := e3.trans hid_ex
  have hbA : ∀ (j : Nat) (p : Addr) (q : Addr × RD), bs[j]? = some p → rq[j]? = some q → H3 p = some (.tup [.str q.2.g, .str q.2.b]) := fun j p q h1 h2 => hid_ex _ _ (hb j p q h1 h2)
  have rqbt : ∀ {j : Nat} {p : Addr}, bs[j]? = some p → ∃ q, rq[j]? = some q := fun {j p} h => ⟨_, List.getElem?_eq_getElem (by have := (List.getElem?_eq_some_iff.mp h).1; omega)⟩
  -- the two rows of pairs
  refine ⟨_, rfl, _, rfl, (by show 2 ≤ sizeLine; decide), fun tp htp => ?_⟩
  generalize hH_ : upd H3 tp _ = H4
  have x4 : Evl.Ex H3 H4 := (by rw [← hH_]; exact Evl.Ex.new htp)
  have g4 := (congrFun hH_ tp).symm
  rw [upd_same] at g4
  clear hH_
  have eC := eA.trans (eB.trans x4)
  let pq1 : List (Addr × Str × Str) := ps.zip (rq.map fun q => (q.2.b, q.2.g))
  let pq2 : List (Addr × Str × Str) := bs.zip (rq.map fun q => (q.2.g, q.2.b))
  have z1 : pqV pq1 = ps.map V.ref := by
    show (List.zip ps _).map _ = _
    rw [show (fun q : Addr × Str × Str => V.ref q.1) = V.ref ∘ Prod.fst from rfl, ← List.map_map, List.map_fst_zip (by rw [List.length_map]; omega)]
  have z2 : pqV pq2 = bs.map V.ref := by
    show (List.zip bs _).map _ = _
    rw [show (fun q : Addr × Str × Str => V.ref q.1) = V.ref ∘ Prod.fst from rfl, ← List.map_map, List.map_fst_zip (by rw [List.length_map]; omega)]
  have y1 : pqP pq1 = rdP rq := by
    show (List.zip ps _).map _ = _
    rw [List.map_snd_zip (by rw [List.length_map]; omega)]
    rfl
  have y2 : pqP pq2 = sw (rdP rq) := by
    show (List.zip bs _).map _ = _
    rw [List.map_snd_zip (by rw [List.length_map]; omega), sw_rd]
  have w1 : ∀ q ∈ pq1, H4 q.1 = some (.tup [.str q.2.1, .str q.2.2]) := fun q hq => by
    obtain ⟨j, hj⟩ := List.mem_iff_getElem?.mp hq
    obtain ⟨a1, a2⟩ := List.getElem?_zip_eq_some.mp hj
    obtain ⟨r, hr1, hr2⟩ := map_at a2
    rw [hr2]
    exact (eB.trans x4) _ _ (hpA j q.1 r a1 hr1)
  have w2 : ∀ q ∈ pq2, H4 q.1 = some (.tup [.str q.2.1, .str q.2.2]) := fun q hq => by
    obtain ⟨j, hj⟩ := List.mem_iff_getElem?.mp hq
    obtain ⟨a1, a2⟩ := List.getElem?_zip_eq_some.mp hj
    obtain ⟨r, hr1, hr2⟩ := map_at a2
    rw [hr2]
    exact x4 _ _ (hbA j q.1 r a1 hr1)
  have l1 : pq1.length = rq.length := by
    show (List.zip ps _).length = _
    rw [List.length_zip, List.length_map]
    omega
  have l2 : pq2.length = rq.length := by
    show (List.zip bs _).length = _
    rw [List.length_zip, List.length_map]
    omega
  have hD4 : H4 D = some (.lst (pqV pq1)) := by rw [z1]; exact (eB.trans x4) _ _ hD2
  have hB4 : H4 B = some (.lst (pqV pq2)) := by rw [z2]; exact x4 _ _ hB2
  have m1 : ∀ q ∈ pqP pq1, q.2 ∈ hs := fun q hq' => by
    rw [y1] at hq'
    obtain ⟨r, hr1, rfl⟩ := List.mem_map.mp hq'
    exact (hq r hr1).2.hg
  have m2 : ∀ q ∈ pqP pq2, q.2 ∈ hs := fun q hq' => by
    rw [y2, sw_rd] at hq'
    obtain ⟨r, hr1, rfl⟩ := List.mem_map.mp hq'
    exact (hq r hr1).2.hb
  have hsl : (hs.map V.str).length = hs.length := List.length_map ..
  let F : Nat → List (Addr × Str × Str) := fun i => if i = 0 then pq1 else pq2
  refine ⟨tp, rfl, ⟨_, SqT.of g4⟩, fun L hL => lc_acc (walk_tup (K := K) (a := tp) (xs := [.ref D, .ref B])) (fun i acc H' => Evl.Ex H4 H' ∧ ∃ ts : List Bool, acc = ts.map V.bl ∧ ts.length = i ∧ ∀ j b, ts[j]? = some b → (b = true ↔ ∀ z ∈ hs, Rc (pqP (F j)) h0 z)) hL (by show 2 < 1000000; decide)
    (fun i acc H' q => by obtain ⟨_, ps, rfl, h, _⟩ := q; rw [List.length_map]; omega) ⟨Evl.Ex.refl _, [], rfl, rfl, fun (j : Nat) b h => nil_at h⟩ (fun i acc H' h1 q => SqT.of (hid_ex _ _ (q.1 _ _ g4))) (fun i x H5 H6 acc C N hi hL2 hI hy hc _ => ?_) (fun H5 acc hL2 hI => ?_)⟩
  · obtain ⟨rfl, hv⟩ := hy
    obtain ⟨e5, ts, rfl, htl, ht⟩ := hI
    have e46 : Evl.Ex H4 H6 := e5.trans hid_ex
    obtain ⟨X, hX, hXl, hXw, hXm, hXn⟩ : ∃ X : Addr, x = .ref X ∧ H6 X = some (.lst (pqV (F i))) ∧ (∀ q ∈ F i, H6 q.1 = some (.tup [.str q.2.1, .str q.2.2])) ∧ (∀ q ∈ pqP (F i), q.2 ∈ hs) ∧ (F i).length ≤ 100 := by
      have hi2 : i < 2 := hi
      rcases (show i = 0 ∨ i = 1 by omega) with rfl | rfl
      · exact ⟨D, (Option.some.inj hv).symm, e46 _ _ hD4, fun q hq => e46 _ _ (w1 q hq), m1, by show pq1.length ≤ 100; omega⟩
      · exact ⟨B, (Option.some.inj hv).symm, e46 _ _ hB4, fun q hq => e46 _ _ (w2 q hq), m2, by show pq2.length ≤ 100; omega⟩
    subst hX
    have hr6 := hrow.ex (eC.trans e46)
    have hix : rIx K (.ref h) (.int 0) H6 (fun v H' => v = .str h0 ∧ H' = H6) := by
      have at0 : atI (hs.map V.str) 0 = some (.str h0) := atI_nat (j := 0) (by rw [List.getElem?_map, hh0]; rfl)
      rcases hr6 with r | r
      · exact .inl ⟨h, _, 0, _, rfl, rfl, r, at0, rfl, rfl⟩
      · exact .inr (.inl ⟨h, _, 0, _, rfl, rfl, r, at0, rfl, rfl⟩)
    refine ⟨rfl, yes_ok ⟨_, rfl, _, rfl, rIx_mono hix fun v H' q => ?_⟩⟩
    obtain ⟨rfl, rfl⟩ := q
    refine ⟨X, F i, h0, rfl, SqL.of hXl, fun q hq => SqT.of (hXw q hq), hXn, fun l f H7 e7 hf nd mem fl => ?_⟩
    refine ⟨l, _, rfl, .inl (SqL.of hf), _, rfl, h, _, rfl, hr6.ex e7, rfl, ?_⟩
    refine hc _ _ (e7 _ _ hL2) ⟨e5.trans (Ex.hid e7), ts ++ [decide (V.int ((f.map V.str).length : Int) = V.int ((hs.map V.str).length : Int))], by rw [List.map_append]; rfl, by rw [List.length_append, htl]; rfl, fun j b hb1 => ?_⟩
    rcases snoc_at hb1 with h | ⟨h, rfl⟩
    · exact ht j b h
    · rw [h, htl, decide_eq_true_iff, List.length_map, List.length_map, ← rc_len ok.nd h0m hXm nd mem]
      exact ⟨fun z => by have := V.int.inj z; omega, fun z => by rw [z]⟩
  · obtain ⟨e5, ts, rfl, htl, ht⟩ := hI
    obtain ⟨b1, b2, rfl⟩ : ∃ b1 b2, ts = [b1, b2] := by
      have h2 : ts.length = 2 := htl
      match ts, h2 with
      | [a, b], _ => exact ⟨a, b, rfl⟩
    refine ⟨L, [b1, b2], rfl, SqL.of hL2, k _ H5 (eC.trans (e5.trans hid_ex)) ?_⟩
    have t1 := ht 0 b1 rfl
    have t2 := ht 1 b2 rfl
    have u1 : b1 = true ↔ ∀ z ∈ hs, Rc (rdP rq) h0 z := by rw [← y1]; exact t1
    have u2 : b2 = true ↔ ∀ z ∈ hs, Rc (sw (rdP rq)) h0 z := by rw [← y2]; exact t2
    have ball : [b1, b2].all id = (b1 && b2) := by simp
    rw [ball, Bool.and_eq_true, u1, u2]
    constructor
    · intro ⟨a1, a2⟩ h0' hm z hz
      rw [hhd] at hm
      obtain rfl := Option.some.inj hm
      exact ⟨a1 z hz, a2 z hz⟩
    · intro hT
      exact ⟨fun z hz => (hT h0 hhd z hz).1, fun z hz => (hT h0 hhd z hz).2⟩

end
end Lw

namespace Lw
open PySem PySem.Spec PyProof.Rows L2 TP
section
variable {P : Program} {w : World} {K : PySem.W.Frag} {mg : Str → Option Value} {base : Heap}

theorem ok_Land_init (T : TX w K mg) : GtF P w K mg base (L2.CX P w) 5 d_Land_init ["self", "houses", "streets", "roads", "bins", "rules"] (spLandX K) := by
  refine gtFX_mk (D_Land_init T) sc_Land_init (fun vs H Q E h => ?_) (fun f cdv A outer s H vs Q E hr h => ?_)
  · obtain ⟨x, dx, ha, sa, ra, ua, L, rfl, _⟩ := h
    rfl
  obtain ⟨x, dx, ha, sa, ra, ua, L, rfl, hx, nLR, I, k, kx⟩ := h
  refine ⟨_, (pss_cons (ps_if (pt_not (pt_val ((ok_are_houses T).pe (hr.mono (by decide)) (pa_cons (pv 1) pa_nil))))
      (pss_one (ps_raise rfl (takes_of rfl rfl rfl rfl) (GtF.pmk (d := d_NoLand_init) (ox_NoLand T) (ei_NoLand T) (ok_NoLand_init T) rfl (fun _ _ _ _ _ _ us hl => match us, hl with | [_, _], _ => rfl) (g_NoLand T) (hr.mono (by decide)) pass0 (pa_cons pe_str pa_nil))))
      pss_nil)
    (pss_cons (ps_if (pt_not (pt_val ((ok_are_streets T).pe (hr.mono (by decide)) (pa_cons (pv 2) (pa_cons (pv 1) pa_nil)))))
      (pss_one (ps_raise rfl (takes_of rfl rfl rfl rfl) (GtF.pmk (d := d_NoLand_init) (ox_NoLand T) (ei_NoLand T) (ok_NoLand_init T) rfl (fun _ _ _ _ _ _ us hl => match us, hl with | [_, _], _ => rfl) (g_NoLand T) (hr.mono (by decide)) pass0 (pa_cons pe_str pa_nil))))
      pss_nil)
    (pss_cons (ps_if (pt_not (pt_val ((ok_are_roads T).pe (hr.mono (by decide)) (pa_cons (pv 3) (pa_cons (pv 1) pa_nil)))))
      (pss_one (ps_raise rfl (takes_of rfl rfl rfl rfl) (GtF.pmk (d := d_NoLand_init) (ox_NoLand T) (ei_NoLand T) (ok_NoLand_init T) rfl (fun _ _ _ _ _ _ us hl => match us, hl with | [_, _], _ => rfl) (g_NoLand T) (hr.mono (by decide)) pass0 (pa_cons pe_str pa_nil))))
      pss_nil)
    (pss_cons (ps_if (pt_not (pt_val ((ok_is_between T).pe (hr.mono (by decide)) (pa_cons (pv 4) (pa_cons (pe_gint (c_LEAST_BINS T)) (pa_cons (pe_gint (c_MOST_BINS T)) pa_nil))))))
      (pss_one (ps_raise rfl (takes_of rfl rfl rfl rfl) (GtF.pmk (d := d_NoLand_init) (ox_NoLand T) (ei_NoLand T) (ok_NoLand_init T) rfl (fun _ _ _ _ _ _ us hl => match us, hl with | [_, _], _ => rfl) (g_NoLand T) (hr.mono (by decide)) pass0 (pa_cons pe_str pa_nil))))
      pss_nil)
    (pss_cons (ps_set (i := 6) sc_Land_init.nd rfl (by first | exact Or.inl rfl | exact Or.inr rfl) (pe_ifExp (PW.pt (pw_and (pt_val ((ok_is_row T).pe (hr.mono (by decide)) (pa_cons (pv 5) pa_nil))) (pw_and1 (pt_cmpR op_eq (pe_callB call_len_seq (by rfl) (f_len T) (by decide +kernel) (pa_cons (pv 5) pa_nil)) pe_int (nomark _))))) (pe_lst (pa_cons (GtF.make0 (ok_Rule_init T).no kb_Rule_init_1 (mk_Rule T) (g_Rule T) (hr.mono (by decide)) pass0) pa_nil)) (pv 5)))
    (pss_cons (ps_if (pt_not (pt_val ((ok_are_rules T).pe (hr.mono (by decide)) (pa_cons (pv 6) pa_nil))))
      (pss_one (ps_raise rfl (takes_of rfl rfl rfl rfl) (GtF.pmk (d := d_NoLand_init) (ox_NoLand T) (ei_NoLand T) (ok_NoLand_init T) rfl (fun _ _ _ _ _ _ us hl => match us, hl with | [_, _], _ => rfl) (g_NoLand T) (hr.mono (by decide)) pass0 (pa_cons pe_str pa_nil))))
      pss_nil)
    (pss_cons (ps_if (pt_not (pt_val ((ok_are_tied T).pe (hr.mono (by decide)) (pa_cons (pv 1) (pa_cons (pv 3) pa_nil)))))
      (pss_one (ps_raise rfl (takes_of rfl rfl rfl rfl) (GtF.pmk (d := d_NoLand_init) (ox_NoLand T) (ei_NoLand T) (ok_NoLand_init T) rfl (fun _ _ _ _ _ _ us hl => match us, hl with | [_, _], _ => rfl) (g_NoLand T) (hr.mono (by decide)) pass0 (pa_cons pe_str pa_nil))))
      pss_nil)
    (pss_cons (ps_fld (pv 0) (pe_callTy call_tupR (by rfl) (f_tuple T) (by decide +kernel) (pa_cons (pv 1) pa_nil)) rfl)
    (pss_cons (ps_fld (pv 0) (pe_callTy call_dictD (by rfl) (f_dict T) (by decide +kernel) (pa_cons (pv 2) pa_nil)) rfl)
    (pss_cons (ps_fld (pv 0) (pe_callTy call_tupR (by rfl) (f_tuple T) (by decide +kernel) (pa_cons (pv 3) pa_nil)) rfl)
    (pss_cons (ps_fld (pv 0) (pv 4) rfl)
    (pss_one (ps_fld (pv 0) (pe_callTy call_tupR (by rfl) (f_tuple T) (by decide +kernel) (pa_cons (pv 6) pa_nil)) rfl))))))))))))), ?_⟩
  refine ⟨_, rfl, ha, L.hs, rfl, I.h, I.hok, fun H1 e1 => ⟨_, rfl, iteF ?_⟩⟩
  have I1 := I.ex e1
  refine ⟨_, rfl, _, rfl, sa, ha, L.ss, L.hs, rfl, I1.s, I1.h, I1.ne, I1.sok, fun H2 e2 => ⟨_, rfl, iteF ?_⟩⟩
  have e02 := e1.trans e2
  have I2 := I.ex e02
  refine ⟨_, rfl, _, rfl, ra, ha, L.rq, L.hs, rfl, I2.r, I2.rs, I2.rl, I2.h, fun H3 e3 => ⟨_, rfl, iteF ?_⟩⟩
  have e03 := e02.trans e3
  have I3 := I.ex e03
  refine ⟨_, rfl, _, .int L.bn, 2, 5, rfl, .int _, _, rfl, ?_⟩
  cases hbn : bnOk L.bn with
  | false =>
    rw [show isBetwD (.int L.bn) 2 5 = false from hbn]
    refine iteT ?_
    refine ⟨(by show 1 ≤ 1000; decide), fun a1 ha1 => ⟨a1, .str "bins", rfl, upd_same, fun d2 hn2 ne2 => ⟨rfl, d2, _, upd_same, Eq.trans (upd_ne ne2) upd_same, (raised (fs := [("why", .str "bins")]) ha1 hn2 ne2).2, ?_⟩⟩⟩
    exact kx "bins" (.inl ⟨hbn, rfl⟩) d2 _ (Evl.Ex.trans e03 (raised (fs := [("why", .str "bins")]) ha1 hn2 ne2).1) upd_same
  | true =>
    rw [show isBetwD (.int L.bn) 2 5 = true from hbn]
    refine iteF ?_
    obtain ⟨t, ht, hb, ty⟩ := I3.u.ty
    have hln : (uqV L.uq).length = L.uq.length := List.length_map ..
    refine ⟨_, rfl, .ref ua, t, rfl, ht, ty, fun H4 e4 => ?_⟩
    rw [hb]
    have e04 := e03.trans e4
    have I4 := I.ex e04
    refine ⟨_, rfl, iteT ⟨_, rfl, ua, _, rfl, I4.u, rfl, _, rfl, ite2 (fun b => ?_) (fun b => ?_)⟩⟩
    · have e0 : L.uq = [] := by
        have := V.int.inj (of_decide_eq_true b)
        rw [hln] at this
        cases h : L.uq with
        | nil => rfl
        | cons q l =>
          rw [h, List.length_cons] at this
          omega
      have ro : ruOk L.uq = true := by rw [e0]; rfl
      refine fun u ud hu hud nud => ⟨u, ud, _, _, _, _, _, _, _, [.int 0, .int 0, .int 1, .int 0, .int 0, .int 0, .int 0], rfl, .cons (.int _) (.cons (.int _) (.cons (.int _) (.cons (.int _) (.cons (.int _) (.cons (.int _) (.cons (.int _) .nil)))))), upd_same, fun _ H5 wk hu5 => ⟨rfl, ?_⟩, fun z hz => ?_⟩
      · have e5 := made_ex hu hud wk
        refine ⟨(by show 1 ≤ sizeLine; decide), fun tl htl => ?_⟩
        generalize hH_ : upd H5 tl _ = H6
        have x6 : Evl.Ex H5 H6 := (by rw [← hH_]; exact Evl.Ex.new htl)
        have g6 := (congrFun hH_ tl).symm
        rw [upd_same] at g6
        clear hH_
        have e06 := e04.trans (e5.trans x6)
        have us6 : ∀ q ∈ [(u, r0)], Ru K H6 q.1 q.2 := forall1 ⟨ud, x6 _ _ hu5⟩
        have u6 : Rw K H6 tl (uqV [(u, r0)]) := .inl (SqL.of g6)
        refine ⟨_, rfl, tl, [(u, r0)], rfl, u6, us6, (by show 1 ≤ 60; decide), fun H7 e7 => ⟨_, rfl, iteF ?_⟩⟩
        have e07 := e06.trans e7
        have I7 := I.ex e07
        have u7 := u6.ex e7
        have us7 : ∀ q ∈ [(u, r0)], Ru K H7 q.1 q.2 := fun q hq => (us6 q hq).ex e7
        refine ⟨_, rfl, _, rfl, ha, ra, L.hs, L.rq, rfl, I7.h, I7.hok, I7.r, I7.rs, I7.rl, fun tb HT eT hT => ⟨_, rfl, ?_⟩⟩
        have eAll := Evl.Ex.trans e07 eT
        cases tb with
        | false =>
          refine iteT ?_
          have hnt : ¬ Tied L.hs (rdP L.rq) := fun z => Bool.noConfusion (hT.mpr z)
          refine ⟨(by show 1 ≤ 1000; decide), fun a1 ha1 => ⟨a1, .str "ways", rfl, upd_same, fun d2 hn2 ne2 => ⟨rfl, d2, _, upd_same, Eq.trans (upd_ne ne2) upd_same, (raised (fs := [("why", .str "ways")]) ha1 hn2 ne2).2, ?_⟩⟩⟩
          exact kx "ways" (.inr (.inr ⟨hbn, ro, hnt, rfl⟩)) d2 _ (Evl.Ex.trans eAll (raised (fs := [("why", .str "ways")]) ha1 hn2 ne2).1) upd_same
        | true =>
          refine iteF ?_
          have tied : Tied L.hs (rdP L.rq) := hT.mp rfl
          have xT := eAll _ _ hx
          have IT := I.ex eAll
          have f0 : ∀ {H1 : Hp} {o : HO} {a : Addr} {xs : List V}, H1 x = some o → NoRow o → Rw K H1 a xs → Rw K (hid x H1) a xs := fun h n r => r.hid h n
          have hH := IT.h.hid xT noRow_ins
          have rH := IT.r.hid xT noRow_ins
          have sH : hid x HT sa = some (.dK (ssK L.ss)) := hid_of IT.s fun e => by
            have := IT.s
            rw [e, xT] at this
            cases this
          have rsH : ∀ q ∈ L.rq, SqT K (hid x HT) q.1 q.2.vs := fun q hq => sqt_hid xT (fun _ z => nomatch z) (fun _ _ z => nomatch z) (IT.rs q hq).1
          have uH : Rw K (hid x HT) tl (uqV [(u, r0)]) := (u7.ex eT).hid xT noRow_ins
          have usH : ∀ q ∈ [(u, r0)], Ru K (hid x HT) q.1 q.2 := fun q hq => ((us7 q hq).ex eT).hid xT (fun dx z => by
            injection z with z1
            exact nLR z1)
          -- houses
          refine ⟨_, rfl, ha, _, rfl, IT.h, fun ht H1 e1 s1 => ?_⟩
          have x1 := e1 _ _ xT
          have p1 := sqt_hid x1 (fun _ z => nomatch z) (fun _ _ z => nomatch z) s1
          refine ⟨_, rfl, x, _, dx, _, rfl, x1, cl_Land T, na_Land_houses T, (by show 0 < 1000; decide), ?_⟩
          generalize hG1 : upd H1 x _ = G1
          have g1 : G1 x = some (.ins (He.ga K "Land") dx [("houses", .ref ht)]) := by rw [← hG1]; exact upd_same
          have k1 : Evl.Ex (hid x HT) (hid x G1) := by rw [← hG1, hid_upd]; exact Ex.hid e1
          have q1 : SqT K (hid x G1) ht (L.hs.map V.str) := by rw [← hG1, hid_upd]; exact p1
          clear hG1
          -- streets
          refine ⟨_, rfl, sa, _, rfl, .inl ((k1.trans hid_ex) _ _ sH), fun st hst => ?_⟩
          generalize hH_ : upd G1 st _ = H2
          have e2 : Evl.Ex G1 H2 := (by rw [← hH_]; exact Evl.Ex.new hst)
          have s2 := (congrFun hH_ st).symm
          rw [upd_same] at s2
          clear hH_
          have x2 := e2 _ _ g1
          have nst : st ≠ x := fun z => by
            rw [z, g1] at hst
            cases hst
          refine ⟨_, rfl, x, _, dx, _, rfl, x2, cl_Land T, na_Land_streets T, (by show 1 < 1000; decide), ?_⟩
          generalize hG2 : upd H2 x _ = G2
          have g2 : G2 x = some (.ins (He.ga K "Land") dx [("houses", .ref ht), ("streets", .ref st)]) := by rw [← hG2]; exact upd_same
          have k2 : Evl.Ex (hid x G1) (hid x G2) := by rw [← hG2, hid_upd]; exact Ex.hid e2
          have q2 : hid x G2 st = some (.dK (ssK L.ss)) := by rw [← hG2, hid_upd, hid_ne nst]; exact s2
          clear hG2
          -- roads
          refine ⟨_, rfl, ra, _, rfl, rH.ex (k1.trans (k2.trans hid_ex)), fun rt H3 e3 s3 => ?_⟩
          have x3 := e3 _ _ g2
          have p3 := sqt_hid x3 (fun _ z => nomatch z) (fun _ _ z => nomatch z) s3
          refine ⟨_, rfl, x, _, dx, _, rfl, x3, cl_Land T, na_Land_roads T, (by show 2 < 1000; decide), ?_⟩
          generalize hG3 : upd H3 x _ = G3
          have g3 : G3 x = some (.ins (He.ga K "Land") dx [("houses", .ref ht), ("streets", .ref st), ("roads", .ref rt)]) := by rw [← hG3]; exact upd_same
          have k3 : Evl.Ex (hid x G2) (hid x G3) := by rw [← hG3, hid_upd]; exact Ex.hid e3
          have q3 : SqT K (hid x G3) rt (rqV L.rq) := by rw [← hG3, hid_upd]; exact p3
          clear hG3
          -- bins
          refine ⟨_, rfl, _, rfl, x, _, dx, _, rfl, g3, cl_Land T, na_Land_bins T, (by show 3 < 1000; decide), ?_⟩
          generalize hG4 : upd G3 x _ = G4
          have g4 : G4 x = some (.ins (He.ga K "Land") dx [("houses", .ref ht), ("streets", .ref st), ("roads", .ref rt), ("bins", .int L.bn)]) := by rw [← hG4]; exact upd_same
          have k4 : Evl.Ex (hid x G3) (hid x G4) := by rw [← hG4, hid_upd]; exact Evl.Ex.refl _
          clear hG4
          -- rules
          refine ⟨_, rfl, tl, _, rfl, uH.ex (k1.trans (k2.trans (k3.trans (k4.trans hid_ex)))), fun ut H5 e5 s5 => ?_⟩
          have x5 := e5 _ _ g4
          have p5 := sqt_hid x5 (fun _ z => nomatch z) (fun _ _ z => nomatch z) s5
          refine ⟨_, rfl, x, _, dx, _, rfl, x5, cl_Land T, na_Land_rules T, (by show 4 < 1000; decide), ?_⟩
          generalize hG5 : upd H5 x _ = G5
          have g5 : G5 x = some (.ins (He.ga K "Land") dx (landFs ht st rt L.bn ut)) := by rw [← hG5]; exact upd_same
          have k5 : Evl.Ex (hid x G4) (hid x G5) := by rw [← hG5, hid_upd]; exact Ex.hid e5
          have q5 : SqT K (hid x G5) ut (uqV [(u, r0)]) := by rw [← hG5, hid_upd]; exact p5
          clear hG5
          have m3 := k4.trans k5
          have m2 := k3.trans m3
          have m1 := k2.trans m2
          have m0 := k1.trans m1
          refine k hbn ro tied G5 [(u, r0)] (fun b o nb hb => hid_ex _ _ (m0 _ _ (hid_of (eAll _ _ hb) nb))) (fun z => absurd e0 z) (fun _ => ⟨u, Ex.free e04 hu, rfl⟩) ⟨dx, ht, st, rt, ut, ⟨g5, sqt_ex q1 (m1.trans hid_ex), hid_ex _ _ (m2 _ _ q2), sqt_ex q3 (m3.trans hid_ex), fun q hq => sqt_ex (rsH q hq) (m0.trans hid_ex), sqt_ex q5 hid_ex, fun q hq => (usH q hq).ex (m0.trans hid_ex)⟩, Ex.free eAll (by
            have hf : hid x G1 st = none := by rw [hid_ne nst]; exact hst
            have hf2 := Ex.free k1 hf
            rw [hid_ne nst] at hf2
            exact hf2)⟩
      · exfalso
        revert hz
        show badOf LSl _ = some z → False
        rw [show badOf LSl [.int 0, .int 0, .int 1, .int 0, .int 0, .int 0, .int 0] = none from rfl]
        intro hz
        cases hz
    · have hne : L.uq ≠ [] := fun z => b (decide_eq_true (by rw [hln, z]; rfl))
      refine ⟨_, rfl, ?_⟩
      refine ⟨_, rfl, ua, L.uq, rfl, I4.u, I4.us, I4.ul, fun H7 e7 => ⟨_, rfl, ?_⟩⟩
      have er : ruOk L.uq = rulesOk (L.uq.map fun q => q.2.s) := by
        cases h : L.uq with
        | nil => exact absurd h hne
        | cons q l => rfl
      rw [← er]
      have e07 := e04.trans e7
      have I7 := I.ex e07
      cases ro : ruOk L.uq with
      | false =>
        refine iteT ?_
        refine ⟨(by show 1 ≤ 1000; decide), fun a1 ha1 => ⟨a1, .str "rules", rfl, upd_same, fun d2 hn2 ne2 => ⟨rfl, d2, _, upd_same, Eq.trans (upd_ne ne2) upd_same, (raised (fs := [("why", .str "rules")]) ha1 hn2 ne2).2, ?_⟩⟩⟩
        exact kx "rules" (.inr (.inl ⟨hbn, ro, rfl⟩)) d2 _ (Evl.Ex.trans e07 (raised (fs := [("why", .str "rules")]) ha1 hn2 ne2).1) upd_same
      | true =>
        refine iteF ?_
        have u7 := I7.u
        have us7 := I7.us
        refine ⟨_, rfl, _, rfl, ha, ra, L.hs, L.rq, rfl, I7.h, I7.hok, I7.r, I7.rs, I7.rl, fun tb HT eT hT => ⟨_, rfl, ?_⟩⟩
        have eAll := Evl.Ex.trans e07 eT
        cases tb with
        | false =>
          refine iteT ?_
          have hnt : ¬ Tied L.hs (rdP L.rq) := fun z => Bool.noConfusion (hT.mpr z)
          refine ⟨(by show 1 ≤ 1000; decide), fun a1 ha1 => ⟨a1, .str "ways", rfl, upd_same, fun d2 hn2 ne2 => ⟨rfl, d2, _, upd_same, Eq.trans (upd_ne ne2) upd_same, (raised (fs := [("why", .str "ways")]) ha1 hn2 ne2).2, ?_⟩⟩⟩
          exact kx "ways" (.inr (.inr ⟨hbn, ro, hnt, rfl⟩)) d2 _ (Evl.Ex.trans eAll (raised (fs := [("why", .str "ways")]) ha1 hn2 ne2).1) upd_same
        | true =>
          refine iteF ?_
          have tied : Tied L.hs (rdP L.rq) := hT.mp rfl
          have xT := eAll _ _ hx
          have IT := I.ex eAll
          have f0 : ∀ {H1 : Hp} {o : HO} {a : Addr} {xs : List V}, H1 x = some o → NoRow o → Rw K H1 a xs → Rw K (hid x H1) a xs := fun h n r => r.hid h n
          have hH := IT.h.hid xT noRow_ins
          have rH := IT.r.hid xT noRow_ins
          have sH : hid x HT sa = some (.dK (ssK L.ss)) := hid_of IT.s fun e => by
            have := IT.s
            rw [e, xT] at this
            cases this
          have rsH : ∀ q ∈ L.rq, SqT K (hid x HT) q.1 q.2.vs := fun q hq => sqt_hid xT (fun _ z => nomatch z) (fun _ _ z => nomatch z) (IT.rs q hq).1
          have uH : Rw K (hid x HT) ua (uqV L.uq) := (u7.ex eT).hid xT noRow_ins
          have usH : ∀ q ∈ L.uq, Ru K (hid x HT) q.1 q.2 := fun q hq => ((us7 q hq).ex eT).hid xT (fun dx z => by
            injection z with z1
            exact nLR z1)
          -- houses
          refine ⟨_, rfl, ha, _, rfl, IT.h, fun ht H1 e1 s1 => ?_⟩
          have x1 := e1 _ _ xT
          have p1 := sqt_hid x1 (fun _ z => nomatch z) (fun _ _ z => nomatch z) s1
          refine ⟨_, rfl, x, _, dx, _, rfl, x1, cl_Land T, na_Land_houses T, (by show 0 < 1000; decide), ?_⟩
          generalize hG1 : upd H1 x _ = G1
          have g1 : G1 x = some (.ins (He.ga K "Land") dx [("houses", .ref ht)]) := by rw [← hG1]; exact upd_same
          have k1 : Evl.Ex (hid x HT) (hid x G1) := by rw [← hG1, hid_upd]; exact Ex.hid e1
          have q1 : SqT K (hid x G1) ht (L.hs.map V.str) := by rw [← hG1, hid_upd]; exact p1
          clear hG1
          -- streets
          refine ⟨_, rfl, sa, _, rfl, .inl ((k1.trans hid_ex) _ _ sH), fun st hst => ?_⟩
          generalize hH_ : upd G1 st _ = H2
          have e2 : Evl.Ex G1 H2 := (by rw [← hH_]; exact Evl.Ex.new hst)
          have s2 := (congrFun hH_ st).symm
          rw [upd_same] at s2
          clear hH_
          have x2 := e2 _ _ g1
          have nst : st ≠ x := fun z => by
            rw [z, g1] at hst
            cases hst
          refine ⟨_, rfl, x, _, dx, _, rfl, x2, cl_Land T, na_Land_streets T, (by show 1 < 1000; decide), ?_⟩
          generalize hG2 : upd H2 x _ = G2
          have g2 : G2 x = some (.ins (He.ga K "Land") dx [("houses", .ref ht), ("streets", .ref st)]) := by rw [← hG2]; exact upd_same
          have k2 : Evl.Ex (hid x G1) (hid x G2) := by rw [← hG2, hid_upd]; exact Ex.hid e2
          have q2 : hid x G2 st = some (.dK (ssK L.ss)) := by rw [← hG2, hid_upd, hid_ne nst]; exact s2
          clear hG2
          -- roads
          refine ⟨_, rfl, ra, _, rfl, rH.ex (k1.trans (k2.trans hid_ex)), fun rt H3 e3 s3 => ?_⟩
          have x3 := e3 _ _ g2
          have p3 := sqt_hid x3 (fun _ z => nomatch z) (fun _ _ z => nomatch z) s3
          refine ⟨_, rfl, x, _, dx, _, rfl, x3, cl_Land T, na_Land_roads T, (by show 2 < 1000; decide), ?_⟩
          generalize hG3 : upd H3 x _ = G3
          have g3 : G3 x = some (.ins (He.ga K "Land") dx [("houses", .ref ht), ("streets", .ref st), ("roads", .ref rt)]) := by rw [← hG3]; exact upd_same
          have k3 : Evl.Ex (hid x G2) (hid x G3) := by rw [← hG3, hid_upd]; exact Ex.hid e3
          have q3 : SqT K (hid x G3) rt (rqV L.rq) := by rw [← hG3, hid_upd]; exact p3
          clear hG3
          -- bins
          refine ⟨_, rfl, _, rfl, x, _, dx, _, rfl, g3, cl_Land T, na_Land_bins T, (by show 3 < 1000; decide), ?_⟩
          generalize hG4 : upd G3 x _ = G4
          have g4 : G4 x = some (.ins (He.ga K "Land") dx [("houses", .ref ht), ("streets", .ref st), ("roads", .ref rt), ("bins", .int L.bn)]) := by rw [← hG4]; exact upd_same
          have k4 : Evl.Ex (hid x G3) (hid x G4) := by rw [← hG4, hid_upd]; exact Evl.Ex.refl _
          clear hG4
          -- rules
          refine ⟨_, rfl, ua, _, rfl, uH.ex (k1.trans (k2.trans (k3.trans (k4.trans hid_ex)))), fun ut H5 e5 s5 => ?_⟩
          have x5 := e5 _ _ g4
          have p5 := sqt_hid x5 (fun _ z => nomatch z) (fun _ _ z => nomatch z) s5
          refine ⟨_, rfl, x, _, dx, _, rfl, x5, cl_Land T, na_Land_rules T, (by show 4 < 1000; decide), ?_⟩
          generalize hG5 : upd H5 x _ = G5
          have g5 : G5 x = some (.ins (He.ga K "Land") dx (landFs ht st rt L.bn ut)) := by rw [← hG5]; exact upd_same
          have k5 : Evl.Ex (hid x G4) (hid x G5) := by rw [← hG5, hid_upd]; exact Ex.hid e5
          have q5 : SqT K (hid x G5) ut (uqV L.uq) := by rw [← hG5, hid_upd]; exact p5
          clear hG5
          have m3 := k4.trans k5
          have m2 := k3.trans m3
          have m1 := k2.trans m2
          have m0 := k1.trans m1
          refine k hbn ro tied G5 L.uq (fun b o nb hb => hid_ex _ _ (m0 _ _ (hid_of (eAll _ _ hb) nb))) (fun _ => rfl) (fun z => absurd z hne) ⟨dx, ht, st, rt, ut, ⟨g5, sqt_ex q1 (m1.trans hid_ex), hid_ex _ _ (m2 _ _ q2), sqt_ex q3 (m3.trans hid_ex), fun q hq => sqt_ex (rsH q hq) (m0.trans hid_ex), sqt_ex q5 hid_ex, fun q hq => (usH q hq).ex (m0.trans hid_ex)⟩, Ex.free eAll (by
            have hf : hid x G1 st = none := by rw [hid_ne nst]; exact hst
            have hf2 := Ex.free k1 hf
            rw [hid_ne nst] at hf2
            exact hf2)⟩

end
end Lw

namespace Lw
open PySem PySem.Spec PyProof.Rows L2 TP
section
variable {P : Program} {w : World} {K : PySem.W.Frag} {mg : Str → Option Value} {base : Heap}

theorem body_law (T : TX w K mg) (base : Heap) : BodyOkG P w K mg base 8 ["_law_script", "_law_cell", "_law_well_here", "_law_houses", "_law_placed", "_law_paths", "_law_land", "_law_odd", "_law_some", "_law_thing", "_law_here", "_law_number", "_law_path", "_law_due"] d_law (spLaw K) := by
  intro f cdv A outer s H vs Q E hg hr h
  obtain ⟨a, ns, rfl, hS, h63, hbits, k⟩ := h
  refine ⟨_, (pss_cons (ps_for PassesOwn.never rfl (pi_list (pe_op op_cat (pe_slice sl_list (pv 0) po_none (po_some pe_int)) (pe_lst (pa_cons pe_int (pa_cons pe_int pa_nil))))) (pg_name (i := 1) sc_law.nd rfl (by first | exact Or.inl rfl | exact Or.inr rfl))
      (pss_cons (ps_set (i := 2) sc_law.nd rfl (by first | exact Or.inl rfl | exact Or.inr rfl) ((ok_well T).pe (hr.mono (by decide)) (pa_cons (pv 1) pa_nil)))
    (pss_cons (ps_set (i := 3) sc_law.nd rfl (by first | exact Or.inl rfl | exact Or.inr rfl) ((ok_names T).pe (hr.mono (by decide)) (pa_cons (pv 2) (pa_cons (pe_op op_add pe_int ((ok_draw T).pe (hr.mono (by decide)) (pa_cons (pv 2) (pa_cons pe_int pa_nil)))) pa_nil))))
    (pss_cons (ps_set (i := 4) sc_law.nd rfl (by first | exact Or.inl rfl | exact Or.inr rfl) ((ok_lstreets T).pe (hr.mono (by decide)) (pa_cons (pv 2) (pa_cons (pv 3) pa_nil))))
    (C8.pss_cut (ps_if (pt_cmpR op_eq ((ok_draw T).pe (hr.mono (by decide)) (pa_cons (pv 2) (pa_cons pe_int pa_nil))) pe_int (nomark _))
      (pss_one (ps_dput (hu_of hr) (pv 4) (pe_ix ix_list (pv 3) (pe_un un_neg pe_int) (fun _ _ => rfl)) (pe_ix ix_list (pv 3) pe_int (fun _ _ => rfl)) rfl))
      pss_nil)
    (pss_cons (ps_while PassesOwn.never (pt_cmpR op_gt (pe_callB call_lenD (by rfl) (f_len T) (by decide +kernel) (pa_cons (pv 4) pa_nil)) pe_int (nomark _))
      (pss_one (ps_expr (pe_dpop1 (pv 4) (pe_ix ix_list (pe_callB (call_sortedD rfl) (by rfl) (f_sorted T) (by decide +kernel) (pa_cons (pv 4) pa_nil)) pe_int (fun _ _ => rfl)) ⟨by rfl, by rfl, by rfl, by rfl⟩))))
    (pss_cons (ps_set (i := 5) sc_law.nd rfl (by first | exact Or.inl rfl | exact Or.inr rfl) ((ok_lroads T).pe (hr.mono (by decide)) (pa_cons (pv 2) (pa_cons (pv 3) pa_nil))))
    (pss_cons (ps_set (i := 6) sc_law.nd rfl (by first | exact Or.inl rfl | exact Or.inr rfl) (GtF.makeK (ok_Land_init T).no kb_Land_init_2_streets_roads (mk_Land T) (g_Land T) (hr.mono (by decide)) pass0 (pa_cons (pv 3) pa_nil) (pk_cons (pv 4) (pk_cons (pv 5) pk_nil))))
    (pss_cons (ps_set (i := 7) sc_law.nd rfl (by first | exact Or.inl rfl | exact Or.inr rfl) (pe_lst (pa_cons pe_non (pa_cons pe_int (pa_cons pe_bl (pa_cons pe_str (pa_cons pe_str (pa_cons pe_str (pa_cons (pe_lst (pa_cons (pe_ix ix_list (pv 3) pe_int (fun _ _ => rfl)) pa_nil)) (pa_cons (pe_tup (pa_cons (pe_ix ix_list (pv 3) pe_int (fun _ _ => rfl)) pa_nil)) (pa_cons pe_dnewK (pa_cons pe_int pa_nil))))))))))))
    (pss_cons (ps_set (i := 8) sc_law.nd rfl (by first | exact Or.inl rfl | exact Or.inr rfl) (pe_op op_cat (pe_op op_cat (pe_op op_cat (pv 3) (pe_callTy (call_listD rfl) (by rfl) (f_list T) (by decide +kernel) (pa_cons (pv 4) pa_nil))) ((ok_names T).pe (hr.mono (by decide)) (pa_cons (pv 2) (pa_cons pe_int pa_nil)))) (pe_lst (pa_cons ((ok_one T).pe (hr.mono (by decide)) (pa_cons (pv 2) (pa_cons (pv 7) pa_nil))) (pa_cons ((ok_one T).pe (hr.mono (by decide)) (pa_cons (pv 2) (pa_cons (pv 7) pa_nil))) pa_nil)))))
    (pss_one (ps_for PassesOwn.never rfl (pi_list (pv 8)) (pg_name (i := 9) sc_law.nd rfl (by first | exact Or.inl rfl | exact Or.inr rfl))
      (pss_cons (ps_setLc (i := 10) (own := [("_law_number", 11), ("_law_path", 12)]) (g := (gTup K 2 (gCons (gName 11) (gCons (gName 12) gNil)))) rfl sc_law.nd rfl rfl (sw_true rfl rfl rfl (by decide +kernel)) (pi_enum (by rfl) (f_enumerate T) (pa_cons (pv 5) pa_nil)) (blkOk_by (N := ["_law_script", "_law_cell", "_law_well_here", "_law_houses", "_law_placed", "_law_paths", "_law_land", "_law_odd", "_law_some", "_law_thing", "_law_here", "_law_number", "_law_path", "_law_due"]) (sc := defScope s_law) (by decide +kernel)) (fun _ _ _ _ _ => (pg_tup (by rfl) (pgs_cons (pg_name (i := 11) sc_law.nd rfl (by first | exact Or.inl rfl | exact Or.inr rfl)) (pgs_cons (pg_name (i := 12) sc_law.nd rfl (by first | exact Or.inl rfl | exact Or.inr rfl)) pgs_nil)))) (fun _ _ _ _ _ => (pts_one (pt_cmpR (show OpR _ _ (rEqT K) from op_eqT (sysK T) hr.units) (pe_ix (r := rIxT K) ix_tup (pv 12) pe_int (fun _ _ => rfl)) (pv 9) (nomark _)))) (fun _ _ _ _ _ => (pv 11)))
    (C8.pss_cut (ps_set (i := 13) sc_law.nd rfl (by first | exact Or.inl rfl | exact Or.inr rfl) (pe_ifExp (pt_cmpR (op_inT (sysK T) hr.units) (pv 9) (pv 3) (by rfl)) (pe_tup (pa_cons pe_str (pa_cons (pv 10) pa_nil))) (pe_tup (pa_cons pe_str (pa_cons (pv 9) pa_nil)))))
    (pss_cons (ps_if (pt_cmpR op_ne (pe_callB (call_reprG (sysK T) hg hr.units) (by rfl) (f_repr T) (by decide +kernel) (pa_cons ((ok_law_told T).pe (hr.mono (by decide)) (pa_cons (pv 6) (pa_cons pe_str (pa_cons (pv 9) pa_nil)))) pa_nil)) (pe_callB (call_reprG (sysK T) hg hr.units) (by rfl) (f_repr T) (by decide +kernel) (pa_cons (pv 13) pa_nil)) (nomark _))
      (pss_one (ps_ret pe_bl))
      pss_nil)
    (C8.pss_cut (ps_set (i := 13) sc_law.nd rfl (by first | exact Or.inl rfl | exact Or.inr rfl) (pe_ifExp (pt_cmpR (op_inT (sysK T) hr.units) (pv 9) (pe_callTy (call_listD rfl) (by rfl) (f_list T) (by decide +kernel) (pa_cons (pv 4) pa_nil)) (by rfl)) (pe_tup (pa_cons pe_str (pa_cons (pe_dget (hu_of hr) (pv 4) (pv 9) (fun _ _ => rfl)) pa_nil))) (pe_tup (pa_cons pe_str (pa_cons (pv 9) pa_nil)))))
    (pss_one (ps_if (pt_cmpR op_ne (pe_callB (call_reprG (sysK T) hg hr.units) (by rfl) (f_repr T) (by decide +kernel) (pa_cons ((ok_law_told T).pe (hr.mono (by decide)) (pa_cons (pv 6) (pa_cons pe_str (pa_cons (pv 9) pa_nil)))) pa_nil)) (pe_callB (call_reprG (sysK T) hg hr.units) (by rfl) (f_repr T) (by decide +kernel) (pa_cons (pv 13) pa_nil)) (nomark _))
      (pss_one (ps_ret pe_bl))
      pss_nil))))))))))))))))))
    (pss_one (ps_ret pe_bl))), ?_⟩
  refine ⟨_, rfl, _, rfl, a, _, rfl, hS, fun l1 hl1 => ⟨(by show 2 ≤ sizeLine; decide), fun l2 hl2 => ?_⟩⟩
  have n12 : l1 ≠ l2 := ne_of_none upd_same hl2
  refine ⟨l1, l2, _, _, rfl, rfl, Eq.trans (upd_ne n12) upd_same, upd_same, cells_len h63, fun l hl => ?_⟩
  refine ⟨l, rfl, ⟨_, SqL.of upd_same⟩, for_list (K := K) (a := l) (xs := cutV (ns.map V.int) none (some 10) ++ [.int 0, .int 1])
    (fun i σ H' => (∃ v1 v2 v3 v4 v5 v6 v7 v8 v9 v10 v13 : Option V, σ = [some (.ref a), v1, v2, v3, v4, v5, v6, v7, v8, v9, v10, none, none, v13]) ∧ H' l = some (.lst (cutV (ns.map V.int) none (some 10) ++ [.int 0, .int 1])))
    ⟨⟨_, _, _, _, _, _, _, _, _, _, _, rfl⟩, upd_same⟩ (fun i σ H' _ q => SqL.of q.2) ?_ ?_⟩
  rotate_left
  · rintro σ H' ⟨⟨v1, v2, v3, v4, v5, v6, v7, v8, v9, v10, v13, rfl⟩, hl'⟩
    exact k H'
  rintro i x σ H0 hx ⟨⟨v1, v2, v3, v4, v5, v6, v7, v8, v9, v10, v13, rfl⟩, hl0⟩
  obtain ⟨cell, rfl⟩ := cells_int hx
  generalize hcs : (cutV (ns.map V.int) none (some 10) ++ [.int 0, .int 1]) = cs at hl0 ⊢
  refine ⟨_, rfl, cell, rfl, fun w1 H1 hw1 W1 e1 => ?_⟩
  have nl : l ≠ w1 := ne_of_none hl0 hw1
  have hl1 := e1 _ _ hl0
  first | refine nrmG (σ' := [_, _, _, _, _, _, _, _, _, _, _, _, _, _]) rfl ?_ | refine nrm (σ' := [_, _, _, _, _, _, _, _, _, _, _, _, _, _]) rfl ?_
  refine ⟨_, rfl, _, rfl, w1, 0, 8, rfl, W1, by omega, by decide, by decide +kernel, fun d H2 d0 d1 D2 => ⟨_, _, rfl, rfl, ?_⟩⟩
  obtain ⟨dn, rfl⟩ := Int.eq_ofNat_of_zero_le d0
  refine ⟨w1, 1, 1 + dn, congrArg (fun z => [V.ref w1, V.int z]) (by omega), D2.wl, by omega, by omega, fun ha hs H3 D3 hha nha gha hsl hnd hnm => ?_⟩
  have hok : HsOk hs := ⟨by omega, by omega, hnm, hnd⟩
  first | refine nrmG (σ' := [_, _, _, _, _, _, _, _, _, _, _, _, _, _]) rfl ?_ | refine nrm (σ' := [_, _, _, _, _, _, _, _, _, _, _, _, _, _]) rfl ?_
  refine ⟨_, rfl, _, rfl, w1, ha, 161, hs, rfl, D3.wl.mono (by omega), by omega, SqL.of gha, nha, hok, fun sa ss H4 D4 hsa nsa gsa sok => ?_⟩
  first | refine nrmG (σ' := [_, _, _, _, _, _, _, _, _, _, _, _, _, _]) rfl ?_ | refine nrm (σ' := [_, _, _, _, _, _, _, _, _, _, _, _, _, _]) rfl ?_
  have hl4 : H4 l = some (.lst cs) := D4.k _ _ nl (D3.k _ _ nl (D2.k _ _ nl hl1))
  have gha4 := D4.k _ _ nha gha
  have nsh : sa ≠ ha := Ne.symm (ne_of_none gha hsa)
  have nsl : sa ≠ l := Ne.symm (ne_of_none (D3.k _ _ nl (D2.k _ _ nl hl1)) hsa)
  clear D3 D2 gha hl1 hl0 W1 e1 hsa
  -- a street called as the last house
  refine ⟨fun σ' H' => ∃ ss', σ' = [some (.ref a), some (.int cell), some (.ref w1), some (.ref ha), some (.ref sa), v5, v6, v7, v8, v9, v10, none, none, v13] ∧ Wl H' w1 662 ∧ H' ha = some (.lst (hs.map V.str)) ∧ H' l = some (.lst cs) ∧ H' sa = some (.dK (ssK ss')) ∧ SsM hs ss' 1 21, ?_, ?_⟩
  · refine ⟨_, rfl, w1, 661, 2, rfl, D4.wl, by omega, by decide, by decide +kernel, fun d5 H5 _ _ D5 => ?_⟩
    have gha5 := D5.k _ _ nha gha4
    have gsa5 := D5.k _ _ nsa gsa
    have hl5 := D5.k _ _ nl hl4
    refine ⟨rfl, _, rfl, ite2 (fun b => ?_) (fun b => ?_)⟩
    · obtain ⟨z0, zr, hz0, nz0⟩ := hs_cons hok
      have hlm := hok.hi
      have hlo := hok.lo
      have at0 := atS_at (os := hs) (z := 0) (by omega) (by omega)
      have at1 := atS_at (os := hs) (z := -1) (by omega) (by omega)
      have m0 : atS hs 0 ∈ hs := atS_mem (by omega) (by omega)
      have m1 : atS hs (-1) ∈ hs := atS_mem (by omega) (by omega)
      obtain ⟨s1, es1, ok1⟩ := ss_put sok (hnm _ m1) (hnm _ m0) m0
      have sl : (ssK ss).length = ss.length := List.length_map ..
      refine ⟨_, rfl, ha, _, _, _, rfl, rfl, SqL.of gha5, at0, _, rfl, _, rfl, _, rfl, ha, _, _, _, rfl, rfl, SqL.of gha5, at1, sa, _, rfl, DPut.k (k := .inr (atS hs (-1))) gsa5 (by have := sok.hi; rw [sl, sizeLine_eq]; omega), s1, rfl, D5.wl.put nsa, ?_, ?_, ?_, ok1⟩
      · rw [upd_ne (Ne.symm nsh)]
        exact gha5
      · rw [upd_ne (Ne.symm nsl)]
        exact hl5
      · rw [upd_same, es1]
    · exact ⟨ss, rfl, D5.wl, gha5, hl5, gsa5, sok.m⟩
  rintro σ' H5 ⟨s1, rfl, W5, gha5, hl5, gsa5, sm5⟩
  clear D4 gha4 hl4 gsa sok
  refine while_by (fun σ' H' => ∃ s2, σ' = [some (.ref a), some (.int cell), some (.ref w1), some (.ref ha), some (.ref sa), v5, v6, v7, v8, v9, v10, none, none, v13] ∧ Wl H' w1 662 ∧ H' ha = some (.lst (hs.map V.str)) ∧ H' l = some (.lst cs) ∧ H' sa = some (.dK (ssK s2)) ∧ SsM hs s2 1 21)
    (fun _ H' => match H' sa with | some (.dK kvs) => kvs.length | _ => 0) ⟨s1, rfl, W5, gha5, hl5, gsa5, sm5⟩ ?_ ?_
  · rintro σ' H6 ⟨s2, rfl, W6, gha6, hl6, gsa6, sm6⟩
    have sl : (ssK s2).length = s2.length := List.length_map ..
    refine ⟨_, rfl, sa, _, rfl, gsa6, _, _, rfl, rfl, _, rfl, ite2 (fun b => ?_) (fun b => ?_)⟩
    · have gt : 20 < s2.length := by
        have := of_decide_eq_true b
        omega
      refine ⟨_, rfl, sa, rfl, .inl ⟨_, .inl gsa6⟩, _, rfl, sa, _, s2.map (·.1), rfl, .inl gsa6, ss_keys s2, (by rw [List.length_map]; have := sm6.hi; omega), fun ys p pm _ hp => ?_⟩
      cases ys with
      | nil => exact absurd pm.length_eq (by rw [List.length_map]; show ¬ 0 = _; omega)
      | cons z zr =>
        have zm : z ∈ s2.map (·.1) := pm.mem_iff.mp List.mem_cons_self
        obtain ⟨sv, _, hsv⟩ := ss_val zm
        obtain ⟨s3, es3, ok3, l3⟩ := ss_drop sm6 gt zm
        have nsp : sa ≠ p := ne_of_none gsa6 hp
        generalize hH_ : upd H6 p _ = H7
        have x7 : Evl.Ex H6 H7 := (by rw [← hH_]; exact Evl.Ex.new hp)
        have g7 := (congrFun hH_ p).symm
        rw [upd_same] at g7
        clear hH_
        refine ⟨p, _, _, _, rfl, rfl, SqL.of g7, atI_nat (j := 0) rfl, _, .inr z, _, x7 _ _ gsa6, rfl, hsv, ⟨s3, rfl, (W6.ex x7).put nsa, ?_, ?_, ?_, ok3⟩, ?_⟩
        · rw [upd_ne (Ne.symm nsh)]
          exact x7 _ _ gha6
        · rw [upd_ne (Ne.symm nsl)]
          exact x7 _ _ hl6
        · rw [upd_same, es3]
        · show (match upd _ sa _ sa with | some (.dK kvs) => kvs.length | _ => 0) < (match H6 sa with | some (.dK kvs) => kvs.length | _ => 0)
          rw [upd_same, gsa6, es3]
          show (ssK s3).length < (ssK s2).length
          unfold ssK
          rw [List.length_map, List.length_map]
          exact l3
    · have le : s2.length ≤ 20 := by
        have : ¬ (20 : Int) < ((ssK s2).length : Nat) := fun z => b (decide_eq_true z)
        omega
      have sok := sm6.ok le
      clear W5 gha5 hl5 gsa5 sm5 s1 sm6 b
      -- the roads
      refine ⟨_, rfl, _, rfl, w1, ha, 662, hs, rfl, W6, by omega, SqL.of gha6, nha, hok, fun pa rq H7 D7 hpa npa gpa hrq rl tied => ?_⟩
      have gha7 := D7.k _ _ nha gha6
      have hl7 := D7.k _ _ nl hl6
      have gsa7 := D7.k _ _ nsa gsa6
      have IN : LandIn K H7 ha sa pa (kwAd ("Land", some "__init__") "rules" K) ⟨hs, s2, rq, 2, []⟩ := ⟨.inl (SqL.of gha7), hok, gsa7, sok, nsh, .inl (SqL.of gpa), fun q hq => ⟨SqT.of (hrq q hq).2.2.2.1, (hrq q hq).2.2.2.2.1⟩, rl,   .inr (em_Land_init_rules T H7), (fun q h => nomatch h), by show 0 ≤ 60; decide⟩
      first | refine nrmG (σ' := [_, _, _, _, _, _, _, _, _, _, _, _, _, _]) rfl ?_ | refine nrm (σ' := [_, _, _, _, _, _, _, _, _, _, _, _, _, _]) rfl ?_
      refine ⟨_, rfl, _, rfl, _, rfl, rfl, rfl, fun x dx hx hdx _ => ?_⟩
      refine make_land hx hdx (nLR T) IN rfl rfl tied fun H8 uq8 e8 _ h8 L8 => ?_
      obtain ⟨u8, rfl⟩ := h8 rfl
      first | refine nrmG (σ' := [_, _, _, _, _, _, _, _, _, _, _, _, _, _]) rfl ?_ | refine nrm (σ' := [_, _, _, _, _, _, _, _, _, _, _, _, _, _]) rfl ?_
      have gha8 := e8 _ _ gha7
      have hl8 := e8 _ _ hl7
      have gsa8 := e8 _ _ gsa7
      have gpa8 := e8 _ _ gpa
      have W8 : Wl H8 w1 1162 := D7.wl.ex e8
      have rq8 : ∀ q ∈ rq, H8 q.1 = some (.tup q.2.vs) ∧ q.2.ok hs := fun q hq => ⟨e8 _ _ (hrq q hq).2.2.2.1, (hrq q hq).2.2.2.2.1⟩
      have LA8 := L8.at
      have hlo := hok.lo
      have at0 := atS_at (os := hs) (z := 0) (by omega) (by omega)
      have n0 : NmP (atS hs 0) := hnm _ (atS_mem (by omega) (by omega))
      clear hrq gpa IN D7 gha7 hl7 gsa7 gha6 hl6 gsa6 W6 hpa e8 L8 h8
      refine ⟨_, rfl, ha, _, _, _, rfl, rfl, SqL.of gha8, at0, (by show 1 ≤ sizeLine; decide), fun p1 hp1 => ?_⟩
      generalize hH_ : upd H8 p1 _ = H9
      have x9 : Evl.Ex H8 H9 := (by rw [← hH_]; exact Evl.Ex.new hp1)
      have g9 := (congrFun hH_ p1).symm
      rw [upd_same] at g9
      clear hH_
      refine ⟨_, rfl, ha, _, _, _, rfl, rfl, SqL.of (x9 _ _ gha8), at0, (by show 1 ≤ sizeLine; decide), fun p2 hp2 => ?_⟩
      generalize hH_ : upd H9 p2 _ = H10
      have x10 : Evl.Ex H9 H10 := (by rw [← hH_]; exact Evl.Ex.new hp2)
      have g10 := (congrFun hH_ p2).symm
      rw [upd_same] at g10
      clear hH_
      refine fun p3 hp3 => ?_
      generalize hH_ : upd H10 p3 _ = H11
      have x11 : Evl.Ex H10 H11 := (by rw [← hH_]; exact Evl.Ex.new hp3)
      have g11 := (congrFun hH_ p3).symm
      rw [upd_same] at g11
      clear hH_
      refine ⟨(by show 10 ≤ sizeLine; decide), fun p4 hp4 => ?_⟩
      generalize hH_ : upd H11 p4 _ = H12
      have x12 : Evl.Ex H11 H12 := (by rw [← hH_]; exact Evl.Ex.new hp4)
      have g12 := (congrFun hH_ p4).symm
      rw [upd_same] at g12
      clear hH_
      first | refine nrmG (σ' := [_, _, _, _, _, _, _, _, _, _, _, _, _, _]) rfl ?_ | refine nrm (σ' := [_, _, _, _, _, _, _, _, _, _, _, _, _, _]) rfl ?_
      have e812 : Evl.Ex H8 H12 := x9.trans (x10.trans (x11.trans x12))
      have W12 := W8.ex e812
      have np1 : p1 ≠ w1 := W8.nep hp1
      have np2 : p2 ≠ w1 := (W8.ex x9).nep hp2
      have np3 : p3 ≠ w1 := ((W8.ex x9).ex x10).nep hp3
      have np4 : p4 ≠ w1 := (((W8.ex x9).ex x10).ex x11).nep hp4
      have g912 := x12 _ _ (x11 _ _ (x10 _ _ g9))
      have g1012 := x12 _ _ (x11 _ _ g10)
      have g1112 := x12 _ _ g11
      have LA12 := LA8.ex e812
      have gha12 := e812 _ _ gha8
      have gsa12 := e812 _ _ gsa8
      have gpa12 := e812 _ _ gpa8
      have hl12 := e812 _ _ hl8
      have rq12 : ∀ q ∈ rq, q.1 ≠ w1 ∧ H12 q.1 = some (.tup q.2.vs) ∧ q.2.ok hs := fun q hq => ⟨wl_tup W8 (rq8 q hq).1, e812 _ _ (rq8 q hq).1, (rq8 q hq).2⟩
      clear g9 g10 g11 x9 x10 x11 x12 hp1 hp2 hp3 hp4 gha8 hl8 gsa8 gpa8 W8 rq8 LA8 e812
      refine ⟨_, rfl, _, rfl, sa, _, rfl, .inl gsa12, fun q1 hq1 => ?_⟩
      have nq1 : q1 ≠ w1 := W12.nep hq1
      generalize hH_ : upd H12 q1 _ = H13
      have x13 : Evl.Ex H12 H13 := (by rw [← hH_]; exact Evl.Ex.new hq1)
      have g13 := (congrFun hH_ q1).symm
      rw [upd_same] at g13
      clear hH_
      have slk : ((ssK s2).map fun kv => kV kv.1) = (s2.map (·.1)).map V.str := by
        unfold ssK
        rw [List.map_map, List.map_map]
        rfl
      rw [slk] at g13
      have s2l := sok.hi
      have hsm : (hs.map V.str).length = hs.length := List.length_map ..
      have s2m : ((s2.map (·.1)).map V.str).length = s2.length := by rw [List.length_map, List.length_map]
      refine ⟨ha, q1, _, _, rfl, rfl, x13 _ _ gha12, g13, (by rw [hsm, s2m, sizeLine_eq]; omega), fun q2 hq2 => ?_⟩
      have nq2 : q2 ≠ w1 := (W12.ex x13).nep hq2
      generalize hH_ : upd H13 q2 _ = H14
      have x14 : Evl.Ex H13 H14 := (by rw [← hH_]; exact Evl.Ex.new hq2)
      have g14 := (congrFun hH_ q2).symm
      rw [upd_same] at g14
      clear hH_
      refine ⟨_, rfl, w1, 1162, 3, rfl, (W12.ex x13).ex x14, by omega, by omega, fun nl2 zs H15 D15 hnl nnl gnl znl znd znm => ?_⟩
      have zsm : (zs.map V.str).length = 3 := by rw [List.length_map]; exact znl
      refine ⟨q2, nl2, _, _, rfl, rfl, D15.k _ _ nq2 g14, gnl, (by rw [List.length_append, hsm, s2m, zsm, sizeLine_eq]; omega), fun q3 hq3 => ?_⟩
      have nq3 : q3 ≠ w1 := D15.wl.nep hq3
      generalize hH_ : upd H15 q3 _ = H16
      have x16 : Evl.Ex H15 H16 := (by rw [← hH_]; exact Evl.Ex.new hq3)
      have g16 := (congrFun hH_ q3).symm
      rw [upd_same] at g16
      clear hH_
      have D16 : Dn w1 1222 H12 H16 := ⟨D15.wl.ex x16, (Ex.wk w1 (x13.trans x14)).trans (D15.k.trans (Ex.wk w1 x16))⟩
      refine ⟨_, rfl, _, rfl, w1, p4, 1222, _, rfl, D16.wl, by omega, SqL.of (D16.k _ _ np4 g12), np4, (by show 0 < 10; decide), (by show 10 ≤ 1000000; decide), fun o1 H17 ho1 D17 => ?_⟩
      refine ⟨_, rfl, _, rfl, w1, p4, 1223, _, rfl, D17.wl, by omega, SqL.of (D17.k _ _ np4 (D16.k _ _ np4 g12)), np4, (by show 0 < 10; decide), (by show 10 ≤ 1000000; decide), fun o2 H18 ho2 D18 => ?_⟩
      refine ⟨(by show 2 ≤ sizeLine; decide), fun q4 hq4 => ?_⟩
      generalize hH_ : upd H18 q4 _ = H19
      have x19 : Evl.Ex H18 H19 := (by rw [← hH_]; exact Evl.Ex.new hq4)
      have g19 := (congrFun hH_ q4).symm
      rw [upd_same] at g19
      clear hH_
      refine ⟨q3, q4, _, _, rfl, rfl, x19 _ _ (D18.k _ _ nq3 (D17.k _ _ nq3 g16)), g19, (by rw [List.length_append, List.length_append, hsm, s2m, zsm, sizeLine_eq]; show _ + 2 ≤ _; omega), fun q5 hq5 => ?_⟩
      generalize hH_ : upd H19 q5 _ = H20
      have x20 : Evl.Ex H19 H20 := (by rw [← hH_]; exact Evl.Ex.new hq5)
      have g20 := (congrFun hH_ q5).symm
      rw [upd_same] at g20
      clear hH_
      first | refine nrmG (σ' := [_, _, _, _, _, _, _, _, _, _, _, _, _, _]) rfl ?_ | refine nrm (σ' := [_, _, _, _, _, _, _, _, _, _, _, _, _, _]) rfl ?_
      have D20 : Dn w1 1224 H12 H20 := ⟨(D18.wl.ex x19).ex x20, D16.k.trans (D17.k.trans (D18.k.trans ((Ex.wk w1 x19).trans (Ex.wk w1 x20))))⟩
      have gha20 := D20.k _ _ nha gha12
      have gsa20 := D20.k _ _ nsa gsa12
      have gpa20 := D20.k _ _ npa gpa12
      have hl20 := D20.k _ _ nl hl12
      have rq20 : ∀ q ∈ rq, H20 q.1 = some (.tup q.2.vs) ∧ q.2.ok hs := fun q hq => ⟨D20.k _ _ (rq12 q hq).1 (rq12 q hq).2.1, (rq12 q hq).2.2⟩
      have LA20 : LandAt K H20 x ⟨hs, s2, rq, 2, [(u8, r0)]⟩ := by
        obtain ⟨x0, y0, c0, hw, _⟩ := W12
        exact ((LA12.hid hw).ex D20.hx).ex hid_ex
      have odd : ∀ v, v ∈ [V.non, .int 5, .bl true, .str "", .str "A", .str "ninesigns", .ref p1, .ref p2, .ref p3, .int 0] → ∃ D, Thg K H20 v D := by
        intro v hv
        have gp1 := D20.k _ _ np1 g912
        have gp2 := D20.k _ _ np2 g1012
        have gp3 := D20.k _ _ np3 g1112
        have szn : Sz 100 0 (.str (atS hs 0)) := (Sz.str n0.as).mono (by decide) (by decide)
        simp only [List.mem_cons, List.not_mem_nil, or_false] at hv
        rcases hv with rfl | rfl | rfl | rfl | rfl | rfl | rfl | rfl | rfl | rfl
        · exact ⟨_, .non, Sz.non.mono (by decide) (by decide), fun _ e => nomatch e⟩
        · exact ⟨_, .int _, (Sz.nat (by decide) (by decide +kernel)).mono (by decide) (by decide), fun _ e => nomatch e⟩
        · exact ⟨_, .bl _, (Sz.bl _).mono (by decide) (by decide), fun _ e => nomatch e⟩
        · exact ⟨_, .str _, (Sz.str (B := 9) ⟨by decide, by decide +kernel⟩).mono (by decide) (by decide), fun y e => by cases e; decide⟩
        · exact ⟨_, .str _, (Sz.str (B := 9) ⟨by decide, by decide +kernel⟩).mono (by decide) (by decide), fun y e => by cases e; decide⟩
        · exact ⟨_, .str _, (Sz.str (B := 9) ⟨by decide, by decide +kernel⟩).mono (by decide) (by decide), fun y e => by cases e; decide⟩
        · exact ⟨_, .lst (SqL.of gp1) (.cons (.str _) .nil), (Sz.lst (n := 1) (forall1 szn) (Nat.le_refl _)).mono (by decide) (by decide), fun _ e => nomatch e⟩
        · exact ⟨_, .tup (SqT.of gp2) (.cons (.str _) .nil), (Sz.tup (n := 1) (forall1 szn) (Nat.le_refl _)).mono (by decide) (by decide), fun _ e => nomatch e⟩
        · exact ⟨.dict [], .dct gp3 .nil, (Sz.dct (l := []) (n := 1) (B := 5) (k := 1) (fun d h => nomatch h) (by decide)).mono (by decide) (by decide), fun _ e => nomatch e⟩
        · exact ⟨_, .int _, (Sz.nat (by decide) (by decide +kernel)).mono (by decide) (by decide), fun _ e => nomatch e⟩
      have all20 : ∀ v ∈ (((hs.map V.str ++ (s2.map (·.1)).map V.str) ++ zs.map V.str) ++ [o1, o2]), ∃ D, Thg K H20 v D := by
        intro v hv
        simp only [List.mem_append, List.mem_map, List.mem_cons, List.not_mem_nil, or_false] at hv
        rcases hv with ((⟨z, hz, rfl⟩ | ⟨z, ⟨q, hq, rfl⟩, rfl⟩) | ⟨z, hz, rfl⟩) | rfl | rfl
        · exact ⟨_, .nm (hnm z hz)⟩
        · exact ⟨_, .nm (sok.nm q hq).1⟩
        · exact ⟨_, .nm (znm z hz)⟩
        · exact odd _ ho1
        · exact odd _ ho2
      generalize (((hs.map V.str ++ (s2.map (·.1)).map V.str) ++ zs.map V.str) ++ [o1, o2]) = xs at g20 all20
      generalize hL : (⟨hs, s2, rq, 2, [(u8, r0)]⟩ : LandD) = L at LA20
      have hLh : L.hs = hs := by rw [← hL]
      have hLs : L.ss = s2 := by rw [← hL]
      have hLr : L.rq = rq := by rw [← hL]
      clear hL D20 LA12 gha12 gsa12 gpa12 hl12 rq12 W12 g912 g1012 g1112 g12 g13 g14 g16 g19 D15 D16 D17 D18 x13 x14 x16 x19 x20 hq1 hq2 hq3 hq4 hq5 ho1 ho2 odd gnl hnl hx hdx tied
      have rql : (rqV rq).length = rq.length := List.length_map ..
      refine ⟨_, rfl, q5, rfl, ⟨_, SqL.of g20⟩, for_list (K := K) (a := q5) (xs := xs) (fun i σ H' => ∃ u9 u10 u13 : Option V, σ = [some (.ref a), some (.int cell), some (.ref w1), some (.ref ha), some (.ref sa), some (.ref pa), some (.ref x), some (.ref p4), some (.ref q5), u9, u10, none, none, u13] ∧ Evl.Ex H20 H') ⟨_, _, _, rfl, Evl.Ex.refl _⟩ (fun i σ H' _ q => by obtain ⟨_, _, _, _, e⟩ := q; exact SqL.of (e _ _ g20)) ?_ ?_⟩
      rotate_left
      · rintro σ H' ⟨u9, u10, u13, rfl, e⟩
        exact ⟨⟨_, _, _, _, _, _, _, _, _, _, _, rfl⟩, e _ _ hl20⟩
      rintro j v σ H21 hv ⟨u9, u10, u13, rfl, e21⟩
      obtain ⟨D, th20⟩ := all20 v (List.mem_of_getElem? hv)
      have th21 := th20.ex e21
      refine ⟨_, rfl, pa, _, rfl, SqL.of (e21 _ _ gpa20), fun dl hdl => ?_⟩
      refine lc_fm (walk_enum (K := K) (a := pa) (xs := rqV rq)) (fun i => match rq[i]? with | some q => isTx D q.2.b | none => false) (fun i => .int (i : Nat)) hdl (by omega) (fun H' he => SqL.of (he _ _ (e21 _ _ gpa20))) (fun i y H22 H23 C N hi he hy hc hn => ?_) (fun H22 e22 hd22 => ?_)
      · obtain ⟨T', x1, x2, rfl, hT', rfl, hx1, hx2⟩ := hy
        obtain ⟨q, hq, rfl⟩ := map_at hx2
        obtain rfl : x1 = .int (i : Nat) := (Option.some.inj hx1).symm
        have eA : Evl.Ex H22 (upd H22 T' (.tup [.int (i : Nat), .ref q.1])) := Evl.Ex.new hT'
        have e20A := e21.trans (he.trans eA)
        refine ⟨T', _, rfl, SqT.of upd_same, rfl, _, _, rfl, _, _, rfl, rfl, rfl, _, rfl, q.1, _, _, _, rfl, rfl, SqT.of (e20A _ _ (rq20 q (List.mem_of_getElem? hq)).1), atI_nat (j := 0) rfl, _, rfl, D, _, rfl, (th20.ex e20A).dr, _, rfl, ?_⟩
        refine ite2 (fun b => ?_) (fun b => ?_)
        · exact ⟨_, rfl, hc (by simp only [hq]; exact b) _ eA⟩
        · exact hn (by simp only [hq]; exact Bool.eq_false_iff.mpr b) _ eA
      first | refine nrmG (σ' := [_, _, _, _, _, _, _, _, _, _, _, _, _, _]) rfl ?_ | refine nrm (σ' := [_, _, _, _, _, _, _, _, _, _, _, _, _, _]) rfl ?_
      have e2022 := e21.trans e22
      have th22 := th20.ex e2022
      have rlL : L.rq.length ≤ 16 := by rw [hLr]; exact rl
      have sokL : SsOk hs L.ss := by rw [hLs]; exact sok
      refine ⟨fun σ' H' => ∃ dv, σ' = [some (.ref a), some (.int cell), some (.ref w1), some (.ref ha), some (.ref sa), some (.ref pa), some (.ref x), some (.ref p4), some (.ref q5), some v, some (.ref dl), none, none, some dv] ∧ Evl.Ex H20 H' ∧ Dr K H' dv (told11 L true D), ?_, ?_⟩
      · refine ⟨_, rfl, _, rfl, D, ha, hs, rfl, SqL.of (e2022 _ _ gha20), th22.dr, _, rfl, ?_⟩
        rw [inD_has hnm]
        cases hb : hasD hs D with
        | true =>
          refine iteT ⟨_, rfl, (by show 2 ≤ sizeLine; decide), fun p hp => ⟨_, rfl, e2022.trans (Evl.Ex.new hp), ?_⟩⟩
          rw [told_hy (by rw [hLh]; exact hb), hLr]
          rw [← inD_has hnm] at hb
          obtain ⟨z, rfl, zm⟩ := inD_of hb
          have hd23 : H22 dl = some (.lst ((rdFrom z 0 (rq.map (·.2))).map V.int)) := by
            rw [hd22, rdFrom_filter, List.map_map, rql, List.length_map]
            congr 3
            refine List.filter_congr fun i hi => ?_
            rw [List.getElem?_map]
            cases e : rq[i]? with
            | none => exact (decide_eq_false (by simp)).symm
            | some q =>
              show isTx (.str z) q.2.b = _
              rw [isTx_str]
              simp
          exact .tup (SqT.of upd_same) (.cons (.str _) (.cons (.lst (SqL.of (Evl.Ex.new hp _ _ hd23)) (drInts _)) .nil))
        | false =>
          refine iteF ⟨_, rfl, (by show 2 ≤ sizeLine; decide), fun p hp => ⟨_, rfl, e2022.trans (Evl.Ex.new hp), ?_⟩⟩
          rw [told_hn (by rw [hLh]; exact hb)]
          exact .tup (SqT.of upd_same) (.cons (.str _) (.cons (Dr.ex (Evl.Ex.new hp) _ _ th22.dr) .nil))
      rintro σ H23 ⟨dv, rfl, e23, hdv⟩
      refine ⟨_, rfl, _, rfl, x, L, true, v, D, rfl, LA20.ex e23, rlL, (th20.ex e23).dr, th20.sh, fun u H24 e24 hu => ?_⟩
      try unfold tNil
      refine land_repr (told11_rp true th20.sz rlL sokL) hu ?_
      refine ⟨_, rfl, ?_⟩
      try unfold tNil
      refine land_repr (told11_rp true th20.sz rlL sokL) (Dr.ex e24 _ _ hdv) ?_
      refine ⟨rfl, _, rfl, iteF' (by rw [decide_eq_true rfl]; rfl) ?_⟩
      have e2024 := e23.trans e24
      have th24 := th20.ex e2024
      refine ⟨fun σ' H' => ∃ dv, σ' = [some (.ref a), some (.int cell), some (.ref w1), some (.ref ha), some (.ref sa), some (.ref pa), some (.ref x), some (.ref p4), some (.ref q5), some v, some (.ref dl), none, none, some dv] ∧ Evl.Ex H20 H' ∧ Dr K H' dv (told11 L false D), ?_, ?_⟩
      · refine ⟨_, rfl, _, rfl, sa, _, rfl, .inl (e2024 _ _ gsa20), fun kl hkl => ?_⟩
        generalize hH_ : upd H24 kl _ = H25
        have x25 : Evl.Ex H24 H25 := (by rw [← hH_]; exact Evl.Ex.new hkl)
        have g25 := (congrFun hH_ kl).symm
        rw [upd_same] at g25
        clear hH_
        rw [slk] at g25
        refine ⟨D, kl, s2.map (·.1), rfl, SqL.of g25, Dr.ex x25 _ _ th24.dr, _, rfl, ?_⟩
        rw [inD_has (fun z hz => by obtain ⟨q, hq, rfl⟩ := List.mem_map.mp hz; exact (sok.nm q hq).1)]
        have e2025 := e2024.trans x25
        have th25 := th20.ex e2025
        cases hb : hasD (s2.map (·.1)) D with
        | true =>
          have hb2 := hb
          rw [← inD_has (fun z hz => by obtain ⟨q, hq, rfl⟩ := List.mem_map.mp hz; exact (sok.nm q hq).1)] at hb2
          obtain ⟨z, rfl, zm⟩ := inD_of hb2
          obtain ⟨sv, hsv, hvv⟩ := ss_val zm
          obtain rfl := dr_strV th25.dr
          have gg := DGet.k (k := .inr z) (e2025 _ _ gsa20)
          rw [hvv] at gg
          refine iteT ⟨_, rfl, _, rfl, sa, _, rfl, gg, (by show 2 ≤ sizeLine; decide), fun p hp => ⟨_, rfl, e2025.trans (Evl.Ex.new hp), ?_⟩⟩
          rw [told_sy (by rw [hLs]; exact hb), hLs, show strOf (.str z) = z from rfl, hsv]
          exact .tup (SqT.of upd_same) (.cons (.str _) (.cons (.str _) .nil))
        | false =>
          refine iteF ⟨_, rfl, (by show 2 ≤ sizeLine; decide), fun p hp => ⟨_, rfl, e2025.trans (Evl.Ex.new hp), ?_⟩⟩
          rw [told_sn (by rw [hLs]; exact hb)]
          exact .tup (SqT.of upd_same) (.cons (.str _) (.cons (Dr.ex (Evl.Ex.new hp) _ _ th25.dr) .nil))
      rintro σ H25 ⟨dv2, rfl, e25, hdv2⟩
      refine ⟨_, rfl, _, rfl, x, L, false, v, D, rfl, LA20.ex e25, rlL, (th20.ex e25).dr, th20.sh, fun u2 H26 e26 hu2 => ?_⟩
      try unfold tNil
      refine land_repr (told11_rp false th20.sz rlL sokL) hu2 ?_
      refine ⟨_, rfl, ?_⟩
      try unfold tNil
      refine land_repr (told11_rp false th20.sz rlL sokL) (Dr.ex e26 _ _ hdv2) ?_
      refine ⟨rfl, _, rfl, iteF' (by rw [decide_eq_true rfl]; rfl) ?_⟩
      exact ⟨_, _, _, rfl, e25.trans e26⟩
  · intro σ H' Q1 Q2 hQ h1
    obtain ⟨v, e1, b1, kv, e2, g1, i, j, e3, e4, c, e5, q⟩ := h1
    exact ⟨v, e1, b1, kv, e2, g1, i, j, e3, e4, c, e5, hQ _ _ q⟩
end
theorem law_ok (w : World) (mg : Str → Option Value) (K : PySem.W.Frag) (T : TX w K mg) : ∃ fd : FuncData, mg "law" = some (.ref (He.ga K "law")) ∧ (∀ (s : Shared) (u : Value), BindsTo s fd ⟨[u], []⟩ [("_law_script", u)]) ∧
    ∀ base : Heap, FnG PySem.Challenge.pw_trailpost_k11_houses_and_streets_not_the w K mg base CX0 (8 + 1) (He.ga K "law") fd ["_law_script"] (spLaw K) := by
  obtain ⟨fd, hb, hF⟩ := law_fd (P := PySem.Challenge.pw_trailpost_k11_houses_and_streets_not_the) (w := w) (mg := mg) (sp := spLaw K) (x := "_law_script") (D_law T) sc_law rfl (fun _ _ _ _ _ _ us hl => match us, hl with | [_], _ => rfl) (fun vs H Q E h => by obtain ⟨a, ns, rfl, _⟩ := h; rfl) (fun base => body_law T base)
  exact ⟨fd, g_law T, hb, hF⟩
end Lw
open PySem PySem.W PySem.Calls PyProof.Rows
theorem PySem.Challenge.cw_trailpost_k11_houses_and_streets_not_the_holds : PySem.Challenge.rw_trailpost_k11_houses_and_streets_not_the.Holds := by
  w_on; o_law
  refine HandSHeadRun.head_any (r := OpenLaw.row PySem.Challenge.rw_trailpost_k11_houses_and_streets_not_the) (q := view (OpenLaw.row PySem.Challenge.rw_trailpost_k11_houses_and_streets_not_the).prog [44]) (H := Lw.hk) (ob := Lw.ob) (M := 6000) (loose := Lw.loose) (d := HandSHeadRun.topDef (OpenLaw.row PySem.Challenge.rw_trailpost_k11_houses_and_streets_not_the).prog 44) (kwd := []) Lw.ob_eq
    (by kernel_rfl) (fun s => by kernel_rfl) Lw.run (by kernel_rfl) (by kernel_rfl) (by kernel_rfl) (by rfl) (by first | assumption | decide +kernel) (by decide +kernel) ⟨rfl, rfl, rfl, rfl, rfl, by decide +kernel⟩ ?hw ?hc
  case hw => w_witness2
  case hc => exact TP.walkM (l := PySem.Challenge.rw_trailpost_k11_houses_and_streets_not_the) (x := "_law_script") rfl (by kernel_rfl) ⟨rfl, by decide, by decide⟩ (by kernel_rfl) (fun w mg K T => Lw.law_ok w mg K T)
