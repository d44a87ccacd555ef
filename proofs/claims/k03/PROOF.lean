import PyProof.Rows.All
import Wide.All
import OpenK.AllK
import Wide.FinOn
import HandS.Base
import HandS.Call
import HandS.List
import HandS.Comp
import HandS.Ends
import HandS.EndBits
import HandS.Dict
import HandS.Iter
import HandS.Text
import HandS.Words
import HandS.Defaults
import HandS.Wide
import HandS.HeadHook1
import HandS.HeadHook2
import PyProof.ReprRoads
import PyProof.ReprLen
import PyProof.ReprBulk
import HandS.Head2
import HandS.HeadEnd
import HandS.HeadHook3
import HandS.IsInst
import HandS.TupLe
import HandS.TupAny
import HandS.Evl
import HandS.Steps
import HandS.WordsList
import HandS.WordsDict
import HandS.Exc
import HandS.WordsExc
import PyProof.StrBlock2
import PyProof.StrLawsRepr
import HandS.Walk
import KE.GoesZip
import KE.GoesMore
import KE.KDictWalk
import HandS.MakeKwOnly
import HandS.More
import HandS.NoneIn
import HandS.Flow
import HandS.ExcInit
import HandS.ExcField
import HandS.ExcIs
import KE.KExcIs
import HandS.ClsMeth
import HandS.TryMany
import HandS.ExcOwn
import HandS.Lambda
import HandS.SuiteRaise
import KE.DataEq
import HandS.Conv
import PySem.Challenge.RW_trailpost_k03_rules_made_and_refused
set_option Elab.async false
set_option linter.all false
set_option maxRecDepth 100000
set_option maxHeartbeats 4000000
namespace TP
open PySem PySem.Spec PyProof.Rows L2

/-! ### defs that are called where no repr is under way -/
structure FnG (P : Program) (w : World) (K : PySem.W.Frag) (mg : Str → Option Value) (base : Heap) (CX : CXT) (k : Nat) (f : Addr) (fd : FuncData) (ps : List Str) (sp : Sp) : Prop where
  len : ∀ vs H Q E, sp vs H Q E → vs.length = ps.length
  run : ∀ (A : Around) (outer : List Env) (s : Shared) (H : Hp) (args : Args) (us : List Value) (vs : List V) (Q : VK) (E : XK), A.guards = some [] → Room k A →
    Env0 P w K mg base A outer s H → BindsTo s fd args (ps.zip us) → Vals vs us → sp vs H Q E → codeAny (model P w) A (.call (.ref f) args) (CR CX outer P w H s Q E) s
theorem FnG.of {P : Program} {w : World} {K : PySem.W.Frag} {mg : Str → Option Value} {base : Heap} {CX : CXT} {k : Nat} {f : Addr} {fd : FuncData} {ps : List Str} {sp : Sp}
    (F : FnOk P w K mg base CX k f fd ps sp) : FnG P w K mg base CX k f fd ps sp :=
  ⟨F.len, fun A outer s H args us vs Q E _ hr => F.run A outer s H args us vs Q E hr⟩

section
variable {P : Program} {w : World} {K : PySem.W.Frag} {mg : Str → Option Value} {base : Heap} {CX : CXT}
/-- a def by its body, called where no repr is under way -/
theorem fnG_of {k : Nat} {f : Addr} {name qual : Str} {params : Arguments} {body : List Stmt} {scope : Scope} {dV kV doc pm cdv ct oc : Value} {an od : Option Addr} {osl : Array (Option Value)} {N ps : List Str} {sp : Sp}
    (lk : K.lookup f = some ⟨oc, od, .func (PySem.W.fnOf name qual params body scope dV kV doc pm an cdv ct), osl⟩)
    (hcd : PySem.W.codeIn K cdv qual = true) (S : FnScope N ps scope) (len : ∀ vs H Q E, sp vs H Q E → vs.length = ps.length)
    (hbody : ∀ (A : Around) (outer : List Env) (s : Shared) (H : Hp) (vs : List V) (Q : VK) (E : XK), A.guards = some [] → Room k (A.deeper (envOfC qual scope s.heap.objs.size f cdv)) → sp vs H Q E →
      ∃ t, PSs (cxOf CX P w K mg base N qual scope f cdv A outer s H E) body t ∧ t { nx := fun _ H' => Q .non H', rt := Q } (start N vs) H) :
    FnG P w K mg base CX (k + 1) f (PySem.W.fnOf name qual params body scope dV kV doc pm an cdv ct) ps sp := by
  refine ⟨len, fun A outer s H args us vs Q E hgd hr e0 hb r hsp => ?_⟩
  have hlen := len _ _ _ _ hsp
  have kx : K.In s.heap := e0.mod.kin.keeps fun b o e => (e0.bs b o e).1
  have lim := e0.mod.nolimit.keeps (h' := s.heap) fun b o e => (e0.bs b o e).1
  have kinds : ∀ y ∈ ps.zip us, scope.names.lookup y.1 = some .local ∨ (scope.names.lookup y.1 = some .cell ∧
      ((cellsFrom (s.heap.objs.size + 1) scope.names []).lookup y.1).isSome = true) := fun ⟨n, v⟩ hy => by
    rcases S.par n (List.of_mem_zip hy).1 with q | q
    · exact .inl q
    · exact .inr ⟨q, PySem.W.cellsFrom_some _ _ _ (.inl q)⟩
  refine codeAny_call_function hr.depth (kx _ _ lk) rfl S.co S.gen rfl (PySem.W.codeRec_of kx hcd) (hb _ _ _ _ ?_)
  refine wpAny_newFunctionEnv_cells S.kind kinds fun env he s1 x => ?_
  subst he
  refine ⟨lim.keeps x.toInCall.keep, codeAny_func ?_⟩
  obtain ⟨t, ht, hq⟩ := hbody A outer s H vs Q E hgd (hr.deeper _) hsp
  have I : Inv (cxOf CX P w K mg base N qual scope f cdv A outer s H E) [] (start N vs) H s1 := inv_start S hr.hd e0 hlen r x
  refine wpAny_mono (ht.run [] s1 (start N vs) H _ I hq) (fun fl s' hs => ?_) fun e s' hs => hs
  cases fl with
  | ret u =>
    obtain ⟨v, σ', H', J, rv, q⟩ := hs
    exact ⟨v, H', J.os, J.bare, J.base, J.hok, rv, q⟩
  | next =>
    obtain ⟨σ', H', J, q⟩ := hs
    exact ⟨V.non, H', J.os, J.bare, J.base, J.hok, rfl, q⟩
  | brk =>
    obtain ⟨_, _, _, q⟩ := hs
    exact q.elim
  | cont =>
    obtain ⟨_, _, _, q⟩ := hs
    exact q.elim
end

section
variable {X : Cx} {CX : CXT} {k : Nat} {f : Addr} {fd : FuncData} {ps : List Str} {sp : Sp} {E : XK} {x : Str} {p pos : Pos} {e : Expr} {es : List Expr} {t : TA}
theorem pe_callG (F : FnG X.prog X.w X.K X.mg X.base CX k f fd ps sp) (hgd : X.A.guards = some []) (hr : Room k X.A) (hg : Gl X x) (hm : X.mg x = some (.ref f))
    (hk : PySem.W.keepIn X.K (.ref f) = true) (hb : Binds X.K fd ps []) (hx : Passes CX X E) (ha : PA X (e :: es) t) (hdb : (x == ("__debug__" : Str)) = false := by decide)
    (he : starEach (e :: es) X.env = (false, eval e X.env) :: starEach es X.env := by rfl) (hpl : (backTo pos (starEach es X.env)).any (·.1) = false := by rfl) :
    PE X (.Call (.Name x p) (e :: es) [] pos) (tCall sp [] E t) := by
  refine ⟨fun pins s σ H Q I h => wpAny_Call_Name_kw (ld_glob I hg hm ?_ hdb)⟩
  refine PySem.W.callWith_K (h₀ := X.base) I.ok.mod.kin hk (thn (ha.run pos pins s σ H _ I h) fun us s1 ⟨vs, H1, I1, r, q⟩ => ⟨I1.kIn, ?_⟩) he hpl
  have q' : sp vs H1 Q E := by
    have q0 : sp (vs ++ []) H1 Q E := q
    rw [List.append_nil] at q0
    exact q0
  have hl : (us ++ []).length = ps.length := by
    rw [List.append_nil, ← r.length]
    exact F.len _ _ _ _ q'
  have hbt := hb s1 us I1.kIn hl
  rw [List.append_nil] at hbt
  refine wpAny_call (codeAny_mono (F.run X.A X.stack s1 H1 ⟨us, []⟩ us vs Q E hgd hr I1.env0 hbt r q') fun r s' hq => ?_)
  cases r with
  | error e => exact hx pins σ H1 s1 e s' I1 hq
  | ok fl =>
    cases fl with
    | ret u => exact I1.after hq
    | next => exact hq.elim
    | brk => exact hq.elim
    | cont => exact hq.elim
end
end TP

namespace TP
open PySem PySem.Spec PyProof.Rows L2

/-! ### data with dicts: what a value shows -/
def kD : Key → PyData
  | .inl i => .int i
  | .inr x => .str x
mutual
inductive Dr (K : PySem.W.Frag) (H : Hp) : V → PyData → Prop
  | non : Dr K H .non .none
  | bl (b : Bool) : Dr K H (.bl b) (.bool b)
  | int (i : Int) : Dr K H (.int i) (.int i)
  | str (x : Str) : Dr K H (.str x) (.str x)
  | lst {a : Addr} {xs : List V} {ds : List PyData} : SqL K H a xs → DrAll K H xs ds → Dr K H (.ref a) (.list ds)
  | tup {a : Addr} {xs : List V} {ds : List PyData} : SqT K H a xs → DrAll K H xs ds → Dr K H (.ref a) (.tuple ds)
  | dct {a : Addr} {kvs : List (Key × V)} {ds : List (PyData × PyData)} : H a = some (.dK kvs) → DrKv K H kvs ds → Dr K H (.ref a) (.dict ds)
inductive DrAll (K : PySem.W.Frag) (H : Hp) : List V → List PyData → Prop
  | nil : DrAll K H [] []
  | cons {v : V} {vs : List V} {d : PyData} {ds : List PyData} : Dr K H v d → DrAll K H vs ds → DrAll K H (v :: vs) (d :: ds)
inductive DrKv (K : PySem.W.Frag) (H : Hp) : List (Key × V) → List (PyData × PyData) → Prop
  | nil : DrKv K H [] []
  | cons {k : Key} {v : V} {vs : List (Key × V)} {d : PyData} {ds : List (PyData × PyData)} : Dr K H v d → DrKv K H vs ds → DrKv K H ((k, v) :: vs) ((kD k, d) :: ds)
end
/-- the modules' dict is known -/
def SysK (K : PySem.W.Frag) : Prop := ∃ o, K.lookup sysModules = some o ∧ o.cls = .type "dict"
theorem keyReads {h : Heap} {k : Key} {u : Value} (e : keyIs k u = true) : Reads h u (kD k) [] := by
  rcases keyIs_shape e with ⟨i, t, rfl, rfl⟩ | ⟨x, t, rfl, rfl⟩
  · exact Reads.int i t
  · exact Reads.str x t
section
variable {X : Cx} {pins : List (Addr × Obj)} {σ : L2.St} {H : Hp} {s : Shared}
theorem sys_ne (hS : SysK X.K) (I : Inv X pins σ H s) {a : Addr} {o : Obj} (ho : s.heap.get? a = some o) (hc : o.cls ≠ .type "dict") : a ≠ sysModules := fun z => by
  obtain ⟨od, hl, hd⟩ := hS
  have q := I.kIn _ _ hl
  rw [← z, ho] at q
  cases q
  exact hc hd
mutual
theorem Dr.reads (hS : SysK X.K) (I : Inv X pins σ H s) : ∀ (d : PyData) (v : V) (u : Value), Dr X.K H v d → RelV v u → ∃ as, Reads s.heap u d as ∧ sysModules ∉ as
  | .none, _, _, h, r => by
    cases h
    cases r
    exact ⟨_, Reads.none, List.not_mem_nil⟩
  | .bool b, _, _, h, r => by
    cases h
    cases r
    exact ⟨_, Reads.bool b, List.not_mem_nil⟩
  | .int i, _, _, h, r => by
    cases h
    obtain ⟨t, rfl⟩ := r
    exact ⟨_, Reads.int i t, List.not_mem_nil⟩
  | .str x, _, _, h, r => by
    cases h
    obtain ⟨t, rfl⟩ := r
    exact ⟨_, Reads.str x t, List.not_mem_nil⟩
  | .list ds, _, _, h, r => by
    cases h with
    | lst hs ha =>
      cases r
      obtain ⟨its, rv, ⟨o, n, ho, hc, _, hd⟩, _⟩ := I.list hs
      obtain ⟨as, hr, hn⟩ := DrAll.reads hS I ds _ its ha rv
      refine ⟨_, Reads.list ho hc hd hr, fun z => ?_⟩
      rcases List.mem_cons.mp z with e | e
      · exact sys_ne hS I ho (by rw [hc]; decide) e.symm
      · exact hn e
  | .tuple ds, _, _, h, r => by
    cases h with
    | tup hs ha =>
      cases r
      obtain ⟨its, rv, ⟨o, ho, hc, n, hd⟩, _⟩ := I.tuple hs
      obtain ⟨as, hr, hn⟩ := DrAll.reads hS I ds _ its ha rv
      exact ⟨_, Reads.tuple ho hc hd hr, hn⟩
  | .dict ds, _, _, h, r => by
    cases h with
    | dct hs ha =>
      cases r
      obtain ⟨_, hy, vs, rel, o, es, ep, ho, hx, hd, _, hp, _⟩ := dk_of I.hok hs
      obtain ⟨bs, h1, h2, hn⟩ := DrKv.reads hS I ds _ vs es.toList ha rel hp
      refine ⟨_, Reads.dict ho hx.1 hd h1 h2, fun z => ?_⟩
      rcases List.mem_cons.mp (show sysModules ∈ _ :: _ from z) with e | e
      · rw [← e] at hy
        exact absurd hy (by decide)
      · exact hn e
theorem DrAll.reads (hS : SysK X.K) (I : Inv X pins σ H s) : ∀ (ds : List PyData) (vs : List V) (us : List Value), DrAll X.K H vs ds → Vals vs us → ∃ as, ReadsAll s.heap us ds as ∧ sysModules ∉ as
  | [], _, _, h, r => by
    cases h
    cases r
    exact ⟨_, ReadsAll.nil, List.not_mem_nil⟩
  | d :: ds, _, _, h, r => by
    cases h with
    | cons h1 h2 =>
      cases r with
      | cons r1 r2 =>
        obtain ⟨as, a1, n1⟩ := Dr.reads hS I d _ _ h1 r1
        obtain ⟨bs, a2, n2⟩ := DrAll.reads hS I ds _ _ h2 r2
        exact ⟨_, ReadsAll.cons a1 a2, fun z => (List.mem_append.mp z).elim n1 n2⟩
theorem DrKv.reads (hS : SysK X.K) (I : Inv X pins σ H s) : ∀ (ds : List (PyData × PyData)) (kvs : List (Key × V)) (vs : List (Key × Value)) (es : List DictEntry), DrKv X.K H kvs ds → KV kvs vs → Pairs (mixKind X.prog X.w) es vs →
    ∃ bs, ReadsAll s.heap (es.map (·.key)) (ds.map (·.1)) [] ∧ ReadsAll s.heap (es.map (·.val)) (ds.map (·.2)) bs ∧ sysModules ∉ bs
  | [], _, _, _, h, r, p => by
    cases h
    cases r
    cases p
    exact ⟨_, ReadsAll.nil, ReadsAll.nil, List.not_mem_nil⟩
  | (a, d) :: ds, _, _, _, h, r, p => by
    cases h with
    | cons h1 h2 =>
      cases r with
      | cons r1 r2 =>
        cases p with
        | cons p1 p2 p3 =>
          obtain ⟨bs, b1, b2, n2⟩ := DrKv.reads hS I ds _ _ _ h2 r2 p3
          obtain ⟨as, a1, n1⟩ := Dr.reads hS I d _ _ h1 r1.2
          refine ⟨as ++ bs, ReadsAll.cons (as := []) (bs := []) (keyReads (by have e := r1.1; dsimp only at e; rw [e]; exact p1)) b1, ReadsAll.cons (by dsimp only; rw [p2]; exact a1) b2, fun z => (List.mem_append.mp z).elim n1 n2⟩
end
/-- repr(x) of data -/
def rRepr (K : PySem.W.Frag) : List V → Hp → VK → Prop := fun xs H Q => ∃ (x : V) (d : PyData), xs = [x] ∧ Dr K H x d ∧ d.showable = true ∧ d.depth ≤ 50 ∧ d.shown.length ≤ sizeLine ∧ Q (.str d.shown) H
theorem call_reprG (hS : SysK X.K) (hg : X.A.guards = some []) (hu : X.A.units + 64 < cLine) : CallR X (.builtin "repr") (rRepr X.K) := by
  intro pins s σ H xs us Q I r h
  obtain ⟨x, d, rfl, hd, sh, dp, sz, q⟩ := h
  obtain ⟨u, rfl, rx⟩ := vals1 r
  cases hd with
  | non =>
    cases rx
    refine PySem.P.repr_of_none ⟨.str _, H, I.tok _, ⟨_, rfl⟩, ?_⟩
    exact q
  | bl b =>
    cases rx
    refine PySem.P.repr_of_bool ⟨.str _, H, I.tok _, ⟨_, rfl⟩, ?_⟩
    rw [PyData.shown_bool] at q
    exact q
  | int i =>
    obtain ⟨t, rfl⟩ := rx
    refine PySem.P.repr_of_int (of_decide_eq_true sh) ⟨.str _, H, I.tok _, ⟨_, rfl⟩, ?_⟩
    rw [PyData.shown_int] at q
    exact q
  | str z =>
    obtain ⟨t, rfl⟩ := rx
    rw [PyData.shown_str] at q sz
    exact PySem.P.repr_of_str ⟨.str _, H, I.tok _, ⟨_, rfl⟩, q⟩ sz
  | lst a b =>
    cases rx
    obtain ⟨as, hr, hn⟩ := Dr.reads hS I _ _ _ (Dr.lst a b) rfl
    exact repr_of_reads' hr sh (fun _ => hn) hg (by omega) (fun _ _ e => e) (fun h' u tk hk => ⟨.str _, H, I.kept (t' := tk) hk, ⟨_, rfl⟩, q⟩) sz
  | tup a b =>
    cases rx
    obtain ⟨as, hr, hn⟩ := Dr.reads hS I _ _ _ (Dr.tup a b) rfl
    exact repr_of_reads' hr sh (fun _ => hn) hg (by omega) (fun _ _ e => e) (fun h' u tk hk => ⟨.str _, H, I.kept (t' := tk) hk, ⟨_, rfl⟩, q⟩) sz
  | dct a b =>
    cases rx
    obtain ⟨as, hr, hn⟩ := Dr.reads hS I _ _ _ (Dr.dct a b) rfl
    exact repr_of_reads' hr sh (fun _ => hn) hg (by omega) (fun _ _ e => e) (fun h' u tk hk => ⟨.str _, H, I.kept (t' := tk) hk, ⟨_, rfl⟩, q⟩) sz
end
end TP

namespace TP
open PySem PySem.Spec PyProof.Rows L2

/-! ### the head: facts by names, one more Bool, the modules' dict among what is known -/
def asM (g : Addr → Option Obj) (n : Nat) : List Addr := cStatics :: sysModules :: He.asD g n
abbrev AlM : Type := He.AlT × Bool
def obsM (n : Nat) (fa : List He.Fa) (fn : List He.DefD) (ts : List He.Tab) (ex : PySem.W.Frag → Bool) (g : Addr → Option Obj) : AlM :=
  (He.obsT fa fn ts (He.frG g (asM g n)), ex (He.frG g (asM g n)))
def hookM (n : Nat) (fa : List He.Fa) (fn : List He.DefD) (ts : List He.Tab) (ex : PySem.W.Frag → Bool) : PySem.W.Hook where
  α := AlM
  obs := fun s => obsM n fa fn ts ex s.heap.get?
  val := fun w => (He.valT fn ts w, true)
  says := fun w h => ∃ K : PySem.W.Frag, K.In h ∧ He.SaysT fa fn ts w K ∧ ex K = true
  of := fun _ _ e => ⟨_, He.frG_in, congrArg (fun z : AlM => z.1) e, congrArg (fun z : AlM => z.2) e⟩
  keeps := fun _ _ _ ⟨K, hK, c⟩ k => ⟨K, PySem.W.Frag.In.keeps hK k, c⟩
theorem obsM_eq {n : Nat} {fa : List He.Fa} {fn : List He.DefD} {ts : List He.Tab} {ex : PySem.W.Frag → Bool} {g : Addr → Option Obj} {s : Shared} (h : ∀ a, g a = s.heap.get? a) :
    obsM n fa fn ts ex g = (hookM n fa fn ts ex).obs s := by
  have e : g = s.heap.get? := funext h
  rw [e] <;> rfl
/-- what is known of the text behind the top -/
structure Tx (fa : List He.Fa) (fn : List He.DefD) (ts : List He.Tab) (ex : PySem.W.Frag → Bool) (w : World) (K : PySem.W.Frag) (mg : Str → Option Value) : Prop where
  t : He.SaysT fa fn ts w K
  ex : ex K = true
  m : ∃ h : Heap, K.In h ∧ h.Ns mainGlobals mg
section
variable {fa : List He.Fa} {fn : List He.DefD} {ts : List He.Tab} {ex : PySem.W.Frag → Bool} {w : World} {K : PySem.W.Frag} {mg : Str → Option Value}
theorem Tx.c (T : Tx fa fn ts ex w K mg) : He.SaysD fa fn K := T.t.d
theorem Tx.glo (T : Tx fa fn ts ex w K mg) {x : Str} (i : Nat) (h : fa[i]? = some (.glo x) := by rfl) : mg x = some (.ref (He.ga K x)) := by
  obtain ⟨_, hk, g⟩ := T.m
  exact He.glo_ok hk g (T.c.fact i h)
theorem Tx.free (T : Tx fa fn ts ex w K mg) {x : Str} (i : Nat) (h : fa[i]? = some (.free x) := by rfl) : mg x = none := by
  obtain ⟨_, hk, g⟩ := T.m
  exact He.free_ok hk g (T.c.fact i h)
theorem Tx.int (T : Tx fa fn ts ex w K mg) {x : Str} {z : Int} (i : Nat) (h : fa[i]? = some (.int x z) := by rfl) : ∃ t, mg x = some (.int z t) := by
  obtain ⟨_, hk, g⟩ := T.m
  exact He.int_ok hk g (T.c.fact i h)
theorem Tx.str (T : Tx fa fn ts ex w K mg) {x z : Str} (i : Nat) (h : fa[i]? = some (.str x z) := by rfl) : ∃ t, mg x = some (.str z t) := by
  obtain ⟨_, hk, g⟩ := T.m
  exact He.str_ok hk g (T.c.fact i h)
/-- a table of the top: its entries, the keys in order -/
theorem Tx.tab (T : Tx fa fn ts ex w K mg) (i : Nat) {t : He.Tab} (h : ts[i]? = some t := by rfl) : ∃ es n, KDict K w (t.1 K) es n ∧ es.toList.map He.keyOf = He.keysIn w.params t.2 := by
  have e : ts.map (fun t => He.dicW K (t.1 K)) = ts.map fun t => some (He.keysIn w.params t.2) := congrArg (fun z : He.AlT => z.2) T.t
  have e2 : (ts.map fun t => He.dicW K (t.1 K))[i]? = (ts.map fun t => some (He.keysIn w.params t.2))[i]? := by rw [e]
  rw [List.getElem?_map, List.getElem?_map, h] at e2
  have e3 : He.dicW K (t.1 K) = some (He.keysIn w.params t.2) := Option.some.inj e2
  obtain ⟨es, n, D⟩ := He.dicW_ok e3
  refine ⟨es, n, D, ?_⟩
  unfold He.dicW at e3
  rw [D.at_] at e3
  have low := D.low
  simp only [low, decide_true, Array.isEmpty_empty, Bool.not_false, Bool.and_true] at e3
  exact Option.some.inj e3
end
def sysB (K : PySem.W.Frag) : Bool := match K.lookup sysModules with
  | some o => decide (o.cls = .type "dict")
  | none => false
theorem sysB_ok {K : PySem.W.Frag} (h : sysB K = true) : SysK K := by
  unfold sysB at h
  cases q : K.lookup sysModules with
  | none =>
    rw [q] at h
    cases h
  | some o =>
    rw [q] at h
    exact ⟨o, q, of_decide_eq_true h⟩

/-! ### the end -/
theorem law_callG {P : Program} {w : World} {K : PySem.W.Frag} {mg mb : Str → Option Value} {CX : CXT} {k : Nat} {fa a : Addr} {fd : FuncData} {x : Str} {sp : Sp} {s₁ : Shared} {vs : List Value} {ns : List Int}
    (KX : K.In s₁.heap) (hns : s₁.heap.Ns mainGlobals mg) (hb : s₁.heap.Ns builtinsNs mb) (hbb : ∀ x : Str, x ≠ "__name__" → mb x = bootBuiltins x) (hlim : s₁.heap.NoLimit) (hg : s₁.gens = #[])
    (ha : s₁.heap.get? a = some { cls := .type "list", data := .seq vs.toArray }) (hi : IntsAre vs ns) (hl : ns.length ≤ sizeLine) (hr : Room k callerA)
    (F : ∀ base : Heap, K.In base → base.Ns mainGlobals mg → FnG P w K mg base CX k fa fd [x] sp)
    (hbind : ∀ (s : Shared) (u : Value), BindsTo s fd ⟨[u], []⟩ [(x, u)])
    (hsp : ∀ H : Hp, Only H → SqL K H a (ns.map V.int) → sp [.ref a] H (fun v _ => v = .bl true) fun _ _ _ => False)
    (hCX : ∀ H e s', CX [] H s₁ (fun _ _ _ => False) e s' → False) :
    codeAny (model P w) callerA (.call (.ref fa) ⟨[.ref a], []⟩) (fun r s' => r = .ok (.ret (.bool true)) ∧ OldK s₁.heap s'.heap ∧ s'.os = s₁.os ∧ AllBare s'.gens) s₁ := by
  have rv := vals_ints hi
  have lv := hi.length
  have core : ∀ H : Hp, Only H → SqL K H a (ns.map V.int) → HOk P w H s₁.heap → (∀ b, H b ≠ none → b = a) → (H a ≠ none → K.lookup a = none) →
      codeAny (model P w) callerA (.call (.ref fa) ⟨[.ref a], []⟩) (fun r s' => r = .ok (.ret (.bool true)) ∧ OldK s₁.heap s'.heap ∧ s'.os = s₁.os ∧ AllBare s'.gens) s₁ := by
    intro H hO hS hok hA hK
    have keepN : ∀ {b : Addr} {o : Obj} {es : Array DictEntry} {ep : Nat}, s₁.heap.get? b = some o → o.data = .dict es ep → H b = none := fun {b o es ep} e d => by
      cases q : H b with
      | none => rfl
      | some u =>
        obtain rfl : b = a := hA b (by rw [q]; simp)
        rw [ha] at e
        cases e
        cases (show Data.seq vs.toArray _ = Data.dict es ep from d)
    have nsK : ∀ {b : Addr} {m : Str → Option Value}, s₁.heap.Ns b m → (hidT s₁.heap H).Ns b m :=
      fun {b m} ⟨o, es, ep, e, d, r⟩ => ⟨o, es, ep, hidT_get e (keepN e d), d, r⟩
    have kb : K.In (hidT s₁.heap H) := fun b o e => hidT_get (KX b o e) (by
      cases q : H b with
      | none => rfl
      | some u =>
        obtain rfl : b = a := hA b (by rw [q]; simp)
        rw [hK (by rw [q]; simp)] at e
        cases e)
    have md : Mod K mg (hidT s₁.heap H) := ⟨kb, nsK hns, ⟨mb, nsK hb, hbb⟩, let ⟨mc, h1, h2⟩ := hlim; ⟨mc, nsK h1, h2⟩⟩
    have e0 : Env0 P w K mg (hidT s₁.heap H) callerA [] s₁ H :=
      ⟨rfl, md, fun b o e => of_hidT e, Nat.le_of_eq (hidT_size _ _), trivial, fun b hb => absurd (show b ∈ ([] : List Addr) from hb) (by simp), hok, .of_eq hg⟩
    refine codeAny_mono ((F _ kb (nsK hns)).run callerA [] s₁ H ⟨[.ref a], []⟩ [.ref a] [.ref a] _ _ rfl hr e0 (hbind s₁ (.ref a)) (.cons rfl .nil) (hsp H hO hS)) fun r s' h => ?_
    cases r with
    | error e => exact (hCX H e s' h).elim
    | ok fl =>
      cases fl with
      | next => exact h.elim
      | brk => exact h.elim
      | cont => exact h.elim
      | ret u =>
        obtain ⟨v, H', os, bare, un, hok', r', q⟩ := h
        obtain rfl : v = .bl true := q
        obtain rfl : u = Value.bool true := r'
        refine ⟨rfl, OldK.of_keep fun b o e => ?_, os, bare⟩
        cases q : H b with
        | none => exact un.keep b o e q (fun z => absurd (show b ∈ ([] : List Addr) from z) (by simp)) (by simp)
        | some u =>
          rcases hO b with z | ⟨ob, xs, z⟩
          · rw [q] at z
            cases z
          · obtain ⟨e1, _⟩ := hok b _ z
            obtain ⟨e2, _⟩ := hok' b _ (un.frzs b ob _ z)
            rw [e] at e1
            cases e1
            exact e2
  cases hk : K.lookup a with
  | some o =>
    have e := KX a o hk
    rw [ha] at e
    cases e
    exact core (fun _ => none) (fun _ => .inl rfl) (.inr ⟨_, vs.toArray, _, hk, rfl, rfl, rfl, by rw [List.size_toArray, lv]; exact hl, by simpa using rv⟩)
      (fun b u z => nomatch (show (none : Option HO) = some u from z)) (fun b z => absurd rfl z) fun z => absurd rfl z
  | none =>
    refine core (fun b => if b = a then some (.frz { cls := .type "list", data := .seq vs.toArray } (.lst (ns.map V.int))) else none) (fun b => ?_)
      (.inl (.inr ⟨{ cls := .type "list", data := .seq vs.toArray }, if_pos rfl⟩)) (fun b u z => ?_) (fun b z => ?_) fun _ => hk
    · by_cases hb : b = a
      · exact .inr ⟨_, _, if_pos hb⟩
      · exact .inl (if_neg hb)
    · by_cases hb : b = a
      · cases (if_pos hb).symm.trans z
        subst hb
        exact ⟨ha, by rw [List.length_map]; exact hl, vs, _, rv, ha⟩
      · cases (if_neg hb).symm.trans z
    · by_cases hb : b = a
      · exact hb
      · exact absurd (if_neg hb) z
/-- the law's promise: a list of at most 63 ints, of at most 2 ^ 20 bits each; True comes back -/
def spLaw (K : PySem.W.Frag) : Sp := fun vs H Q _ => ∃ (a : Addr) (ns : List Int), vs = [.ref a] ∧ SqL K H a (ns.map V.int) ∧ ns.length ≤ 63 ∧ (∀ z ∈ ns, Builtin.Int.intBits z ≤ 1048576) ∧ ∀ H', Q (.bl true) H'
theorem walkM {l : PySem.W.OpenLaw} {k N : Nat} {q : Program} {loose : List Str} {XP : (Str → Option Value) → Heap → Prop} {d : DefRec} {x : Str}
    {fa : List He.Fa} {fn : List He.DefD} {ts : List He.Tab} {ex : PySem.W.Frag → Bool}
    (hn : l.most = some 63) (hdf : d.params.defaults = []) (hr : Room k callerA) (hnm : d.name = ("law" : Str))
    (F : ∀ (w : World) (mg : Str → Option Value) (K : PySem.W.Frag), Tx fa fn ts ex w K mg →
      ∃ fd : FuncData, mg "law" = some (.ref (He.ga K "law")) ∧ (∀ (s : Shared) (u : Value), BindsTo s fd ⟨[u], []⟩ [(x, u)]) ∧ ∀ base : Heap, FnG l.prog w K mg base CX0 k (He.ga K "law") fd [x] (spLaw K)) :
    PySem.W.WalkO q loose XP (hookM N fa fn ts ex).says l.row.toRowW d [] (fun f vs => PySem.call f vs) := by
  refine Att.attach_callB hn hdf fun w s₀ s₁ mg mb fA o pm cd doc a vs ns G Y ho hd hcd hmg hobj hints hlen hbits hg => ?_
  obtain ⟨K, KX, c, e⟩ := Y
  obtain ⟨fd, h0, hb, hF⟩ := F w mg K ⟨c, e, _, KX, G.T.g⟩
  rw [hnm, h0] at hmg
  cases hmg
  exact law_callG KX G.T.g G.T.b G.T.builtins G.T.nolimit hg hobj hints (Nat.le_trans hlen (by decide)) hr (fun base _ _ => hF base) hb
    (fun H hO hS => ⟨a, ns, rfl, hS, hlen, hbits, fun _ => rfl⟩) fun _ _ _ z => z
end TP

namespace TP
open PySem PySem.Spec PyProof.Rows L2

/-! ### a def called by its module's name -/
structure Gt (P : Program) (w : World) (K : PySem.W.Frag) (mg : Str → Option Value) (base : Heap) (CX : CXT) (k : Nat) (x : Str) (ps : List Str) (sp : Sp) : Prop where
  ex : ∃ f fd, mg x = some (.ref f) ∧ PySem.W.keepIn K (.ref f) = true ∧ Binds K fd ps [] ∧ FnOk P w K mg base CX k f fd ps sp
structure GtG (P : Program) (w : World) (K : PySem.W.Frag) (mg : Str → Option Value) (base : Heap) (CX : CXT) (k : Nat) (x : Str) (ps : List Str) (sp : Sp) : Prop where
  ex : ∃ f fd, mg x = some (.ref f) ∧ PySem.W.keepIn K (.ref f) = true ∧ Binds K fd ps [] ∧ FnG P w K mg base CX k f fd ps sp
section
variable {X : Cx} {CX : CXT} {k : Nat} {ps : List Str} {sp : Sp} {E : XK} {x : Str} {p pos : Pos} {e : Expr} {es : List Expr} {t : TA}
theorem Gt.pe (G : Gt X.prog X.w X.K X.mg X.base CX0 k x ps sp) (hr : Room k X.A) (ha : PA X (e :: es) t) (hg : Gl X x := by rfl) (hdb : (x == ("__debug__" : Str)) = false := by decide)
    (he : starEach (e :: es) X.env = (false, eval e X.env) :: starEach es X.env := by rfl) (hpl : (backTo pos (starEach es X.env)).any (·.1) = false := by rfl) :
    PE X (.Call (.Name x p) (e :: es) [] pos) (tCall sp [] E0 t) := by
  obtain ⟨f, fd, hm, hk, hb, F⟩ := G.ex
  exact pe_call F hr hg hm hk hb .nil pass0 ha hdb he hpl
theorem Gt.peX (G : Gt X.prog X.w X.K X.mg X.base CX k x ps sp) (hr : Room k X.A) (hx : Passes CX X E) (ha : PA X (e :: es) t) (hg : Gl X x := by rfl) (hdb : (x == ("__debug__" : Str)) = false := by decide)
    (he : starEach (e :: es) X.env = (false, eval e X.env) :: starEach es X.env := by rfl) (hpl : (backTo pos (starEach es X.env)).any (·.1) = false := by rfl) :
    PE X (.Call (.Name x p) (e :: es) [] pos) (tCall sp [] E t) := by
  obtain ⟨f, fd, hm, hk, hb, F⟩ := G.ex
  exact pe_call F hr hg hm hk hb .nil hx ha hdb he hpl
theorem GtG.pe (G : GtG X.prog X.w X.K X.mg X.base CX0 k x ps sp) (hgd : X.A.guards = some []) (hr : Room k X.A) (ha : PA X (e :: es) t) (hg : Gl X x := by rfl) (hdb : (x == ("__debug__" : Str)) = false := by decide)
    (he : starEach (e :: es) X.env = (false, eval e X.env) :: starEach es X.env := by rfl) (hpl : (backTo pos (starEach es X.env)).any (·.1) = false := by rfl) :
    PE X (.Call (.Name x p) (e :: es) [] pos) (tCall sp [] E0 t) := by
  obtain ⟨f, fd, hm, hk, hb, F⟩ := G.ex
  exact pe_callG F hgd hr hg hm hk hb pass0 ha hdb he hpl
end
section
variable {P : Program} {w : World} {K : PySem.W.Frag} {mg : Str → Option Value} {base : Heap} {CX : CXT} {k : Nat} {x : Str} {ps : List Str} {sp sp' : Sp}
theorem Gt.mono {j : Nat} (G : Gt P w K mg base CX j x ps sp) (h : j ≤ k) : Gt P w K mg base CX k x ps sp := by
  obtain ⟨f, fd, hm, hk, hb, F⟩ := G.ex
  exact ⟨f, fd, hm, hk, hb, F.mono h⟩
theorem Gt.imp (G : Gt P w K mg base CX k x ps sp) (h : ∀ vs H Q E, sp' vs H Q E → sp vs H Q E) : Gt P w K mg base CX k x ps sp' := by
  obtain ⟨f, fd, hm, hk, hb, F⟩ := G.ex
  exact ⟨f, fd, hm, hk, hb, F.imp h⟩
/-- what is to be shown of a def's body -/
abbrev BodyOk (P : Program) (w : World) (K : PySem.W.Frag) (mg : Str → Option Value) (base : Heap) (k : Nat) (N : List Str) (d : He.DefD) (sp : Sp) : Prop :=
  ∀ (f : Addr) (cdv : Value) (A : Around) (outer : List Env) (s : Shared) (H : Hp) (vs : List V) (Q : VK) (E : XK), Room k (A.deeper (envOfC d.qual d.scope s.heap.objs.size f cdv)) → sp vs H Q E →
      ∃ t, PSs (cxOf CX0 P w K mg base N d.qual d.scope f cdv A outer s H E).nox d.body t ∧ t { nx := fun _ H' => Q .non H', rt := Q } (start N vs) H
abbrev BodyOkX (P : Program) (w : World) (K : PySem.W.Frag) (mg : Str → Option Value) (base : Heap) (k : Nat) (N : List Str) (d : He.DefD) (sp : Sp) : Prop :=
  ∀ (f : Addr) (cdv : Value) (A : Around) (outer : List Env) (s : Shared) (H : Hp) (vs : List V) (Q : VK) (E : XK), Room k (A.deeper (envOfC d.qual d.scope s.heap.objs.size f cdv)) → sp vs H Q E →
      ∃ t, PSs (cxOf (L2.CX P w) P w K mg base N d.qual d.scope f cdv A outer s H E) d.body t ∧ t { nx := fun _ H' => Q .non H', rt := Q } (start N vs) H
abbrev BodyOkG (P : Program) (w : World) (K : PySem.W.Frag) (mg : Str → Option Value) (base : Heap) (k : Nat) (N : List Str) (d : He.DefD) (sp : Sp) : Prop :=
  ∀ (f : Addr) (cdv : Value) (A : Around) (outer : List Env) (s : Shared) (H : Hp) (vs : List V) (Q : VK) (E : XK), A.guards = some [] → Room k (A.deeper (envOfC d.qual d.scope s.heap.objs.size f cdv)) → sp vs H Q E →
      ∃ t, PSs (cxOf CX0 P w K mg base N d.qual d.scope f cdv A outer s H E).nox d.body t ∧ t { nx := fun _ H' => Q .non H', rt := Q } (start N vs) H
abbrev IsDef (K : PySem.W.Frag) (d : He.DefD) : Prop := ∃ fd, FunD K d.name d.qual d.params d.body d.scope (d.dvs K) (d.kws K) (He.fAd K d.at_) fd
abbrev BindN (d : He.DefD) (ps : List Str) : Prop := ∀ (kV doc pm : Value) (an : Option Addr) (cdv ct : Value) (us : List Value), us.length = ps.length →
  bindArgs (PySem.W.fnOf d.name d.qual d.params d.body d.scope .none kV doc pm an cdv ct) ⟨us, []⟩ = pure (ps.zip us)
theorem fn_ok0 {N : List Str} {d : He.DefD} {f : Addr} {fd : FuncData} (F : FunD K d.name d.qual d.params d.body d.scope (d.dvs K) (d.kws K) f fd) (S : FnScope N ps d.scope)
    (len : ∀ vs H Q E, sp vs H Q E → vs.length = ps.length) (B : BodyOk P w K mg base k N d sp) : FnOk P w K mg base CX0 (k + 1) f fd ps sp :=
  F.ok S len fun cdv A outer s H vs Q E hr h => by
    obtain ⟨t, h1, h2⟩ := B f cdv A outer s H vs Q E hr h
    exact ⟨t, h1.nox, h2⟩
theorem fn_okX {N : List Str} {d : He.DefD} {f : Addr} {fd : FuncData} (F : FunD K d.name d.qual d.params d.body d.scope (d.dvs K) (d.kws K) f fd) (S : FnScope N ps d.scope)
    (len : ∀ vs H Q E, sp vs H Q E → vs.length = ps.length) (B : BodyOkX P w K mg base k N d sp) : FnOk P w K mg base (L2.CX P w) (k + 1) f fd ps sp :=
  F.ok S len fun cdv A outer s H vs Q E hr h => B f cdv A outer s H vs Q E hr h
theorem fn_okG {N : List Str} {d : He.DefD} {f : Addr} {fd : FuncData} (F : FunD K d.name d.qual d.params d.body d.scope (d.dvs K) (d.kws K) f fd) (S : FnScope N ps d.scope)
    (len : ∀ vs H Q E, sp vs H Q E → vs.length = ps.length) (B : BodyOkG P w K mg base k N d sp) : FnG P w K mg base CX0 (k + 1) f fd ps sp := by
  obtain ⟨oc, od, dV, kV, doc, pm, an, cdv, ct, osl, rfl, lk, hcd, _, _⟩ := F.ex
  exact fnG_of lk hcd S len fun A outer s H vs Q E hg hr h => by
    obtain ⟨t, h1, h2⟩ := B f cdv A outer s H vs Q E hg hr h
    exact ⟨t, h1.nox, h2⟩
theorem gt_mk {N : List Str} {d : He.DefD} (D : IsDef K d) (g : mg x = some (.ref (He.fAd K d.at_))) (S : FnScope N ps d.scope) (hd : d.dfl = []) (hb : BindN d ps)
    (len : ∀ vs H Q E, sp vs H Q E → vs.length = ps.length) (B : BodyOk P w K mg base k N d sp) : Gt P w K mg base CX0 (k + 1) x ps sp := by
  obtain ⟨fd, F⟩ := D
  refine ⟨_, fd, g, F.kp, ?_, fn_ok0 F S len B⟩
  have e : d.dvs K = [] := by unfold He.DefD.dvs; rw [hd]; rfl
  rw [e] at F
  exact F.bindsN hb
theorem gtX_mk {N : List Str} {d : He.DefD} (D : IsDef K d) (g : mg x = some (.ref (He.fAd K d.at_))) (S : FnScope N ps d.scope) (hd : d.dfl = []) (hb : BindN d ps)
    (len : ∀ vs H Q E, sp vs H Q E → vs.length = ps.length) (B : BodyOkX P w K mg base k N d sp) : Gt P w K mg base (L2.CX P w) (k + 1) x ps sp := by
  obtain ⟨fd, F⟩ := D
  refine ⟨_, fd, g, F.kp, ?_, fn_okX F S len B⟩
  have e : d.dvs K = [] := by unfold He.DefD.dvs; rw [hd]; rfl
  rw [e] at F
  exact F.bindsN hb
theorem gtG_mk {N : List Str} {d : He.DefD} (D : IsDef K d) (g : mg x = some (.ref (He.fAd K d.at_))) (S : FnScope N ps d.scope) (hd : d.dfl = []) (hb : BindN d ps)
    (len : ∀ vs H Q E, sp vs H Q E → vs.length = ps.length) (B : BodyOkG P w K mg base k N d sp) : GtG P w K mg base CX0 (k + 1) x ps sp := by
  obtain ⟨fd, F⟩ := D
  refine ⟨_, fd, g, F.kp, ?_, fn_okG F S len B⟩
  have e : d.dvs K = [] := by unfold He.DefD.dvs; rw [hd]; rfl
  rw [e] at F
  exact F.bindsN hb
/-- for walkM -/
theorem law_fd {N : List Str} {d : He.DefD} (D : IsDef K d) (S : FnScope N [x] d.scope) (hd : d.dfl = []) (hb : BindN d [x])
    (len : ∀ vs H Q E, sp vs H Q E → vs.length = [x].length) (B : ∀ base, BodyOkG P w K mg base k N d sp) :
    ∃ fd : FuncData, (∀ (s : Shared) (u : Value), BindsTo s fd ⟨[u], []⟩ [(x, u)]) ∧ ∀ base : Heap, FnG P w K mg base CX0 (k + 1) (He.fAd K d.at_) fd [x] sp := by
  obtain ⟨fd, F⟩ := D
  have F0 := F
  have e : d.dvs K = [] := by unfold He.DefD.dvs; rw [hd]; rfl
  rw [e] at F
  exact ⟨fd, fun s u => F.bindsA hb s [u] rfl, fun base => fn_okG F0 S len (B base)⟩
end

/-! ### names of the module -/
section
variable {X : Cx} {x : Str} {pos : Pos}
theorem pe_gint {i : Int} (h : ∃ t, X.mg x = some (.int i t)) (hg : Gl X x := by rfl) (hd : (x == ("__debug__" : Str)) = false := by decide) : PE X (.Name x pos) (tC (.int i)) := by
  obtain ⟨t, h⟩ := h
  exact pe_glob hg h ⟨t, rfl⟩ hd
theorem pe_gstr {z : Str} (h : ∃ t, X.mg x = some (.str z t)) (hg : Gl X x := by rfl) (hd : (x == ("__debug__" : Str)) = false := by decide) : PE X (.Name x pos) (tC (.str z)) := by
  obtain ⟨t, h⟩ := h
  exact pe_glob hg h ⟨t, rfl⟩ hd
theorem pe_gref {a : Addr} (h : X.mg x = some (.ref a)) (hg : Gl X x := by rfl) (hd : (x == ("__debug__" : Str)) = false := by decide) : PE X (.Name x pos) (tC (.ref a)) := pe_glob hg h rfl hd
theorem pe_gty {n : String} (h : X.mg x = none) (hv : bootBuiltins x = some (.type n)) (hg : Gl X x := by rfl) (hn : x ≠ "__name__" := by decide) (hd : (x == ("__debug__" : Str)) = false := by decide) : PE X (.Name x pos) (tC (.ty n)) := pe_bltn hg h hv rfl hn hd
end
/-! ### heaps: all that was told but one object stays -/
def Wk (a : Addr) (H H' : Hp) : Prop := ∀ b o, b ≠ a → H b = some o → H' b = some o
theorem Wk.refl (a : Addr) (H : Hp) : Wk a H H := fun _ _ _ h => h
theorem Wk.trans {a : Addr} {H H1 H2 : Hp} (x : Wk a H H1) (y : Wk a H1 H2) : Wk a H H2 := fun b o n h => y b o n (x b o n h)
theorem Wk.set {a : Addr} {H H' : Hp} {o : HO} (x : Wk a H H') : Wk a H (upd H' a o) := fun b u n h => by
  rw [upd_ne n]
  exact x b u n h
theorem Wk.new {a p : Addr} {H H' : Hp} {o : HO} (x : Wk a H H') (hp : H' p = none) : Wk a H (upd H' p o) := fun b u n h => by
  rw [upd_ne (ne_of_none (x b u n h) hp)]
  exact x b u n h
/-! ### the well of draws -/
def Wl (H : Hp) (a : Addr) (n : Nat) : Prop := ∃ x y c : Int, H a = some (.lst [.int x, .int y, .int c]) ∧ 0 ≤ x ∧ 0 ≤ y ∧ y < 2147483647 ∧ 0 ≤ c ∧ c ≤ n
theorem Wl.mono {H : Hp} {a : Addr} {n m : Nat} (h : Wl H a n) (l : n ≤ m) : Wl H a m := by
  obtain ⟨x, y, c, e, h1, h2, h3, h4, h5⟩ := h
  exact ⟨x, y, c, e, h1, h2, h3, h4, by omega⟩
theorem Wl.new {H : Hp} {a p : Addr} {o : HO} {n : Nat} (h : Wl H a n) (hp : H p = none) : Wl (upd H p o) a n := by
  obtain ⟨x, y, c, e, r⟩ := h
  exact ⟨x, y, c, by rw [upd_ne (ne_of_none e hp)]; exact e, r⟩
theorem Wl.some {H : Hp} {a : Addr} {n : Nat} (h : Wl H a n) : ∃ o, H a = some o := by
  obtain ⟨x, y, c, e, _⟩ := h
  exact ⟨_, e⟩
/-- a draw's end: the well a has gone on from at most n to at most m draws, all else stays -/
structure Dn (a : Addr) (m : Nat) (H H' : Hp) : Prop where
  wl : Wl H' a m
  k : Wk a H H'
theorem Dn.free {a p : Addr} {m : Nat} {H H' : Hp} (d : Dn a m H H') (h : H' p = none) : H p = none := by
  cases q : H p with
  | none => rfl
  | some o =>
    by_cases e : p = a
    · obtain ⟨u, hu⟩ := d.wl.some
      rw [e, hu] at h
      cases h
    · rw [d.k p o e q] at h
      cases h
theorem Dn.trans {a : Addr} {n m : Nat} {H H1 H2 : Hp} (x : Dn a n H H1) (y : Dn a m H1 H2) : Dn a m H H2 := ⟨y.wl, x.k.trans y.k⟩
theorem Dn.new {a p : Addr} {m : Nat} {H H' : Hp} {o : HO} (x : Dn a m H H') (hp : H' p = none) : Dn a m H (upd H' p o) := ⟨x.wl.new hp, x.k.new hp⟩
theorem Dn.mono {a : Addr} {m n : Nat} {H H' : Hp} (x : Dn a m H H') (l : m ≤ n) : Dn a n H H' := ⟨x.wl.mono l, x.k⟩
theorem Dn.at {a b : Addr} {m : Nat} {H H' : Hp} {o : HO} (d : Dn a m H H') (h : H b = some o) (n : b ≠ a) : H' b = some o := d.k b o n h
theorem Dn.rd {a b : Addr} {m : Nat} {H H' : Hp} {u : HO} (d : Dn a m H H') (h : Rd H b u) (n : b ≠ a) : Rd H' b u := by
  rcases h with h | ⟨o, h⟩
  · exact .inl (d.k b _ n h)
  · exact .inr ⟨o, d.k b _ n h⟩
theorem Dn.sql {K : PySem.W.Frag} {a b : Addr} {m : Nat} {H H' : Hp} {xs : List V} (d : Dn a m H H') (h : SqL K H b xs) (n : b ≠ a) : SqL K H' b xs := by
  rcases h with h | h
  · exact .inl (d.rd h n)
  · exact .inr h
theorem Dn.sqt {K : PySem.W.Frag} {a b : Addr} {m : Nat} {H H' : Hp} {xs : List V} (d : Dn a m H H') (h : SqT K H b xs) (n : b ≠ a) : SqT K H' b xs := by
  rcases h with h | h
  · exact .inl (d.rd h n)
  · exact .inr h
theorem log2_small_of {m : Nat} (h : m < 2 ^ 64) : m.log2 < 9000 := by
  by_cases h0 : m = 0
  · subst h0
    decide
  · exact Nat.lt_of_lt_of_le ((Nat.log2_lt h0).mpr h) (by decide)
/-- the promise of a draw -/
def spDraw : Sp := fun vs H Q _ => ∃ (a : Addr) (n : Nat) (m : Int), vs = [.ref a, .int m] ∧ Wl H a n ∧ n < 1000000 ∧ 0 < m ∧ m.natAbs.log2 < 9000 ∧
  ∀ (d : Int) (H' : Hp), 0 ≤ d → d < m → Dn a (n + 1) H H' → Q (.int d) H'
/-- the promise of a well -/
def spWell : Sp := fun vs H Q _ => ∃ z : Int, vs = [.int z] ∧ ∀ (a : Addr) (H' : Hp), H a = none → Wl H' a 0 → Evl.Ex H H' → Q (.ref a) H'
/-- one of some: the item at a drawn place -/
def spOne (K : PySem.W.Frag) : Sp := fun vs H Q _ => ∃ (a l : Addr) (n : Nat) (xs : List V), vs = [.ref a, .ref l] ∧ Wl H a n ∧ n < 1000000 ∧ SqL K H l xs ∧ l ≠ a ∧ 0 < xs.length ∧ xs.length ≤ 1000000 ∧
  ∀ (v : V) (H' : Hp), v ∈ xs → Dn a (n + 1) H H' → Q v H'
end TP

namespace TP
open PySem PySem.Spec PyProof.Rows L2

/-! ### the heap without one object -/
def hid (a : Addr) (H : Hp) : Hp := fun b => if b = a then none else H b
theorem hid_ne {a b : Addr} {H : Hp} (h : b ≠ a) : hid a H b = H b := if_neg h
theorem hid_same {a : Addr} {H : Hp} : hid a H a = none := if_pos rfl
theorem hid_ex {a : Addr} {H : Hp} : Evl.Ex (hid a H) H := fun b o h => by
  by_cases e : b = a
  · rw [e, hid_same] at h
    cases h
  · rwa [hid_ne e] at h
theorem hid_of {a b : Addr} {H : Hp} {o : HO} (h : H b = some o) (n : b ≠ a) : hid a H b = some o := by rw [hid_ne n]; exact h
theorem Wk.hx {a : Addr} {H H' : Hp} (k : Wk a H H') : Evl.Ex (hid a H) (hid a H') := fun b o h => by
  by_cases e : b = a
  · rw [e, hid_same] at h
    cases h
  · rw [hid_ne e] at h ⊢
    exact k b o e h
theorem Dn.hx {a : Addr} {m : Nat} {H H' : Hp} (d : Dn a m H H') : Evl.Ex (hid a H) (hid a H') := d.k.hx
theorem hid_new {a p : Addr} {H : Hp} {o : HO} (hp : H p = none) : Evl.Ex (hid a H) (hid a (upd H p o)) := (Wk.new (Wk.refl a H) hp).hx
theorem hid_at {a p : Addr} {H : Hp} {o : HO} (n : p ≠ a) : hid a (upd H p o) p = some o := by rw [hid_ne n, upd_same]
theorem Wl.nep {H : Hp} {a p : Addr} {n : Nat} (h : Wl H a n) (hp : H p = none) : p ≠ a := fun e => by
  obtain ⟨o, ho⟩ := h.some
  rw [e, ho] at hp
  cases hp
theorem Ex.wl {H H' : Hp} {a : Addr} {n : Nat} (e : Evl.Ex H H') (h : Wl H a n) : Wl H' a n := by
  obtain ⟨x, y, c, ea, r⟩ := h
  exact ⟨x, y, c, e _ _ ea, r⟩
theorem Ex.wk {H H' : Hp} (a : Addr) (e : Evl.Ex H H') : Wk a H H' := fun b o _ h => e b o h
theorem Ex.free {H H' : Hp} {p : Addr} (e : Evl.Ex H H') (h : H' p = none) : H p = none := by
  cases q : H p with
  | none => rfl
  | some o =>
    rw [e p o q] at h
    cases h

/-! ### things over larger heaps -/
mutual
theorem Dr.ex {K : PySem.W.Frag} {H H' : Hp} (x : Evl.Ex H H') : ∀ (d : PyData) (v : V), Dr K H v d → Dr K H' v d
  | .none, _, h => by cases h; exact .non
  | .bool _, _, h => by cases h; exact .bl _
  | .int _, _, h => by cases h; exact .int _
  | .str _, _, h => by cases h; exact .str _
  | .list ds, _, h => by
    cases h with
    | lst a b => exact .lst (Evl.ex_l x a) (DrAll.ex x ds _ b)
  | .tuple ds, _, h => by
    cases h with
    | tup a b => exact .tup (Evl.ex_t x a) (DrAll.ex x ds _ b)
  | .dict ds, _, h => by
    cases h with
    | dct a b => exact .dct (x _ _ a) (DrKv.ex x ds _ b)
theorem DrAll.ex {K : PySem.W.Frag} {H H' : Hp} (x : Evl.Ex H H') : ∀ (ds : List PyData) (vs : List V), DrAll K H vs ds → DrAll K H' vs ds
  | [], _, h => by cases h; exact .nil
  | d :: ds, _, h => by
    cases h with
    | cons a b => exact .cons (Dr.ex x d _ a) (DrAll.ex x ds _ b)
theorem DrKv.ex {K : PySem.W.Frag} {H H' : Hp} (x : Evl.Ex H H') : ∀ (ds : List (PyData × PyData)) (vs : List (Key × V)), DrKv K H vs ds → DrKv K H' vs ds
  | [], _, h => by cases h; exact .nil
  | (_, d) :: ds, _, h => by
    cases h with
    | cons a b => exact .cons (Dr.ex x d _ a) (DrKv.ex x ds _ b)
end
/-- the name of a thing's class -/
def tyN : PyData → String
  | .none => "NoneType"
  | .bool _ => "bool"
  | .int _ => "int"
  | .str _ => "str"
  | .list _ => "list"
  | .tuple _ => "tuple"
  | .dict _ => "dict"
theorem Dr.ty {K : PySem.W.Frag} {H : Hp} {v : V} {d : PyData} (h : Dr K H v d) : TyX K H v (.type (tyN d)) := by
  cases h with
  | non => exact .base .non
  | bl b => exact .base (.bl b)
  | int i => exact .base (.int i)
  | str x => exact .base (.str x)
  | lst a b =>
    rcases a with (a | ⟨o, a⟩) | a
    · exact .base (.lst a)
    · exact .base (.frz a)
    · obtain ⟨o, its, n, h1, h2, _⟩ := a
      exact .kList h1 h2
  | tup a b =>
    rcases a with (a | ⟨o, a⟩) | a
    · exact .base (.tup a)
    · exact .fTuple a
    · obtain ⟨o, its, n, h1, h2, _⟩ := a
      exact .kTuple h1 h2
  | dct a b => exact .base (.dK a)
/-- isinstance of such a thing -/
def tyNs : List String := ["NoneType", "bool", "int", "str", "list", "tuple", "dict"]
theorem tyN_mem (d : PyData) : tyN d ∈ tyNs := by cases d <;> (unfold tyN tyNs; simp)
theorem kit_tab : ∀ t ∈ tyNs, ∀ c ∈ ["str", "tuple", "list", "dict", "bool"], kitB t c = some (decide (t = c)) := by decide +kernel
theorem kit_tabI : ∀ t ∈ tyNs, kitB t "int" = some (decide (t = "int" ∨ t = "bool")) := by decide +kernel
theorem kit_thing {K : PySem.W.Frag} (d : PyData) {c : String} (hc : c ∈ ["str", "tuple", "list", "dict", "bool"] := by simp) : PySem.W.kitOne K (.type (tyN d)) (.type c) = some (decide (tyN d = c)) :=
  kit_ty (kit_tab _ (tyN_mem d) _ hc)
theorem kit_int {K : PySem.W.Frag} (d : PyData) : PySem.W.kitOne K (.type (tyN d)) (.type "int") = some (decide (tyN d = "int" ∨ tyN d = "bool")) := kit_ty (kit_tabI _ (tyN_mem d))

/-! ### how long what is shown is -/
mutual
def wt : PyData → Nat
  | .none => 4
  | .bool _ => 5
  | .int i => (PyData.shown (.int i)).length
  | .str x => (reprText x).length
  | .list xs => wtAll xs + 3
  | .tuple xs => wtAll xs + 3
  | .dict kvs => wtKv kvs + 3
def wtAll : List PyData → Nat
  | [] => 0
  | x :: xs => wt x + 2 + wtAll xs
def wtKv : List (PyData × PyData) → Nat
  | [] => 0
  | (k, v) :: r => wt k + wt v + 4 + wtKv r
end
mutual
theorem shown_wt : ∀ d : PyData, d.shown.length ≤ wt d
  | .none => by rw [PyData.shown_none, wt]; decide
  | .bool b => by rw [PyData.shown_bool, wt]; cases b <;> decide
  | .int i => by rw [wt]; exact Nat.le_refl _
  | .str x => by rw [PyData.shown_str, wt]; exact Nat.le_refl _
  | .list xs => by
    have h := shownAll_wt xs
    have e : (PyData.list xs).shown = listText (PyData.shownAll xs) := by rw [PyData.shown_list, listText_eq_join]
    have q := listText_len_le (PyData.shownAll xs)
    rw [e, wt]
    rw [PyData.shownAll_length] at q
    omega
  | .tuple xs => by
    have h := shownAll_wt xs
    have e : (PyData.tuple xs).shown = tupleText (PyData.shownAll xs) := by
      rw [PyData.shown_tuple]
      unfold tupleText
      rw [PyData.shownAll_length]
    have q := tupleText_len_le (PyData.shownAll xs)
    rw [e, wt]
    rw [PyData.shownAll_length] at q
    omega
  | .dict kvs => by
    have h := shownKv_wt kvs
    have e : (PyData.dict kvs).shown = dictText (PyData.shownKv kvs) := by rw [PyData.shown_dict]; rfl
    have q := dictText_len_le (PyData.shownKv kvs)
    rw [e, wt]
    rw [PyData.shownKv_length] at q
    omega
theorem shownAll_wt : ∀ xs : List PyData, ((PyData.shownAll xs).map (·.length)).sum + 2 * xs.length ≤ wtAll xs
  | [] => by rw [PyData.shownAll_nil]; simp [wtAll]
  | x :: xs => by
    have h1 := shown_wt x
    have h2 := shownAll_wt xs
    rw [PyData.shownAll_cons, wtAll, List.map_cons, List.sum_cons, List.length_cons]
    omega
theorem shownKv_wt : ∀ kvs : List (PyData × PyData), ((PyData.shownKv kvs).map (·.length)).sum + 2 * kvs.length ≤ wtKv kvs
  | [] => by rw [PyData.shownKv_nil]; simp [wtKv]
  | (k, v) :: r => by
    have h1 := shown_wt k
    have h2 := shown_wt v
    have h3 := shownKv_wt r
    have e : (": " : Str).length = 2 := by decide
    rw [PyData.shownKv_cons, wtKv, List.map_cons, List.sum_cons, List.length_cons, strLen_append, strLen_append, e]
    omega
end
/-- small things: shown by at most B signs, at most 20 deep -/
structure Sm (B : Nat) (d : PyData) : Prop where
  sh : d.showable = true
  wt : wt d ≤ B
  dp : d.depth ≤ 20
theorem Sm.mono {B C : Nat} {d : PyData} (h : Sm B d) (l : B ≤ C) : Sm C d := ⟨h.sh, Nat.le_trans h.wt l, h.dp⟩
theorem Sm.rp {B : Nat} {d : PyData} (h : Sm B d) (hb : B ≤ 1000000 := by decide) : d.showable = true ∧ d.depth ≤ 50 ∧ d.shown.length ≤ sizeLine :=
  ⟨h.sh, Nat.le_trans h.dp (by decide), Nat.le_trans (shown_wt d) (Nat.le_trans h.wt (Nat.le_trans hb (by decide)))⟩
theorem Sm.repr {K : PySem.W.Frag} {B : Nat} {d : PyData} {H : Hp} {v : V} {Q : VK} (h : Sm B d) (hb : B ≤ 1000000) (hd : Dr K H v d) (q : Q (.str d.shown) H) : rRepr K [v] H Q :=
  ⟨v, d, rfl, hd, h.sh, Nat.le_trans h.dp (by decide), Nat.le_trans (shown_wt d) (Nat.le_trans h.wt (Nat.le_trans hb (by decide))), q⟩

/-! ### texts -/
def rRepS : R2 := fun x y H Q => ∃ (z : Str) (n : Int), x = .str z ∧ y = .int n ∧ z.length ≤ 1000 ∧ 0 ≤ n ∧ n ≤ 1000 ∧ Q (.str (Txt.mul z n)) H
theorem op_repS {X : Cx} : OpR X (binaryOp .Mult) rRepS := by
  intro pins s σ H x y v u Q I rx ry h
  obtain ⟨z, n, rfl, rfl, hz, h0, h1, q⟩ := h
  obtain ⟨t, rfl⟩ := rx
  obtain ⟨t', rfl⟩ := ry
  refine SB.mul ⟨?_, fun a _ => ?_, fun a _ => ?_⟩ fun t' k => ⟨.str _, H, I.tok k, ⟨_, rfl⟩, q⟩
  · simp only [Bool.or_eq_false_iff, decide_eq_false_iff_not]
    omega
  · have : (1000 : Int) ≤ (2 ^ 63 - 1) / n := by
      rw [Int.le_ediv_iff_mul_le (by omega)]
      omega
    omega
  · have hm : z.length * n.toNat ≤ 1000 * 1000 := Nat.mul_le_mul hz (by omega)
    unfold Builtin.Str.tooLong
    simp only [decide_eq_false_iff_not]
    have : sizeLine = 16777216 := sizeLine_eq
    omega
end TP

namespace TP
open PySem PySem.Spec PyProof.Rows L2

/-! ### names -/
def LT : Str := "abcdefghijklmnopqrstuvwxyz"
theorem LT_list : LT.cps.toList = [97, 98, 99, 100, 101, 102, 103, 104, 105, 106, 107, 108, 109, 110, 111, 112, 113, 114, 115, 116, 117, 118, 119, 120, 121, 122] := by decide +kernel
theorem LT_mem {c : Nat} : c ∈ LT.cps.toList ↔ 97 ≤ c ∧ c ≤ 122 := by
  rw [LT_list]
  simp only [List.mem_cons, List.not_mem_nil, or_false]
  omega
def isNm (z : Str) : Bool := decide (1 ≤ z.length) && (decide (z.length ≤ 8) && z.cps.toList.all fun c => decide (c ∈ LT.cps.toList))
structure NmP (z : Str) : Prop where
  lo : 1 ≤ z.length
  hi : z.length ≤ 8
  sg : ∀ c ∈ z.cps.toList, c ∈ LT.cps.toList
theorem isNm_iff {z : Str} : isNm z = true ↔ NmP z := by
  unfold isNm
  simp only [Bool.and_eq_true, decide_eq_true_eq, List.all_eq_true]
  exact ⟨fun h => ⟨h.1, h.2.1, h.2.2⟩, fun h => ⟨h.lo, h.hi, h.sg⟩⟩
def isNmD : PyData → Bool
  | .str z => isNm z
  | _ => false
def isAdD : PyData → Bool
  | .tuple [a, b] => isNmD a && isNmD b
  | _ => false
theorem strLen (z : Str) : z.length = z.cps.toList.length := by show z.cps.size = _; simp
theorem NmP.short {z : Str} (h : NmP z) : (reprText z).length ≤ 82 := by
  have := StrLaws.reprText_len z (fun c hc => by have := LT_mem.mp (h.sg c hc); omega)
  have := h.hi
  omega
/-- the promise of a drawn name -/
def spName : Sp := fun vs H Q _ => ∃ (a : Addr) (n : Nat), vs = [.ref a] ∧ Wl H a n ∧ n < 900000 ∧ ∀ (z : Str) (H' : Hp), NmP z → Dn a (n + 20) H H' → Q (.str z) H'
/-- is_name(x), x any thing -/
def spIsName (K : PySem.W.Frag) : Sp := fun vs H Q _ => ∃ (x : V) (d : PyData), vs = [x] ∧ Dr K H x d ∧ (∀ z, d = .str z → z.length ≤ 1000000) ∧ ∀ H', Evl.Ex H H' → Q (.bl (isNmD d)) H'
def spIsAddr (K : PySem.W.Frag) : Sp := fun vs H Q _ => ∃ (x : V) (d : PyData), vs = [x] ∧ Dr K H x d ∧ (∀ ds, d = .tuple ds → ∀ e ∈ ds, ∀ z, e = .str z → z.length ≤ 1000000) ∧ ∀ H', Evl.Ex H H' → Q (.bl (isAdD d)) H'
theorem Dr.str_of {K : PySem.W.Frag} {H : Hp} {x : V} {d : PyData} (h : Dr K H x d) (e : tyN d = "str") : ∃ z, x = .str z ∧ d = .str z := by
  cases h with
  | str z => exact ⟨z, rfl, rfl⟩
  | non => exact (by simp [tyN] at e)
  | bl b => exact (by simp [tyN] at e)
  | int i => exact (by simp [tyN] at e)
  | lst a b => exact (by simp [tyN] at e)
  | tup a b => exact (by simp [tyN] at e)
  | dct a b => exact (by simp [tyN] at e)
theorem Dr.tup_of {K : PySem.W.Frag} {H : Hp} {x : V} {d : PyData} (h : Dr K H x d) (e : tyN d = "tuple") : ∃ a xs ds, x = .ref a ∧ d = .tuple ds ∧ SqT K H a xs ∧ DrAll K H xs ds := by
  cases h with
  | tup a b => exact ⟨_, _, _, rfl, rfl, a, b⟩
  | non => exact (by simp [tyN] at e)
  | bl b => exact (by simp [tyN] at e)
  | int i => exact (by simp [tyN] at e)
  | lst a b => exact (by simp [tyN] at e)
  | str z => exact (by simp [tyN] at e)
  | dct a b => exact (by simp [tyN] at e)
theorem isNmD_no {d : PyData} (h : ¬ tyN d = "str") : isNmD d = false := by
  cases d <;> first | rfl | exact absurd rfl h
theorem isAdD_no {d : PyData} (h : ¬ tyN d = "tuple") : isAdD d = false := by
  cases d <;> first | rfl | exact absurd rfl h
theorem DrAll.len {K : PySem.W.Frag} {H : Hp} : ∀ {xs : List V} {ds : List PyData}, DrAll K H xs ds → xs.length = ds.length
  | _, _, .nil => rfl
  | _, _, .cons _ h => by rw [List.length_cons, List.length_cons, DrAll.len h]
theorem DrAll.at {K : PySem.W.Frag} {H : Hp} : ∀ {xs : List V} {ds : List PyData} {i : Nat} {x : V}, DrAll K H xs ds → xs[i]? = some x → ∃ d, ds[i]? = some d ∧ Dr K H x d
  | _, _, 0, _, .cons h _, e => by
    cases e
    exact ⟨_, rfl, h⟩
  | _, _, i + 1, _, .cons _ h, e => by
    obtain ⟨d, h1, h2⟩ := DrAll.at (i := i) h (by simpa using e)
    exact ⟨d, by simpa using h1, h2⟩
theorem atC_of {cs : List Nat} {z : Int} {j : Nat} {v : Nat} (e : z = (j : Int)) (h : cs[j]? = some v) : atI cs z = some v := by
  rw [e]
  exact atI_nat h
theorem emp_codes {c : Nat} (h : c ∈ ("" : Str).cps.toList) : False := by
  have e : ("" : Str).cps.toList = [] := by decide +kernel
  rw [e] at h
  cases h
theorem app_codes (x y : Str) : (x ++ y).cps.toList = x.cps.toList ++ y.cps.toList := by
  show (x.cps ++ y.cps).toList = _
  simp
/-! ### short plain texts -/
structure As (B : Nat) (z : Str) : Prop where
  len : z.length ≤ B
  sg : ∀ c ∈ z.cps.toList, c < 128
theorem As.mono {B C : Nat} {z : Str} (h : As B z) (l : B ≤ C) : As C z := ⟨Nat.le_trans h.len l, h.sg⟩
theorem NmP.as {z : Str} (h : NmP z) : As 8 z := ⟨h.hi, fun c hc => by have := LT_mem.mp (h.sg c hc); omega⟩
theorem As.app {B C : Nat} {x y : Str} (h : As B x) (g : As C y) : As (B + C) (x ++ y) := ⟨by rw [strLen_append]; exact Nat.add_le_add h.len g.len, fun c hc => by
  rw [app_codes] at hc
  exact (List.mem_append.mp hc).elim (h.sg c) (g.sg c)⟩
theorem cutS_codes (z : Str) (lo hi : Option Int) : (cutS z lo hi).cps.toList = ((z.cps.toList.drop (HT.sIx z.length 0 lo)).take (HT.sIx z.length z.length hi - HT.sIx z.length 0 lo)) := by
  unfold cutS
  rfl
theorem As.cut {B : Nat} {z : Str} (h : As B z) (lo hi : Option Int) : As B (cutS z lo hi) := ⟨by
    have := h.len
    rw [strLen, cutS_codes, List.length_take, List.length_drop, ← strLen]
    omega, fun c hc => by
    rw [cutS_codes] at hc
    exact h.sg c (List.mem_of_mem_drop (List.mem_of_mem_take hc))⟩
theorem mul2 (z : Str) : Txt.mul z 2 = if (z.length == 0) = true then z else z ++ z := by
  unfold Txt.mul
  rw [if_neg (by decide)]
  by_cases h : (z.length == 0) = true
  · rw [if_pos (by rw [h]; rfl), if_pos h]
  · rw [if_neg (by simpa using h), if_neg h]
    show (⟨(#[] ++ z.cps) ++ z.cps⟩ : Str) = ⟨z.cps ++ z.cps⟩
    simp
theorem As.two {B : Nat} {z : Str} (h : As B z) : As (B + B) (Txt.mul z 2) := by
  rw [mul2]
  by_cases e : (z.length == 0) = true
  · rw [if_pos e]
    exact h.mono (by omega)
  · rw [if_neg e]
    exact h.app h
theorem As.size {B : Nat} {z : Str} (h : As B z) (l : B ≤ 1000000) : z.length ≤ sizeLine := Nat.le_trans (Nat.le_trans h.len l) (by decide)
theorem As.short {B : Nat} {z : Str} (h : As B z) : (reprText z).length ≤ 10 * B + 2 := by
  have := StrLaws.reprText_len z (fun c hc => Nat.lt_of_lt_of_le (h.sg c hc) (by decide))
  have := h.len
  omega
theorem As.one {c : Nat} (h : c < 128) : As 1 ⟨#[c]⟩ := ⟨Nat.le_refl _, fun d hd => by
  have : d = c := by simpa using hd
  omega⟩
/-! ### things of a law -/
def Sh (d : PyData) : Prop := ∀ z, d = .str z → As 1000000 z
def ShA (d : PyData) : Prop := ∀ ds, d = .tuple ds → ∀ e ∈ ds, Sh e
structure ThP (B : Nat) (d : PyData) : Prop where
  sm : Sm B d
  sh : Sh d
  sa : ShA d
theorem ThP.mono {B C : Nat} {d : PyData} (h : ThP B d) (l : B ≤ C) : ThP C d := ⟨h.sm.mono l, h.sh, h.sa⟩
theorem Sm.str {B : Nat} {z : Str} (h : As B z) : Sm (10 * B + 2) (.str z) := ⟨rfl, by rw [TP.wt]; exact h.short, by rw [PyData.depth]; decide⟩
theorem ThP.str {B : Nat} {z : Str} (h : As B z) (l : B ≤ 1000000) : ThP (10 * B + 2) (.str z) := ⟨Sm.str h, fun y e => by cases e; exact h.mono l, fun _ e => nomatch e⟩
theorem smallInt {i : Int} (h : i.natAbs < 2 ^ 64) : (PyData.int i).showable = true := by
  show decide (i.natAbs.log2 < 1920) = true
  refine decide_eq_true ?_
  by_cases h0 : i.natAbs = 0
  · rw [h0]
    decide
  · exact Nat.lt_of_lt_of_le ((Nat.log2_lt h0).mpr h) (by decide)
theorem dpStrs {K : PySem.W.Frag} {H : Hp} {α : Type} (g : α → Str) : ∀ l : List α, DpAll K H (l.map fun i => V.str (g i)) (l.map fun i => PyData.str (g i))
  | [] => .nil
  | _ :: l => .cons (.str _) (dpStrs g l)
theorem canStrs {α : Type} (g : α → Str) (hg : ∀ i, PyData.strOk (g i) = true) : ∀ l : List α, PyData.canLayAll0 (l.map fun i => PyData.str (g i)) = true
  | [] => rfl
  | i :: l => by
    show (PyData.canLay0 (.str (g i)) && PyData.canLayAll0 (l.map fun i => PyData.str (g i))) = true
    rw [canStrs g hg l, show PyData.canLay0 (.str (g i)) = true from hg i]
    rfl
theorem depthStrs {α : Type} (g : α → Str) : ∀ l : List α, PyData.depthAll (l.map fun i => PyData.str (g i)) = 0
  | [] => rfl
  | _ :: l => by
    show max 0 (PyData.depthAll _) = 0
    rw [depthStrs g l]
    rfl
theorem shapedStrs {α : Type} (g : α → Str) (hg : ∀ i, PyData.strOk (g i) = true) (l : List α) : SeqAt.shaped (.list (l.map fun i => PyData.str (g i))) = true := by
  unfold SeqAt.shaped
  rw [show PyData.canLay0 (.list (l.map fun i => PyData.str (g i))) = true from canStrs g hg l, show (PyData.list (l.map fun i => PyData.str (g i))).depth = PyData.depthAll (l.map fun i => PyData.str (g i)) + 1 from rfl, depthStrs]
  decide
theorem eqv_nil (l : List PyData) : PyData.eqv (.list l) (.list []) = l.isEmpty := by
  cases l <;> rfl
/-! ### comprehensions whose elements leave what was told -/
theorem range_filter_succ (p : Nat → Bool) (i : Nat) : (List.range (i + 1)).filter p = (List.range i).filter p ++ (if p i = true then [i] else []) := by
  rw [List.range_succ, List.filter_append]
  congr 1
  by_cases h : p i = true
  · rw [if_pos h]; simp [h]
  · rw [if_neg h]; simp [h]
theorem lc_fm {J : It} {n : Nat} {G : Hp → Prop} {Y : Nat → Hp → V → Hp → Prop} (w : Walk J n G Y) {g : TG} {tt : TT} {te : TE} {vs : List Nat} {σ : L2.St} {H1 : Hp} {D : Addr} {Qd : Hp → Prop} (p : Nat → Bool) (F : Nat → V)
    (hD : H1 D = none) (hn : n < 1000000) (hG : ∀ H, Evl.Ex H1 H → G H)
    (hs : ∀ (i : Nat) (x : V) (H H' : Hp) (C : V → Hp → Prop) (N : Hp → Prop), i < n → Evl.Ex H1 H → Y i H x H' → (p i = true → ∀ H4, Evl.Ex H H4 → C (F i) H4) → (p i = false → ∀ H3, Evl.Ex H H3 → N H3) →
      g x (wipe σ vs) H' fun σ2 H2 => wipe σ2 vs = wipe σ vs ∧ tt σ2 H2 fun b H3 => if b = true then te σ2 H3 C else N H3)
    (hd : ∀ H', Evl.Ex H1 H' → H' D = some (.lst (((List.range n).filter p).map F)) → Qd H') :
    ∃ W : Nat → Nat → Hp → Prop, (∃ m, W 0 m (upd H1 D (.lst []))) ∧ ∀ i m H, W i m H →
      (J.stop i H ∧ Qd H) ∨ (J.go i H ∧ ∃ Nx : Hp → Prop, (∀ H', Nx H' → ∃ m', m' < m ∧ W (i + 1) m' H') ∧ ∀ x H', J.yld i H x H' → g x (wipe σ vs) H' fun σ2 H2 => wipe σ2 vs = wipe σ vs ∧ tt σ2 H2 fun b H3 =>
        if b = true then te σ2 H3 fun y H4 => ∃ acc, H4 D = some (.lst acc) ∧ acc.length < sizeLine ∧ Nx (upd H4 D (.lst (acc ++ [y]))) else Nx H3) := by
  refine lc_it w (fun i H => Evl.Ex H1 H ∧ H D = some (.lst (((List.range i).filter p).map F))) ⟨Evl.Ex.new hD, upd_same⟩ (fun i H _ q => hG H q.1) (fun i x H H' hi q y => ?_) (fun H q => hd H q.1 q.2)
  refine hs i x H H' _ _ hi q.1 y (fun hp H4 e => ⟨_, e _ _ q.2, ?_, fun b o hb => ?_, ?_⟩) (fun hp H3 e => ⟨q.1.trans e, ?_⟩)
  · have h1 : (((List.range i).filter p).map F).length ≤ i := by
      rw [List.length_map]
      exact Nat.le_trans (List.length_filter_le _ _) (by rw [List.length_range]; exact Nat.le_refl _)
    have : sizeLine = 16777216 := sizeLine_eq
    omega
  · rw [upd_ne (ne_of_none hb hD)]
    exact e _ _ (q.1 _ _ hb)
  · rw [upd_same, range_filter_succ, if_pos hp, List.map_append]
    rfl
  · rw [e _ _ q.2, range_filter_succ, if_neg (by rw [hp]; exact Bool.false_ne_true), List.append_nil]
theorem range_map_get {α β : Type} (f : α → β) (d : α) : ∀ l : List α, (List.range l.length).map (fun i => f (l.getD i d)) = l.map f := fun l => by
  refine List.ext_getElem (by simp) fun i h1 h2 => ?_
  simp at h1
  simp [h1]
theorem none_amiss (l : List Nat) (f : Nat → Bool) : (((List.range l.length).filter fun i => !f (l.getD i 0)).isEmpty) = l.all f := by
  have e : l.all f = ((List.range l.length).map fun i => f (l.getD i 0)).all id := by rw [range_map_get, List.all_map]; rfl
  rw [e, List.all_map]
  cases h : ((List.range l.length).filter fun i => !f (l.getD i 0)) with
  | nil =>
    have h2 := List.filter_eq_nil_iff.mp h
    refine (List.all_eq_true.mpr fun i hi => ?_).symm
    have := h2 i hi
    simpa using this
  | cons j r =>
    have hj : j ∈ (List.range l.length).filter fun i => !f (l.getD i 0) := by rw [h]; exact List.mem_cons_self
    obtain ⟨h1, h2⟩ := List.mem_filter.mp hj
    symm
    refine Bool.eq_false_iff.mpr fun q => ?_
    have := List.all_eq_true.mp q j h1
    simp at h2 this
    rw [this] at h2
    cases h2
theorem cut_mem {xs : List V} {lo hi : Option Int} {x : V} (h : x ∈ cutV xs lo hi) : x ∈ xs := by
  unfold cutV at h
  exact List.mem_of_mem_drop (List.mem_of_mem_take h)
theorem cells_int {ns : List Int} {lo hi : Option Int} {i : Nat} {x : V} (h : (cutV (ns.map V.int) lo hi ++ [.int 0, .int 1])[i]? = some x) : ∃ z, x = .int z := by
  rcases List.mem_append.mp (List.mem_of_getElem? h) with q | q
  · obtain ⟨z, _, rfl⟩ := List.mem_map.mp (cut_mem q)
    exact ⟨z, rfl⟩
  · simp only [List.mem_cons, List.not_mem_nil, or_false] at q
    rcases q with rfl | rfl
    · exact ⟨0, rfl⟩
    · exact ⟨1, rfl⟩
theorem cells_len {ns : List Int} {lo hi : Option Int} (h : ns.length ≤ 63) : (cutV (ns.map V.int) lo hi).length + [V.int 0, V.int 1].length ≤ sizeLine := by
  have h1 := cutV_length (ns.map V.int) lo hi
  rw [List.length_map] at h1
  have : sizeLine = 16777216 := sizeLine_eq
  show _ + 2 ≤ _
  omega
theorem ThP.tup2 {B C : Nat} {a b : PyData} (ha : ThP B a) (hb : ThP C b) (l1 : a.depth ≤ 10) (l2 : b.depth ≤ 10) : ThP (B + C + 7) (.tuple [a, b]) := by
  refine ⟨⟨?_, ?_, ?_⟩, fun _ e => (nomatch e), fun ds e d hd => ?_⟩
  · show (a.showable && (b.showable && true)) = true
    rw [ha.sm.sh, hb.sm.sh]
    rfl
  · have h1 := ha.sm.wt
    have h2 := hb.sm.wt
    simp only [wt, wtAll]
    omega
  · simp only [PyData.depth, PyData.depthAll]
    omega
  · cases e
    simp only [List.mem_cons, List.not_mem_nil, or_false] at hd
    rcases hd with rfl | rfl
    · exact ha.sh
    · exact hb.sh
theorem filter_yes (n : Nat) : (List.range n).filter (fun _ => true) = List.range n := List.filter_eq_self.mpr fun _ _ => rfl
theorem yes_ok {σ : L2.St} {H : Hp} {te : TE} {C : V → Hp → Prop} {N : Hp → Prop} (h : te σ H C) : tYes σ H fun b H3 => if b = true then te σ H3 C else N H3 := by
  show if true = true then te σ H C else N H
  rw [if_pos rfl]
  exact h
theorem iteYes {A B : Prop} (h : A) : if true = true then A else B := by rw [if_pos rfl]; exact h
end TP

namespace TP
open PySem PySem.Spec PyProof.Rows L2

/-! ### zip of a dict's keys and a list -/
section
variable {prog : Program} {w : World} {A : Around} {E : Value → Shared → Prop} {s : Shared}
theorem nextOf_key {it d : Addr} {i ep : Nat} {es : Array DictEntry} {Q : Value → Shared → Prop} (hit : s.heap.IsKeyIter it d i es.size ep) (hm : s.heap.DictRaw d es ep) (hlt : i < es.size)
    (hQ : ∀ h', h'.IsKeyIter it d (i + 1) es.size ep → Heap.SameBut it s.heap h' → Q es[i].key { s with heap := h' }) : wpAny (model prog w) A (Builtin.SmallTypes.nextOf (.ref it)) Q E s := by
  obtain ⟨o, ho, hc, hd⟩ := id hit
  obtain ⟨od, hod, hcd, hdd⟩ := id hm
  unfold Builtin.SmallTypes.nextOf
  refine wpAny_bind (wpAny_callSpecial?_slot (name := Str.ofString "__next__") hit.typeIs F.slot_dict_keyiterator_next
    (wpAny_call_entry F.slot_dict_keyiterator_next hit.typeIs F.entry_dict_keyiterator_next ?_ (F.args_dict_keyiterator_next_1 _)))
  refine wpAny_bind (wpAny_pure ?_)
  refine wpAny_bind (wpAny_bind ?_)
  first
    | refine wpAny_bind (wpAny_typeNameOfWhole_keyiter hit.typeIs (wpAny_pure ?_))
    | refine wpAny_bind (wpAny_typeNameOf_keyiter hit.typeIs (wpAny_pure ?_))
  refine wpAny_bind (wpAny_fieldsOf ho hd ?_)
  simp only [show Builtin.Dict_items.ownsTuple "dict_keyiterator" = false by decide, Bool.false_eq_true, if_false]
  show wpAny _ _ (if (Value.ref d == Value.none) = true then _ else _) _ _ s
  rw [if_neg (show ¬ ((Value.ref d == Value.none) = true) from Bool.false_ne_true)]
  refine wpAny_bind (wpAny_pure (wpAny_bind (wpAny_dictEntries hod hdd ?_)))
  rw [if_neg (by simp)]
  refine wpAny_bind (wpAny_pure (wpAny_bind (wpAny_dictEpoch hod hdd ?_)))
  rw [if_neg (by simp)]
  refine wpAny_pure ?_
  simp only [show ¬ ((i : Int) < 0) from by omega, if_false, Int.toNat_natCast, Array.getElem?_eq_getElem hlt]
  refine wpAny_bind ?_
  first
    | refine wpAny_bind (wpAny_typeNameOfWhole_keyiter hit.typeIs (wpAny_pure ?_))
    | refine wpAny_bind (wpAny_typeNameOf_keyiter hit.typeIs (wpAny_pure ?_))
  refine wpAny_bind (wpAny_isOneOf_keyiter hit.typeIs ?_)
  show wpAny _ _ (setField (.ref it) 1 (rawInt ((i : Int) + 1)) >>= _) _ _ s
  refine wpAny_bind (wpAny_setField ho hd (by simp) ?_)
  have hit2 : (s.heap.update it (Obj.mapFields (·.setIfInBounds 1 (rawInt ((i : Int) + 1))))).IsKeyIter it d (i + 1) es.size ep :=
    ⟨_, Heap.get?_update_self _ ho (Obj.isFreed_of_fields (Obj.data_mapFields hd _)), (Obj.cls_mapFields ..).trans hc, by rw [Obj.data_mapFields hd]; simp [rawInt]⟩
  refine wpAny_bind (wpAny_holding (wpAny_bind (wpAny_isOneOf_keyiter (s := { s with heap := s.heap.update it (Obj.mapFields (·.setIfInBounds 1 (rawInt ((i : Int) + 1)))) }) hit2.typeIs ?_)))
  show wpAny _ _ (pure es[i].key) _ _ _
  exact wpAny_pure (wpAny_pure ⟨_, rfl, wpAny_pure (hQ _ hit2 (Heap.SameBut.update ..))⟩)
theorem nextOf_keyEnd {it d : Addr} {i ep : Nat} {es : Array DictEntry} {Q : Value → Shared → Prop} (hh : A.handled = none) (hit : s.heap.IsKeyIter it d i es.size ep) (hm : s.heap.DictRaw d es ep) (hge : es.size ≤ i)
    (hE : ∀ h' e, Heap.ExtBut it s.heap h' → (∃ o, h'.get? e = some o ∧ o.cls = .type "StopIteration") → E (.ref e) { s with heap := h' }) : wpAny (model prog w) A (Builtin.SmallTypes.nextOf (.ref it)) Q E s := by
  obtain ⟨o, ho, hc, hd⟩ := id hit
  obtain ⟨od, hod, hcd, hdd⟩ := id hm
  unfold Builtin.SmallTypes.nextOf
  refine wpAny_bind (wpAny_callSpecial?_slot (name := Str.ofString "__next__") hit.typeIs F.slot_dict_keyiterator_next
    (wpAny_call_entry F.slot_dict_keyiterator_next hit.typeIs F.entry_dict_keyiterator_next ?_ (F.args_dict_keyiterator_next_1 _)))
  refine wpAny_bind (wpAny_pure ?_)
  refine wpAny_bind (wpAny_bind ?_)
  first
    | refine wpAny_bind (wpAny_typeNameOfWhole_keyiter hit.typeIs (wpAny_pure ?_))
    | refine wpAny_bind (wpAny_typeNameOf_keyiter hit.typeIs (wpAny_pure ?_))
  refine wpAny_bind (wpAny_fieldsOf ho hd ?_)
  simp only [show Builtin.Dict_items.ownsTuple "dict_keyiterator" = false by decide, Bool.false_eq_true, if_false]
  show wpAny _ _ (if (Value.ref d == Value.none) = true then _ else _) _ _ s
  rw [if_neg (show ¬ ((Value.ref d == Value.none) = true) from Bool.false_ne_true)]
  refine wpAny_bind (wpAny_pure (wpAny_bind (wpAny_dictEntries hod hdd ?_)))
  rw [if_neg (by simp)]
  refine wpAny_bind (wpAny_pure (wpAny_bind (wpAny_dictEpoch hod hdd ?_)))
  rw [if_neg (by simp)]
  refine wpAny_pure ?_
  simp only [show ¬ ((i : Int) < 0) from by omega, if_false, Int.toNat_natCast, Array.getElem?_eq_none hge]
  refine wpAny_bind ?_
  first
    | refine wpAny_bind (wpAny_typeNameOfWhole_keyiter hit.typeIs (wpAny_pure ?_))
    | refine wpAny_bind (wpAny_typeNameOf_keyiter hit.typeIs (wpAny_pure ?_))
  show wpAny _ _ (setField (.ref it) 0 .none >>= _) _ _ s
  refine wpAny_bind (wpAny_setField ho hd (by simp) ?_)
  show wpAny _ _ (newExc (.type "StopIteration") [] >>= _) _ _ _
  refine wpAny_bind ?_
  simp only [newExc, newTuple]
  refine wpAny_bind (wpAny_newObj_type ?_ (by size_fits))
  refine wpAny_bind (m := firstArgMember _ _) (wpAny_of_eq (a := Value.none) (by first | rfl | (simp only [firstArgMember]; rfl)) ?_)
  refine wpAny_newObj_type ?_ (by size_fits)
  simp only [raiseNew]
  refine wpAny_bind (wpAny_handled ?_)
  rw [show A.in1.handled = none from hh]
  refine wpAny_bind (wpAny_pure (wpAny_throw ?_))
  exact hE _ _ (((Heap.SameBut.update ..).extBut.push _).push _) ⟨_, Heap.get?_push_size _ rfl, rfl⟩
end
theorem drawsKeys {prog : Program} {w : World} {A : Around} (hh : A.handled = none) (it d : Addr) (hne : d ≠ it) (es : Array DictEntry) (ep : Nat) :
    Draws prog w A it [it, d] es.size (fun i v => (es[i]?).map (fun e => e.key) = some v) (fun i h => h.IsKeyIter it d i es.size ep ∧ h.DictRaw d es ep) where
  live := fun i h st => by
    obtain ⟨⟨o, ho, _⟩, _⟩ := st
    exact ⟨o, ho⟩
  frame := fun i h h' st k => by
    obtain ⟨⟨o, ho, r⟩, y⟩ := st
    exact ⟨⟨o, k it (by simp) o ho, r⟩, y.at fun o q => k d (by simp) o q⟩
  item := fun i s Q E hi st hQ => nextOf_key st.1 st.2 hi fun h' z sb => hQ _ h' s.toks (by simp [hi]) ⟨z, st.2.at fun o q => (sb.2 _ hne).trans q⟩ sb
  done := fun s Q E st hE => nextOf_keyEnd hh st.1 st.2 (Nat.le_refl _) hE
theorem begins_dict (d : Addr) (es : Array DictEntry) (ep : Nat) (lo : (d == sysModules) = false) :
    Begins (.ref d) { cls := .type "dict_keyiterator", data := .fields #[.ref d, .int 0 0, .int es.size 0, .int ep 0] } fun h => h.DictRaw d es ep where
  iter := fun prog w A E s Q hl h => wpAny_pyIter_dict_raw lo hl h
  keeps := fun h h' x hk => x.at fun o e => hk d o e
  free := rfl

/-! ### a written table walked along with a list -/
/-- the table's keys ks, in order, in the written part -/
structure KKeys (K : PySem.W.Frag) (d : Addr) (es : Array DictEntry) (ep : Nat) (ks : List Str) : Prop where
  at_ : K.lookup d = some ⟨.type "dict", none, .dict es ep, #[]⟩
  low : (d == sysModules) = false
  size : es.size = ks.length
  key : ∀ (i : Nat) (u : Value), (es[i]?).map (fun e => e.key) = some u → ∃ (z : Str) (t : Tok), ks[i]? = some z ∧ u = Value.str z t
theorem kkeys_of {K : PySem.W.Frag} {w : World} {d : Addr} {es : Array DictEntry} {n : Nat} {ks : List Str} (D : KDict K w d es n) (e : es.toList.map He.keyOf = He.keysIn w.params ks) : KKeys K d es n ks := by
  refine ⟨D.at_, D.low, ?_, fun i u h => ?_⟩
  · have h := congrArg List.length e
    simp only [He.keysIn, List.length_map, Array.length_toList] at h
    exact h
  · have h2 : (es.toList.map He.keyOf)[i]? = (He.keysIn w.params ks)[i]? := by rw [e]
    unfold He.keysIn at h2
    rw [List.getElem?_map, List.getElem?_map, Array.getElem?_toList] at h2
    cases q : es[i]? with
    | none =>
      rw [q] at h
      cases h
    | some x =>
      rw [q] at h h2
      cases r : ks[i]? with
      | none =>
        rw [r] at h2
        cases h2
      | some z =>
        rw [r] at h2
        have h3 : He.keyOf x = some (z, PyData.keyHash w.params z) := Option.some.inj h2
        unfold He.keyOf at h3
        split at h3
        · rename_i y t hy
          have h4 := Option.some.inj h3
          injection h4 with h5 h6
          have h7 : x.key = u := Option.some.inj h
          exact ⟨z, t, rfl, by rw [← h7, hy, h5]⟩
        · cases h3
def Itkz (K : PySem.W.Frag) (ks : List Str) (b : Addr) : It :=
  ⟨fun i H => i < ks.length ∧ ∃ (ys : List V) (y : V), SqL K H b ys ∧ ys[i]? = some y,
    fun i H v H' => ∃ T z y, v = .ref T ∧ H T = none ∧ H' = upd H T (.tup [.str z, y]) ∧ ks[i]? = some z ∧ ∀ ys, SqL K H b ys → ys[i]? = some y,
    fun i H => ∃ ys : List V, SqL K H b ys ∧ i = ks.length ∧ i = ys.length⟩
theorem walk_kz {K : PySem.W.Frag} {ks : List Str} {b : Addr} {ys : List V} (hn : ks.length = ys.length) : Walk (Itkz K ks b) ks.length (fun H => SqL K H b ys) (YPair (fun i => (ks[i]?).map V.str) (fun i => ys[i]?)) := by
  refine ⟨fun i H hi q => ⟨hi, ys, ys[i]'(by omega), q, by simp [show i < ys.length by omega]⟩, fun H q => ⟨ys, q, rfl, hn⟩, fun i H v H' hi q y => ?_⟩
  obtain ⟨T, z, y, h1, h2, h3, h4, h5⟩ := y
  exact ⟨T, .str z, y, h1, h2, h3, by simp [h4], h5 ys q⟩
theorem ne_of_ne {a b : Nat} (h : a ≠ b) : (show Addr from a) ≠ (show Addr from b) := h
theorem nin2 {a b c : Nat} (h1 : a ≠ b) (h2 : a ≠ c) : (show Addr from a) ∉ [(show Addr from b), (show Addr from c)] := by
  intro h
  rcases List.mem_cons.mp h with q | q
  · exact h1 q
  · rcases List.mem_cons.mp q with q | q
    · exact h2 q
    · cases q
theorem sep_of (n d b : Nat) (hd : d < n) (hb : b < n) : ZipSep2 (n + 4) (n + 2) (n + 3) n (n + 1) [n, d] [n + 1, b] where
  TIz := ne_of_ne (by omega)
  TOz := ne_of_ne (by omega)
  TITO := ne_of_ne (by omega)
  TIi1 := ne_of_ne (by omega)
  mem1 := .head _
  zf1 := nin2 (by omega) (by omega)
  Tf1 := nin2 (by omega) (by omega)
  TIi2 := ne_of_ne (by omega)
  mem2 := .head _
  zf2 := nin2 (by omega) (by omega)
  Tf2 := nin2 (by omega) (by omega)
  sep1_2 := nin2 (by omega) (by omega)
  sep2_1 := nin2 (by omega) (by omega)
theorem turn_kz {P : Program} {w : World} {K : PySem.W.Frag} {elts : List Expr} {kk : Nat} {tpos : Pos} {d b z TI TO i1 i2 : Addr} {es : Array DictEntry} {ep : Nat} {ks : List Str} (D : KKeys K d es ep ks)
    (S : ZipSep2 z TI TO i1 i2 [i1, d] [i2, b]) (n1 : i1 ≠ d) (n2 : i2 ≠ b) :
    Turn P w K (.Tuple elts kk tpos) (Itkz K ks b) [z, TI, TO, i1, i2] z (fun i h => IsZip h z TI TO .none ∧ IsTupOf2 h TI (.ref i1) (.ref i2) ∧ (∃ x y, IsTupOf2 h TO x y) ∧ h.IsKeyIter i1 d i es.size ep ∧ h.IsListIter i2 b i) where
  mem := by simp
  obj := fun i h st c hc => by
    obtain ⟨hz, hTI, ⟨x, y, hTO⟩, ⟨o1, e1, _, d1⟩, ⟨o2, e2, _, d2⟩⟩ := st
    have e' : c = z ∨ c = TI ∨ c = TO ∨ c = i1 ∨ c = i2 := by simpa using hc
    rcases e' with q | q | q | q | q
    · rw [q]; exact ⟨_, hz, fun v q => nomatch q⟩
    · rw [q]; exact ⟨_, hTI, fun v q => nomatch q⟩
    · rw [q]; exact ⟨_, hTO, fun v q => nomatch q⟩
    · rw [q]; exact ⟨o1, e1, fun v q => by rw [d1] at q; cases q⟩
    · rw [q]; exact ⟨o2, e2, fun v q => by rw [d2] at q; cases q⟩
  keep := fun i h h' st k => by
    obtain ⟨hz, hTI, ⟨x, y, hTO⟩, ⟨o1, e1, r1⟩, h2⟩ := st
    exact ⟨k z (by simp) _ hz, k TI (by simp) _ hTI, ⟨x, y, k TO (by simp) _ hTO⟩, ⟨o1, k i1 (by simp) o1 e1, r1⟩, h2.at fun o q => k i2 (by simp) o q⟩
  item := by
    intro X hP hw hK hc i pins s σ H E I hf st hg
    subst hP hw hK
    obtain ⟨hz, hTI, ⟨x0, y0, hTO⟩, h1, h2⟩ := st
    obtain ⟨hi, ys, y, hqy, hy⟩ := hg
    obtain ⟨its2, rv2, p2, _⟩ := I.list hqy
    have hzl : z < s.heap.objs.size := Heap.lt_size hz
    have raw : s.heap.DictRaw d es ep := ⟨_, I.kIn _ _ D.at_, ⟨rfl, rfl, rfl⟩, rfl⟩
    have hl2 : i < its2.toArray.size := by
      have h := (List.getElem?_eq_some_iff.mp hy).1
      have := rv2.length
      simp
      omega
    refine wpAny_pyNext_zipD2_item S (drawsKeys (A := X.A.in1) (I.ok.hd hc) i1 d n1.symm es ep) (Draws.list (A := X.A.in1) (I.ok.hd hc) i2 b n2.symm its2.toArray) hz hTI hTO ⟨h1, raw⟩ ⟨h2, p2.isList⟩ (by rw [D.size]; exact hi) hl2 fun x1 x2 h' tk y1 y2 z' TO' h1' h2' hT hsz hk => ?_
    obtain ⟨kz, kt, hkz, rfl⟩ := D.key i x1 y1
    obtain ⟨u2, hu2, ru2⟩ := rv2.get hy
    have ex2 : x2 = u2 := by
      have q : its2.toArray[i]? = some u2 := by simpa using hu2
      rw [q] at y2
      exact (Option.some.inj y2).symm
    subst ex2
    refine ⟨_, rfl, wpAny_letOwnedTupleGo_zip (s := { s with heap := h', toks := tk }) z' fun h'' z'' sb => ?_⟩
    have hT2 : h''.get? s.heap.objs.size = some { cls := .type "tuple", data := .seq #[.str kz kt, x2] } := (sb.2 _ (Nat.ne_of_gt hzl)).trans hT
    have new : ObjOk X.prog X.w (upd H s.heap.objs.size (.tup [.str kz, y])) h'' s.heap.objs.size (.tup [.str kz, y]) :=
      ⟨by show 2 ≤ sizeLine; decide, [.str kz kt, x2], .cons ⟨kt, rfl⟩ (.cons ru2 .nil), ⟨_, hT2, rfl, _, rfl⟩⟩
    have I1 : Inv X pins σ (upd H s.heap.objs.size (.tup [.str kz, y])) { s with heap := h'', toks := tk } :=
      I.turnedNew (t' := tk) (ch := [z, TI, TO, i1, i2]) (fun c o hb q => (sb.2 c (fun q' => hb (by simp [q']))).trans (hk c o (fun q' => hb (by simp [q'])) (fun q' => hb (by simp [q'])) (fun q' => hb (by simp [q'])) (fun q' => hb (by simp [q'])) q)) hf (Nat.le_refl _) new
    refine ⟨.ref s.heap.objs.size, _, I1, rfl, ⟨_, kz, y, rfl, I.hok.fresh (Nat.le_refl _), rfl, hkz, fun l hl => by rw [I.list_inj hl hqy]; exact hy⟩, ⟨z'', ?_, ⟨.str kz kt, x2, ?_⟩, ?_, ?_⟩, fun c hcm => ?_⟩
    · exact (sb.2 _ S.TIz).trans (hk _ _ S.TIz S.TITO S.TIi1 S.TIi2 hTI)
    · exact (sb.2 _ S.TOz).trans TO'
    · obtain ⟨⟨o1, e1, r1⟩, _⟩ := h1'
      exact ⟨o1, (sb.2 _ (Ne.symm S.zi1)).trans e1, r1⟩
    · exact h2'.1.at fun o q => (sb.2 _ (Ne.symm S.zi2)).trans q
    · have hlt : c < s.heap.objs.size := by
        have e' : c = z ∨ c = TI ∨ c = TO ∨ c = i1 ∨ c = i2 := by simpa using hcm
        rcases e' with q | q | q | q | q
        · rw [q]; exact hzl
        · rw [q]; exact Heap.lt_size hTI
        · rw [q]; exact Heap.lt_size hTO
        · rw [q]; obtain ⟨_, e1, _⟩ := h1; exact Heap.lt_size e1
        · rw [q]; obtain ⟨_, e2, _⟩ := h2; exact Heap.lt_size e2
      rw [upd_ne (Nat.ne_of_lt hlt)]
      exact (hf c hcm).1
  done := by
    intro X hP hw hK hc i pins s σ H E I hf st hg
    subst hP hw hK
    obtain ⟨hz, hTI, ⟨x0, y0, hTO⟩, h1, h2⟩ := st
    obtain ⟨ys, hqy, he1, he2⟩ := hg
    obtain ⟨its2, rv2, p2, _⟩ := I.list hqy
    have raw : s.heap.DictRaw d es ep := ⟨_, I.kIn _ _ D.at_, ⟨rfl, rfl, rfl⟩, rfl⟩
    have hl2 : i = its2.toArray.size := by
      have := rv2.length
      simp
      omega
    refine wpAny_pyNext_zipD2_end S (drawsKeys (A := X.A.in1) (I.ok.hd hc) i1 d n1.symm es ep) (Draws.list (A := X.A.in1) (I.ok.hd hc) i2 b n2.symm its2.toArray) hz hTI hTO ⟨h1, raw⟩ ⟨h2, p2.isList⟩ (by rw [D.size]; omega) (by omega) (.inr hl2) fun h' tk hk => ⟨rfl, ?_⟩
    exact I.turnedL (t' := tk) (ch := [z, TI, TO, i1, i2]) (fun c o hb q => hk c o (fun q' => hb (by simp [q'])) (fun q' => hb (by simp [q'])) (fun q' => hb (by simp [q'])) (fun q' => hb (by simp [q'])) q) hf
  self := fun A i s Q E st h => wpAny_pyIter_zip st.1 h
def iKz (K : PySem.W.Frag) (d : Addr) (ks : List Str) (ta : TA) : TI := fun σ H R => ta σ H fun vs H1 => ∃ b ys, vs = [.ref d, .ref b] ∧ SqL K H1 b ys ∧ R (Itkz K ks b) H1
theorem pi_kz {X : Cx} {e e2 : Expr} {ta : TA} {p pos tpos : Pos} {elts : List Expr} {kk : Nat} {d : Addr} {es : Array DictEntry} {ep : Nat} {ks : List Str} (D : KKeys X.K d es ep ks) (hg : Gl X "zip") (hm : X.mg "zip" = none) (ha : PA X [e, e2] ta)
    (hs : starEach [e, e2] X.env = (false, eval e X.env) :: starEach [e2] X.env := by rfl) (hpl : (backTo pos (starEach [e2] X.env)).any (·.1) = false := by rfl) :
    PI X (.Tuple elts kk tpos) (.Call (.Name "zip" p) [e, e2] [] pos) (iKz X.K d ks ta) := by
  refine ⟨fun pins s σ H R I h => ?_⟩
  refine Call_ (ld_blt I hg hm PyProof.Rows.boot_zip (PyProof.Rows.callWith_type1 (thn (ha.run pos pins s σ H _ I h) fun us s1 ⟨vs, H1, I1, r1, q1⟩ => ?_) hs hpl))
  obtain ⟨b, ys, ex, hqy, q⟩ := q1
  subst ex
  cases r1 with
  | cons r rr =>
    cases rr with
    | cons r' rr =>
      cases rr
      cases r
      cases r'
      obtain ⟨its2, rv2, p2, _⟩ := I1.list hqy
      have od := I1.kIn _ _ D.at_
      have la : d < s1.heap.objs.size := Heap.lt_size od
      have lb : b < s1.heap.objs.size := p2.lt
      refine zip_begins2 (begins_dict d es ep D.low) (begins_list b its2.toArray) ⟨_, od, ⟨rfl, rfl, rfl⟩, rfl⟩ p2.isList fun h' hz hTI hTO h1 h2 hsz hk => wpAny_pyIter_zip hz ?_
      have I2 : Inv X pins σ H1 { s1 with heap := h' } := I1.kept (t' := s1.toks) hk
      refine ⟨s1.heap.objs.size + 4, [s1.heap.objs.size + 4, s1.heap.objs.size + 2, s1.heap.objs.size + 3, s1.heap.objs.size, s1.heap.objs.size + 1], _, _, H1, rfl, I2,
        turn_kz D (sep_of s1.heap.objs.size d b la lb) (Nat.ne_of_gt la) (Nat.ne_of_gt (Nat.lt_succ_of_lt lb)), ⟨hz, hTI, ⟨_, _, hTO⟩, ⟨_, h1, rfl, rfl⟩, ⟨_, h2, rfl, rfl⟩⟩, fun c hcm => ?_, q⟩
      have e' : c = s1.heap.objs.size + 4 ∨ c = s1.heap.objs.size + 2 ∨ c = s1.heap.objs.size + 3 ∨ c = s1.heap.objs.size ∨ c = s1.heap.objs.size + 1 := by simpa using hcm
      have hle : s1.heap.objs.size ≤ c := by
        rcases e' with q | q | q | q | q <;> rw [q]
        · exact Nat.le_add_right _ _
        · exact Nat.le_add_right _ _
        · exact Nat.le_add_right _ _
        · exact Nat.le_refl _
        · exact Nat.le_add_right _ _
      exact I1.fpOk hle (I1.hok.fresh hle)

/-! ### o.f as a target -/
def gAttr (K : PySem.W.Frag) (to : TE) (f : Str) : TG := fun v σ H Q => to σ H fun x H1 => ∃ a C dx fs, x = .ref a ∧ H1 a = some (.ins C dx fs) ∧ Cls K C ∧ NoAttr K C f ∧ fs.length < 1000 ∧ Q σ (upd H1 a (.ins C dx (putF f v fs)))
theorem pg_attr {X : Cx} {o : Expr} {f : Str} {pos : Pos} {to : TE} (ho : PE X o to) : PG X (.Attribute o f pos) (gAttr X.K to f) := by
  refine ⟨fun pins s σ H v u Q I r h => ?_⟩
  show wpAny _ _ (do
    let ov ← holding [u] (eval o X.env)
    standAt pos.atName
    holding [u, ov] (setAttr ov f u)
    release [u, ov] []) _ _ _
  refine wpAny_bind (wpAny_holding (thn (ho.run pins s σ H _ I h) fun ov s1 ⟨x, H1, I1, r1, a, C, dx, fs, ex, ea, c, n, l, q⟩ => ?_))
  subst ex
  obtain rfl : ov = Value.ref a := r1
  refine wpAny_bind (wpAny_standAt (wpAny_bind (wpAny_holding ?_)))
  exact setattr_ok I1 ea c n l r fun s2 I2 => wpAny_release ⟨σ, _, I2, q⟩

/-! ### o.m(k = v, ..): keyword-only parameters -/
def tMethK (C : Addr) (m : Str) (j : Nat) (sp : Sp) (gV : List V → List V → List V) (E : XK) (ta : TE) (tk : TA) : TE := fun σ H Q => ta σ H fun x H1 => ∃ a dx fs, x = .ref a ∧ H1 a = some (.ins C dx fs) ∧ fs.lookup m = none ∧
  tk σ H1 fun zs H2 => zs.length = j ∧ sp (gV [x] zs) H2 Q E
theorem pe_methK {X : Cx} {CX : CXT} {k : Nat} {f C : Addr} {fd : FuncData} {ps ks : List Str} {sp : Sp} {E : XK} {m : Str} {pos apos : Pos} {o : Expr} {kws : List Keyword} {ta : TE} {tk : TA} {g : List Value → List Value → List Value} {gV : List V → List V → List V} {pl : Sem Bool}
    (he : PE X o ta) (c : Cls X.K C) (hm : Meth X.K C m f) (F : FnOk X.prog X.w X.K X.mg X.base CX k f fd ps sp) (hr : Room k X.A) (hb : KBn X.K fd ps 1 ks g gV) (hx : Passes CX X E) (hkw : PK X kws tk)
    (hall : (backToKw pos (keywordEach kws X.env)).all (·.1.isSome) = true := by rfl) (hks : (backToKw pos (keywordEach kws X.env)).filterMap (·.1) = ks := by rfl)
    (hpl : ((backTo pos (starEach [] X.env)).any (·.1) || (backToKw pos (keywordEach kws X.env)).any (·.1.isNone)) = false := by rfl)
    (ht : eval (.Call (.Attribute o m apos) [] kws pos) X.env = (do
      let ov ← eval o X.env
      standAt apos.atName
      let (f, first) ← holding [ov] (getMethod ov m pl)
      callWith pos f first (backTo pos (starEach [] X.env)) (backToKw pos (keywordEach kws X.env))) := by rfl) :
    PE X (.Call (.Attribute o m apos) [] kws pos) (tMethK C m ks.length sp gV E ta tk) := by
  refine ⟨fun pins s σ H Q I h => PySem.W.methodCall_KW (pl := pl) (thn (he.run pins s σ H _ I h) fun u s1 ⟨x, H1, I1, rx, a, dx, fs, ex, ea, l, q⟩ => ?_) ht⟩
  subst ex
  obtain rfl : u = Value.ref a := rx
  refine getmeth_ok I1 ea c hm l ?_
  refine PySem.W.callWith_KW0 (h₀ := X.base) (first := [.ref a]) I.ok.mod.kin hm.kp hall ?_ hpl
  refine thn (hkw.run pos pins s1 σ H1 _ I1 q) fun ws s2 ⟨zs, H2, I2, rz, l2, q2⟩ => ⟨I2.kIn, ?_⟩
  rw [hks]
  exact run_fnN (us := [.ref a]) (vs := [.ref a]) F hr hb hx I2 (.cons rfl .nil) rz rfl l2 q2
end TP

namespace TP
open PySem PySem.Spec PyProof.Rows L2

/-! ### some of a list, by places -/
def pick {α : Type} : List Nat → List α → List α
  | [], _ => []
  | i :: is, l => (match l[i]? with | some x => [x] | none => []) ++ pick is l
theorem pick_vals : ∀ (is : List Nat) {vs : List V} {us : List Value}, Vals vs us → Vals (pick is vs) (pick is us)
  | [], _, _, _ => .nil
  | i :: is, vs, us, r => by
    refine Vals.append ?_ (pick_vals is r)
    cases e : vs[i]? with
    | none =>
      rw [r.none_of e]
      exact .nil
    | some x =>
      obtain ⟨u, hu, ru⟩ := r.get e
      rw [hu]
      exact .cons ru .nil
theorem pick_mem {α : Type} {x : α} : ∀ (is : List Nat) {l : List α}, x ∈ pick is l → x ∈ l
  | [], _, h => nomatch h
  | i :: is, l, h => by
    rcases List.mem_append.mp h with h | h
    · cases e : l[i]? with
      | none =>
        rw [e] at h
        cases h
      | some y =>
        rw [e] at h
        have : x = y := by simpa using h
        rw [this]
        exact List.mem_of_getElem? e
    · exact pick_mem is h

/-! ### a def as it stands, and what it keeps -/
structure GtF (P : Program) (w : World) (K : PySem.W.Frag) (mg : Str → Option Value) (base : Heap) (CX : CXT) (k : Nat) (d : He.DefD) (ps : List Str) (sp : Sp) : Prop where
  ex : ∃ fd, FunD K d.name d.qual d.params d.body d.scope (d.dvs K) (d.kws K) (He.fAd K d.at_) fd ∧ FnOk P w K mg base CX k (He.fAd K d.at_) fd ps sp
/-- keywords ks told, n values by place; js: the places of the keyword-only parameters that lack; is: the order -/
structure Kb (d : He.DefD) (ps : List Str) (n : Nat) (ks : List Str) (js is : List Nat) : Prop where
  df : d.dfl = []
  kn : d.kwd ≠ []
  ch : ∀ (K : PySem.W.Frag) (D : Addr) (doc pm : Value) (an : Option Addr) (cdv ct : Value) (us mv ws : List Value), us.length = n → mv.length = (pick js (d.kws K)).length → ws.length = ks.length →
    KwChain D (((pick js (d.kws K)).map (·.1)).zip mv) (bindArgs (PySem.W.fnOf d.name d.qual d.params d.body d.scope .none (.ref D) doc pm an cdv ct) ⟨us, ks.zip ws⟩) (ps.zip (us ++ pick is (mv ++ ws)))
abbrev gK (d : He.DefD) (js is : List Nat) (K : PySem.W.Frag) : List V → List V → List V := fun vs zs => vs ++ pick is ((pick js (d.kws K)).map (·.2) ++ zs)
structure Kb0 (d : He.DefD) (ps : List Str) (n : Nat) : Prop where
  df : d.dfl = []
  kn : d.kwd ≠ []
  nn : n + d.kwd.length = ps.length
  ch : ∀ (K : PySem.W.Frag) (D : Addr) (doc pm : Value) (an : Option Addr) (cdv ct : Value) (us ks : List Value), us.length = n → ks.length = (d.kws K).length →
      KwChain D (((d.kws K).map (·.1)).zip ks) (bindArgs (PySem.W.fnOf d.name d.qual d.params d.body d.scope .none (.ref D) doc pm an cdv ct) ⟨us, []⟩) (ps.zip (us ++ ks))
section
variable {P : Program} {w : World} {K : PySem.W.Frag} {mg : Str → Option Value} {base : Heap} {CX : CXT} {k : Nat} {d : He.DefD} {ps ks : List Str} {sp : Sp} {n : Nat} {js is : List Nat}
theorem dvs0 (h : d.dfl = []) : d.dvs K = [] := by unfold He.DefD.dvs; rw [h]; rfl
theorem kws0 (h : d.kwd ≠ []) : d.kws K ≠ [] := by
  unfold He.DefD.kws
  intro e
  exact h (List.map_eq_nil_iff.mp e)
theorem GtF.kbn (G : GtF P w K mg base CX k d ps sp) (B : Kb d ps n ks js is) : ∃ fd mv, FnOk P w K mg base CX k (He.fAd K d.at_) fd ps sp ∧ KBn K fd ps n ks (fun us ws => us ++ pick is (mv ++ ws)) (gK d js is K) := by
  obtain ⟨fd, F, ok⟩ := G.ex
  rw [dvs0 B.df] at F
  obtain ⟨mv, h⟩ := F.kbinds0 (ps := ps) n ks (pick js (d.kws K)) (fun {α} us mv ws => us ++ pick is (mv ++ ws)) (kws0 B.kn) (fun q hq => pick_mem js hq) (fun r1 r2 r3 => r1.append (pick_vals is (r2.append r3))) (fun D doc pm an cdv ct us mv ws h1 h2 h3 => B.ch K D doc pm an cdv ct us mv ws h1 h2 h3)
  exact ⟨fd, mv, ok, h⟩
theorem GtF.kb0 (G : GtF P w K mg base CX k d ps sp) (B : Kb0 d ps n) : ∃ fd ds, FnOk P w K mg base CX k (He.fAd K d.at_) fd ps sp ∧ Vals ((d.kws K).map (·.2)) ds ∧ Binds K fd ps ds := by
  obtain ⟨fd, F, ok⟩ := G.ex
  rw [dvs0 B.df] at F
  obtain ⟨ds, h1, h2⟩ := F.binds0 (ps := ps) n (kws0 B.kn) (by have := B.nn; unfold He.DefD.kws; rw [List.length_map]; exact this) (fun D doc pm an cdv ct us ks h1 h2 => B.ch K D doc pm an cdv ct us ks h1 h2)
  exact ⟨fd, ds, ok, h1, h2⟩
theorem GtF.bn (G : GtF P w K mg base CX k d ps sp) (hd : d.dfl = []) (hb : BindN d ps) : ∃ fd, FnOk P w K mg base CX k (He.fAd K d.at_) fd ps sp ∧ Binds K fd ps [] := by
  obtain ⟨fd, F, ok⟩ := G.ex
  rw [dvs0 hd] at F
  exact ⟨fd, ok, F.bindsN hb⟩
theorem GtF.imp {sp' : Sp} (G : GtF P w K mg base CX k d ps sp) (h : ∀ vs H Q E, sp' vs H Q E → sp vs H Q E) : GtF P w K mg base CX k d ps sp' := by
  obtain ⟨fd, F, ok⟩ := G.ex
  exact ⟨fd, F, ok.imp h⟩
theorem gtF_mk {N : List Str} (D : IsDef K d) (S : FnScope N ps d.scope) (len : ∀ vs H Q E, sp vs H Q E → vs.length = ps.length) (B : BodyOk P w K mg base k N d sp) : GtF P w K mg base CX0 (k + 1) d ps sp := by
  obtain ⟨fd, F⟩ := D
  exact ⟨fd, F, fn_ok0 F S len B⟩
theorem gtFX_mk {N : List Str} (D : IsDef K d) (S : FnScope N ps d.scope) (len : ∀ vs H Q E, sp vs H Q E → vs.length = ps.length) (B : BodyOkX P w K mg base k N d sp) : GtF P w K mg base (L2.CX P w) (k + 1) d ps sp := by
  obtain ⟨fd, F⟩ := D
  exact ⟨fd, F, fn_okX F S len B⟩
end
section
variable {X : Cx} {CX : CXT} {k n : Nat} {d : He.DefD} {C : Addr} {ps ks : List Str} {sp : Sp} {E : XK} {x m : Str} {p pos apos : Pos} {o e : Expr} {es : List Expr} {kws : List Keyword} {t tk : TA} {ta : TE} {js is : List Nat}
/-- C(k = v, ..) -/
theorem GtF.makeK0 (G : GtF X.prog X.w X.K X.mg X.base CX k d ps sp) (B : Kb d ps 1 ks js is) (M : Mk X.K C (He.fAd X.K d.at_)) (hm : X.mg x = some (.ref C)) (hr : Room (k + 1) X.A) (hx : Passes CX X E) (hkw : PK X kws tk) (hg : Gl X x := by rfl)
    (hall : (backToKw pos (keywordEach kws X.env)).all (·.1.isSome) = true := by rfl) (hks : (backToKw pos (keywordEach kws X.env)).filterMap (·.1) = ks := by rfl) (hdb : (x == ("__debug__" : Str)) = false := by decide)
    (hpl : ((backTo pos (starEach [] X.env)).any (·.1) || (backToKw pos (keywordEach kws X.env)).any (·.1.isNone)) = false := by rfl) :
    PE X (.Call (.Name x p) [] kws pos) (tMakeK C 0 ks.length sp (gK d js is X.K) E tNil tk) := by
  obtain ⟨fd, mv, F, hb⟩ := G.kbn B
  exact pe_makeK0 M F hr hg hm hb hx hkw hall hks hdb hpl
theorem GtF.makeK (G : GtF X.prog X.w X.K X.mg X.base CX k d ps sp) (B : Kb d ps (n + 1) ks js is) (M : Mk X.K C (He.fAd X.K d.at_)) (hm : X.mg x = some (.ref C)) (hr : Room (k + 1) X.A) (hx : Passes CX X E) (ha : PA X (e :: es) t) (hkw : PK X kws tk) (hg : Gl X x := by rfl)
    (hall : (backToKw pos (keywordEach kws X.env)).all (·.1.isSome) = true := by rfl) (hks : (backToKw pos (keywordEach kws X.env)).filterMap (·.1) = ks := by rfl) (hdb : (x == ("__debug__" : Str)) = false := by decide)
    (he : starEach (e :: es) X.env = (false, eval e X.env) :: starEach es X.env := by rfl) (hpl : ((backTo pos (starEach (e :: es) X.env)).any (·.1) || (backToKw pos (keywordEach kws X.env)).any (·.1.isNone)) = false := by rfl) :
    PE X (.Call (.Name x p) (e :: es) kws pos) (tMakeK C n ks.length sp (gK d js is X.K) E t tk) := by
  obtain ⟨fd, mv, F, hb⟩ := G.kbn B
  exact pe_makeK M F hr hg hm hb hx ha hkw hall hks hdb he hpl
/-- C(), all keyword-only parameters left out -/
theorem GtF.make0 (G : GtF X.prog X.w X.K X.mg X.base CX k d ps sp) (B : Kb0 d ps 1) (M : Mk X.K C (He.fAd X.K d.at_)) (hm : X.mg x = some (.ref C)) (hr : Room (k + 1) X.A) (hx : Passes CX X E) (hg : Gl X x := by rfl)
    (hdb : (x == ("__debug__" : Str)) = false := by decide) : PE X (.Call (.Name x p) [] [] pos) (tMake C sp ((d.kws X.K).map (·.2)) E tNil) := by
  obtain ⟨fd, ds, F, hd, hb⟩ := G.kb0 B
  exact pe_make0 M F hr hg hm hb hd hx hdb
/-- C(e, ..), all keyword-only parameters left out -/
theorem GtF.makeD (G : GtF X.prog X.w X.K X.mg X.base CX k d ps sp) (B : Kb0 d ps (n + 1)) (M : Mk X.K C (He.fAd X.K d.at_)) (hm : X.mg x = some (.ref C)) (hr : Room (k + 1) X.A) (hx : Passes CX X E) (ha : PA X (e :: es) t) (hg : Gl X x := by rfl)
    (hdb : (x == ("__debug__" : Str)) = false := by decide) (he : starEach (e :: es) X.env = (false, eval e X.env) :: starEach es X.env := by rfl) (hpl : (backTo pos (starEach es X.env)).any (·.1) = false := by rfl) :
    PE X (.Call (.Name x p) (e :: es) [] pos) (tMake C sp ((d.kws X.K).map (·.2)) E t) := by
  obtain ⟨fd, ds, F, hd, hb⟩ := G.kb0 B
  exact pe_make M F hr hg hm hb hd hx ha hdb he hpl
/-- C(e, ..) -/
theorem GtF.make (G : GtF X.prog X.w X.K X.mg X.base CX k d ps sp) (hd : d.dfl = []) (hb : BindN d ps) (M : Mk X.K C (He.fAd X.K d.at_)) (hm : X.mg x = some (.ref C)) (hr : Room (k + 1) X.A) (hx : Passes CX X E) (ha : PA X (e :: es) t) (hg : Gl X x := by rfl)
    (hdb : (x == ("__debug__" : Str)) = false := by decide) (he : starEach (e :: es) X.env = (false, eval e X.env) :: starEach es X.env := by rfl) (hpl : (backTo pos (starEach es X.env)).any (·.1) = false := by rfl) :
    PE X (.Call (.Name x p) (e :: es) [] pos) (tMake C sp [] E t) := by
  obtain ⟨fd, F, hb⟩ := G.bn hd hb
  exact pe_make M F hr hg hm hb .nil hx ha hdb he hpl
/-- o.m(k = v, ..) -/
theorem GtF.methK (G : GtF X.prog X.w X.K X.mg X.base CX k d ps sp) (B : Kb d ps 1 ks js is) (c : Cls X.K C) (hm : Meth X.K C m (He.fAd X.K d.at_)) (hr : Room k X.A) (hx : Passes CX X E) (he : PE X o ta) (hkw : PK X kws tk) {pl : Sem Bool}
    (hall : (backToKw pos (keywordEach kws X.env)).all (·.1.isSome) = true := by rfl) (hks : (backToKw pos (keywordEach kws X.env)).filterMap (·.1) = ks := by rfl)
    (hpl : ((backTo pos (starEach [] X.env)).any (·.1) || (backToKw pos (keywordEach kws X.env)).any (·.1.isNone)) = false := by rfl)
    (ht : eval (.Call (.Attribute o m apos) [] kws pos) X.env = (do
      let ov ← eval o X.env
      standAt apos.atName
      let (f, first) ← holding [ov] (getMethod ov m pl)
      callWith pos f first (backTo pos (starEach [] X.env)) (backToKw pos (keywordEach kws X.env))) := by rfl) :
    PE X (.Call (.Attribute o m apos) [] kws pos) (tMethK C m ks.length sp (gK d js is X.K) E ta tk) := by
  obtain ⟨fd, mv, F, hb⟩ := G.kbn B
  exact pe_methK (pl := pl) he c hm F hr hb hx hkw hall hks hpl ht
/-- o.m(), all keyword-only parameters left out -/
theorem GtF.meth0 (G : GtF X.prog X.w X.K X.mg X.base CX k d ps sp) (B : Kb0 d ps 1) (c : Cls X.K C) (hm : Meth X.K C m (He.fAd X.K d.at_)) (hr : Room k X.A) (hx : Passes CX X E) (he : PE X o ta) {pl : Sem Bool}
    (ht : eval (.Call (.Attribute o m apos) [] [] pos) X.env = (do
      let ov ← eval o X.env
      standAt apos.atName
      let (f, first) ← holding [ov] (getMethod ov m pl)
      callWith pos f first (backTo pos (starEach [] X.env)) (backToKw pos (keywordEach [] X.env))) := by rfl) :
    PE X (.Call (.Attribute o m apos) [] [] pos) (tMeth C m sp ((d.kws X.K).map (·.2)) E ta tNil) := by
  obtain ⟨fd, ds, F, hd, hb⟩ := G.kb0 B
  exact pe_meth0 (pl := pl) he c hm F hr hb hd hx ht
/-- o.m(e, ..) -/
theorem GtF.meth (G : GtF X.prog X.w X.K X.mg X.base CX k d ps sp) (hd : d.dfl = []) (hb : BindN d ps) (c : Cls X.K C) (hm : Meth X.K C m (He.fAd X.K d.at_)) (hr : Room k X.A) (hx : Passes CX X E) (he : PE X o ta) (ha : PA X (e :: es) t) {pl : Sem Bool}
    (hst : starEach (e :: es) X.env = (false, eval e X.env) :: starEach es X.env := by rfl) (hpl : (backTo pos (starEach es X.env)).any (·.1) = false := by rfl)
    (ht : eval (.Call (.Attribute o m apos) (e :: es) [] pos) X.env = (do
      let ov ← eval o X.env
      standAt apos.atName
      let (f, first) ← holding [ov] (getMethod ov m pl)
      callWith pos f first (backTo pos (starEach (e :: es) X.env)) (backToKw pos (keywordEach [] X.env))) := by rfl) :
    PE X (.Call (.Attribute o m apos) (e :: es) [] pos) (tMeth C m sp [] E ta t) := by
  obtain ⟨fd, F, hb⟩ := G.bn hd hb
  exact pe_meth (pl := pl) he c hm F hr hb .nil hx ha hst hpl ht
/-- o.m() -/
theorem GtF.methN (G : GtF X.prog X.w X.K X.mg X.base CX k d ps sp) (hd : d.dfl = []) (hb : BindN d ps) (c : Cls X.K C) (hm : Meth X.K C m (He.fAd X.K d.at_)) (hr : Room k X.A) (hx : Passes CX X E) (he : PE X o ta) {pl : Sem Bool}
    (ht : eval (.Call (.Attribute o m apos) [] [] pos) X.env = (do
      let ov ← eval o X.env
      standAt apos.atName
      let (f, first) ← holding [ov] (getMethod ov m pl)
      callWith pos f first (backTo pos (starEach [] X.env)) (backToKw pos (keywordEach [] X.env))) := by rfl) :
    PE X (.Call (.Attribute o m apos) [] [] pos) (tMeth C m sp [] E ta tNil) := by
  obtain ⟨fd, F, hb⟩ := G.bn hd hb
  exact pe_meth0 (pl := pl) he c hm F hr hb .nil hx ht
end

/-! ### more of the head: Bools by place -/
theorem exs_at {exs : List (PySem.W.Frag → Bool)} {K : PySem.W.Frag} (h : (exs.all fun f => f K) = true) (i : Nat) {f : PySem.W.Frag → Bool} (e : exs[i]? = some f := by rfl) : f K = true :=
  List.all_eq_true.mp h f (List.mem_of_getElem? e)
/-- a written table read by a key -/
theorem kdct_of {K : PySem.W.Frag} {w : World} {a : Addr} {es : Array DictEntry} {n : Nat} {kvs : List (Str × He.Dv)} (D : KDict K w a es n) (h : He.valsB K a kvs = true) {q : Str × He.Dv} (hq : q ∈ kvs) : KDct K w a q.1 (q.2.v K) := by
  obtain ⟨u, hu, ru⟩ := He.valsB_ok h hq
  exact ⟨es, n, u, D.at_, D.lit, hu, ru⟩
end TP

namespace TP
open PySem PySem.Spec PyProof.Rows L2

/-- the slots written out -/
theorem nrm {P : L2.St → Hp → Prop} {σ σ' : L2.St} {H : Hp} (e : σ = σ') (h : P σ' H) : P σ H := by
  subst e
  exact h
theorem nrmG {i : Nat} {v : V} {σ σ' : L2.St} {H : Hp} {Q : L2.St → Hp → Prop} (e : σ.set i (some v) = σ') (h : Q σ' H) : gName i v σ H Q := by
  subst e
  exact h
/-! ### whole numbers -/
def isIntD : PyData → Bool
  | .int _ => true
  | _ => false
def isFromD (d : PyData) (l : Int) : Bool := match d with
  | .int i => decide (l ≤ i)
  | _ => false
def spWhole (K : PySem.W.Frag) : Sp := fun vs H Q _ => ∃ (x : V) (d : PyData), vs = [x] ∧ Dr K H x d ∧ Q (.bl (isIntD d)) H
def spFrom (K : PySem.W.Frag) : Sp := fun vs H Q _ => ∃ (x : V) (d : PyData) (l : Int), vs = [x, .int l] ∧ Dr K H x d ∧ Q (.bl (isFromD d l)) H
/-! ### a rule: seven numbers -/
structure RN where
  s : Int
  b : Int
  st : Int
  m : Int
  l : Int
  k : Int
  bk : Int
abbrev Bd (i : Int) : Prop := 0 ≤ i ∧ i < 2 ^ 600
structure RN.ok (r : RN) : Prop where
  s : 0 ≤ r.s
  b : 0 ≤ r.b
  st : 1 ≤ r.st
  m : 0 ≤ r.m
  l : 0 ≤ r.l
  k : 0 ≤ r.k
  bk : 0 ≤ r.bk
def RN.fs (r : RN) : List (Str × V) := [("since", .int r.s), ("base", .int r.b), ("step", .int r.st), ("more", .int r.m), ("leg", .int r.l), ("kept", .int r.k), ("back", .int r.bk)]
def RN.vs (r : RN) : List V := [.int r.s, .int r.b, .int r.st, .int r.m, .int r.l, .int r.k, .int r.bk]
/-- a rule lies at a -/
def Ru (K : PySem.W.Frag) (H : Hp) (a : Addr) (r : RN) : Prop := ∃ dx, H a = some (.ins (He.ga K "Rule") dx r.fs)
def RN.fee (r : RN) (wt lg : Int) (kp : Bool) : Int := r.b + r.m * ((wt - 1) / r.st) + r.l * lg + (if kp then r.k else 0)
/-- a rule is made: all numbers are from their leasts on -/
def spRuleG (K : PySem.W.Frag) : Sp := fun vs H Q _ => ∃ (x dx : Addr) (r : RN), vs = .ref x :: r.vs ∧ H x = some (.ins (He.ga K "Rule") dx []) ∧ r.ok ∧ ∀ H', Wk x H H' → H' x = some (.ins (He.ga K "Rule") dx r.fs) → Q .non H'
def spFee (K : PySem.W.Frag) : Sp := fun vs H Q _ => ∃ (a : Addr) (r : RN) (wt lg : Int) (kp : Bool), vs = [.ref a, .int wt, .int lg, .bl kp] ∧ Ru K H a r ∧ r.ok ∧ r.st < 2 ^ 600 ∧ r.m < 2 ^ 600 ∧ r.l < 2 ^ 600 ∧ 1 ≤ wt ∧ wt < 2 ^ 600 ∧ Bd lg ∧ Q (.int (r.fee wt lg kp)) H
theorem p600 : (1 : Int) < 2 ^ 600 := by decide +kernel
theorem bd0 : Bd 0 := ⟨by decide, by decide +kernel⟩
theorem lt600 {i : Int} (h : i < 10 ^ 61) : i < 2 ^ 600 := Int.lt_trans h (by decide +kernel)
theorem mulW {i j : Int} (hi : 0 ≤ i) (hi2 : i < 2 ^ 600) (hj : 0 ≤ j) (hj2 : j < 2 ^ 600) : CMulW i j :=
  wide_mul (a := 600) (b := 600) (by omega) (by omega) (by decide) (by decide) (by decide)
theorem divW {i j : Int} (hj : 1 ≤ j) (hj2 : j < 2 ^ 600) : CDivW i j := wide_div (b := 600) (by omega) (by omega) (by decide) (by decide)
theorem fee_bd {r : RN} (ok : r.ok) (hb : r.b < 10 ^ 60) (hm : r.m < 10 ^ 60) (hl : r.l < 10 ^ 60) (hk : r.k < 10 ^ 60) {wt lg : Int} {kp : Bool} (w1 : 1 ≤ wt) (w2 : wt ≤ 1000) (l1 : 0 ≤ lg) (l2 : lg ≤ 1000) : 0 ≤ r.fee wt lg kp ∧ r.fee wt lg kp < 10 ^ 100 := by
  have h1 : 0 ≤ (wt - 1) / r.st := Int.ediv_nonneg (by omega) (by have := ok.st; omega)
  have h2 : (wt - 1) / r.st ≤ 1000 := Int.le_trans (Int.ediv_le_self _ (by omega)) (by omega)
  unfold RN.fee
  generalize (wt - 1) / r.st = hv at h1 h2 ⊢
  have a1 : 0 ≤ r.m * hv := Int.mul_nonneg ok.m h1
  have a2 : r.m * hv ≤ 10 ^ 60 * 1000 := Int.mul_le_mul (by omega) h2 h1 (by decide)
  have b1 : 0 ≤ r.l * lg := Int.mul_nonneg ok.l l1
  have b2 : r.l * lg ≤ 10 ^ 60 * 1000 := Int.mul_le_mul (by omega) l2 l1 (by decide)
  have c0 := ok.b
  have c1 := ok.k
  generalize r.m * hv = u at a1 a2 ⊢
  generalize r.l * lg = v at b1 b2 ⊢
  cases kp <;> simp <;> omega
theorem heavy_bd {wt st : Int} (h : 1 ≤ wt) (h2 : wt < 2 ^ 600) (hs : 1 ≤ st) : 0 ≤ (wt - 1) / st ∧ (wt - 1) / st < 2 ^ 600 := by
  refine ⟨Int.ediv_nonneg (by omega) (by omega), Int.lt_of_le_of_lt (Int.ediv_le_self _ (by omega)) (by omega)⟩
/-! ### rows of numbers shown -/
theorem smInt {i : Int} (h0 : 0 ≤ i) (h : i < 10 ^ 100) : Sm 100 (.int i) := by
  refine ⟨?_, ?_, by rw [PyData.depth]; decide⟩
  · show decide (i.natAbs.log2 < 1920) = true
    refine decide_eq_true ?_
    by_cases h1 : i.natAbs = 0
    · rw [h1]
      decide
    · exact Nat.lt_of_lt_of_le ((Nat.log2_lt h1).mpr (show i.natAbs < 2 ^ 400 by omega)) (by decide)
  · rw [TP.wt]
    exact PyProof.Rows.toString_length_le h0 (by decide) h
theorem drInts {K : PySem.W.Frag} {H : Hp} : ∀ l : List Int, DrAll K H (l.map V.int) (l.map PyData.int)
  | [] => .nil
  | i :: l => .cons (.int i) (drInts l)
theorem shAll {B : Nat} : ∀ {l : List PyData}, (∀ d ∈ l, Sm B d) → PyData.showableAll l = true ∧ wtAll l ≤ l.length * (B + 2) ∧ PyData.depthAll l ≤ 20
  | [], _ => ⟨rfl, Nat.zero_le _, by rw [PyData.depthAll]; decide⟩
  | d :: l, h => by
    have h1 := h d (.head _)
    obtain ⟨h2, h3, h4⟩ := shAll (l := l) fun e he => h e (.tail _ he)
    have h5 := h1.wt
    have h6 := h1.dp
    refine ⟨by rw [PyData.showableAll, h1.sh, h2]; rfl, ?_, ?_⟩
    · rw [wtAll, List.length_cons, Nat.add_mul]
      omega
    · rw [PyData.depthAll]
      omega
theorem smInts {l : List Int} (h : ∀ i ∈ l, 0 ≤ i ∧ i < 10 ^ 100) (hl : l.length ≤ 100) : (PyData.list (l.map PyData.int)).showable = true ∧ (PyData.list (l.map PyData.int)).depth ≤ 50 ∧ (PyData.list (l.map PyData.int)).shown.length ≤ sizeLine := by
  obtain ⟨h1, h2, h3⟩ := shAll (B := 100) (l := l.map PyData.int) fun d hd => by
    obtain ⟨i, hi, rfl⟩ := List.mem_map.mp hd
    exact smInt (h i hi).1 (h i hi).2
  refine ⟨h1, by rw [PyData.depth]; omega, Nat.le_trans (shown_wt _) ?_⟩
  rw [TP.wt]
  rw [List.length_map] at h2
  have : sizeLine = 16777216 := sizeLine_eq
  have : l.length * (100 + 2) ≤ 100 * 102 := Nat.mul_le_mul hl (Nat.le_refl _)
  omega
/-- a class's object is made: all else stays -/
theorem made_ex {H H' : Hp} {x dx : Addr} {o o' : HO} (hx : H x = none) (hd : H dx = none) (wk : Wk x (upd (upd H dx o') x o) H') : Evl.Ex H H' := fun b u hb => by
  refine wk b u (ne_of_none hb hx) ?_
  rw [upd_ne (ne_of_none hb hx), upd_ne (ne_of_none hb hd)]
  exact hb
theorem Wl.ex {H H' : Hp} {a : Addr} {n : Nat} (h : Wl H a n) (e : Evl.Ex H H') : Wl H' a n := by
  obtain ⟨x, y, c, q, r⟩ := h
  exact ⟨x, y, c, e _ _ q, r⟩
theorem Dn.ex {a : Addr} {n : Nat} {H H1 H' : Hp} (h : Dn a n H H1) (e : Evl.Ex H1 H') : Dn a n H H' := ⟨h.wl.ex e, fun b o nb hb => e b o (h.k b o nb hb)⟩
theorem Ru.ex {K : PySem.W.Frag} {H H' : Hp} {a : Addr} {r : RN} (h : Ru K H a r) (e : Evl.Ex H H') : Ru K H' a r := by
  obtain ⟨dx, q⟩ := h
  exact ⟨dx, e _ _ q⟩
theorem Ru.dn {K : PySem.W.Frag} {H H' : Hp} {a b : Addr} {n : Nat} {r : RN} (h : Ru K H a r) (d : Dn b n H H') (nb : a ≠ b) : Ru K H' a r := by
  obtain ⟨dx, q⟩ := h
  exact ⟨dx, d.k _ _ nb q⟩
/-! ### a comprehension that draws -/
theorem Dn.put {a D : Addr} {m : Nat} {H H' : Hp} {o : HO} (d : Dn a m H H') (hD : H D = none) (n : D ≠ a) : Dn a m H (upd H' D o) := by
  refine ⟨?_, fun b u nb h => ?_⟩
  · obtain ⟨x, y, c, e, r⟩ := d.wl
    exact ⟨x, y, c, by rw [upd_ne (Ne.symm n)]; exact e, r⟩
  · rw [upd_ne (ne_of_none h hD)]
    exact d.k b u nb h
theorem lc_dn {J : It} {n : Nat} {G : Hp → Prop} {Y : Nat → Hp → V → Hp → Prop} (w : Walk J n G Y) {g : TG} {tt : TT} {te : TE} {vs : List Nat} {σ : L2.St} {H1 : Hp} {a D : Addr} {Qd : Hp → Prop} (m0 k : Nat) (P : V → Prop)
    (hW : Wl H1 a m0) (hD : H1 D = none) (hn : n < 1000000) (hG : ∀ m H, Dn a m H1 H → G H)
    (hs : ∀ (i : Nat) (x : V) (H H' : Hp) (C : V → Hp → Prop) (N : Hp → Prop), i < n → Dn a (m0 + i * k) H1 H → Y i H x H' → (∀ v H4, P v → Dn a (m0 + (i + 1) * k) H H4 → C v H4) →
      g x (wipe σ vs) H' fun σ2 H2 => wipe σ2 vs = wipe σ vs ∧ tt σ2 H2 fun b H3 => if b = true then te σ2 H3 C else N H3)
    (hd : ∀ H' acc, Dn a (m0 + n * k) H1 H' → H' D = some (.lst acc) → acc.length = n → (∀ v ∈ acc, P v) → Qd H') :
    ∃ W : Nat → Nat → Hp → Prop, (∃ m, W 0 m (upd H1 D (.lst []))) ∧ ∀ i m H, W i m H →
      (J.stop i H ∧ Qd H) ∨ (J.go i H ∧ ∃ Nx : Hp → Prop, (∀ H', Nx H' → ∃ m', m' < m ∧ W (i + 1) m' H') ∧ ∀ x H', J.yld i H x H' → g x (wipe σ vs) H' fun σ2 H2 => wipe σ2 vs = wipe σ vs ∧ tt σ2 H2 fun b H3 =>
        if b = true then te σ2 H3 fun y H4 => ∃ acc, H4 D = some (.lst acc) ∧ acc.length < sizeLine ∧ Nx (upd H4 D (.lst (acc ++ [y]))) else Nx H3) := by
  have nD : D ≠ a := hW.nep hD
  refine lc_it w (fun i H => Dn a (m0 + i * k) H1 H ∧ ∃ acc, H D = some (.lst acc) ∧ acc.length = i ∧ ∀ v ∈ acc, P v) ⟨?_, [], upd_same, rfl, fun v h => nomatch h⟩ (fun i H _ q => hG _ H q.1) (fun i x H H' hi q y => ?_) (fun H q => ?_)
  · exact Dn.put ⟨by simpa using hW, Wk.refl _ _⟩ hD nD
  · obtain ⟨d, acc, ha, hl, hp⟩ := q
    refine hs i x H H' _ _ hi d y fun v H4 hv d4 => ⟨acc, d4.k D _ nD ha, ?_, (d.trans d4).put hD nD, acc ++ [v], upd_same, by simp [hl], fun u hu => ?_⟩
    · have : sizeLine = 16777216 := sizeLine_eq
      omega
    · rcases List.mem_append.mp hu with h | h
      · exact hp u h
      · have : u = v := by simpa using h
        rw [this]
        exact hv
  · obtain ⟨d, acc, ha, hl, hp⟩ := q
    exact hd H acc d ha hl hp
/-- a number from a least one on, of up to sixty figures -/
def spNum : Sp := fun vs H Q _ => ∃ (a : Addr) (n : Nat) (l : Int), vs = [.ref a, .int l] ∧ Wl H a n ∧ n < 900000 ∧ ∀ (d : Int) (H' : Hp), 0 ≤ d → d < 10 ^ 59 → Dn a (n + 2) H H' → Q (.int (l + d)) H'
abbrev LKs : List Str := ["since", "base", "step", "more", "leg", "kept", "back"]
abbrev LKv : List (Str × He.Dv) := [("since", .int 0), ("base", .int 0), ("step", .int 1), ("more", .int 0), ("leg", .int 0), ("kept", .int 0), ("back", .int 0)]
theorem rule_at {r : RN} (ok : r.ok) {i : Nat} {x y : V} (hi : i < 7) (h1 : (LKs[i]?).map V.str = some x) (h2 : r.vs[i]? = some y) : ∃ (z : Str) (l j : Int), x = .str z ∧ y = .int j ∧ (z, He.Dv.int l) ∈ LKv ∧ l ≤ j := by
  match i, hi with
  | 0, _ => cases h1; cases h2; exact ⟨_, _, _, rfl, rfl, .head _, ok.s⟩
  | 1, _ => cases h1; cases h2; exact ⟨_, _, _, rfl, rfl, .tail _ (.head _), ok.b⟩
  | 2, _ => cases h1; cases h2; exact ⟨_, _, _, rfl, rfl, .tail _ (.tail _ (.head _)), ok.st⟩
  | 3, _ => cases h1; cases h2; exact ⟨_, _, _, rfl, rfl, .tail _ (.tail _ (.tail _ (.head _))), ok.m⟩
  | 4, _ => cases h1; cases h2; exact ⟨_, _, _, rfl, rfl, .tail _ (.tail _ (.tail _ (.tail _ (.head _)))), ok.l⟩
  | 5, _ => cases h1; cases h2; exact ⟨_, _, _, rfl, rfl, .tail _ (.tail _ (.tail _ (.tail _ (.tail _ (.head _))))), ok.k⟩
  | 6, _ => cases h1; cases h2; exact ⟨_, _, _, rfl, rfl, .tail _ (.tail _ (.tail _ (.tail _ (.tail _ (.tail _ (.head _)))))), ok.bk⟩
end TP

namespace TP
open PySem PySem.Spec PyProof.Rows L2

/-! ### an own exception class over an own base class -/
def oexB (K : PySem.W.Frag) (x : Str) : Bool := (match K.lookup (He.ga K x) with
    | some ⟨.type t, _, .cls cd, sl⟩ => decide (t = "type") && (match cd.mro, sl.toList with
      | .ref C' :: bm, [_, _, _, _, some (.builtin n), _] => decide (C' = He.ga K x) && (decide (n = "ValueError.__new__") && (!cd.hasDel && (cd.hasDict && PySem.HandSPX.refsVE bm)))
      | _, _ => false)
    | _ => false) &&
  (He.eqO (PySem.W.findIn K (.ref (He.ga K x)) "__setattr__") (some (some (.builtin "object.__setattr__"))) && (decide (PySem.W.subIn K (.ref (He.ga K x)) (.type "BaseException") = some true) &&
    (decide (PySem.W.typeIn K (.ref (He.ga K x)) = some (.type "type")) && PySem.W.keepIn K (.ref (He.ga K x)))))
theorem oexB_ok {K : PySem.W.Frag} {x : Str} (h : oexB K x = true) : OexC K (He.ga K x) := by
  obtain ⟨h0, h⟩ := He.ba h
  obtain ⟨h1, h⟩ := He.ba h
  obtain ⟨h2, h⟩ := He.ba h
  obtain ⟨h3, h4⟩ := He.ba h
  refine ⟨?_, He.eqO_ok h1, of_decide_eq_true h2, of_decide_eq_true h3, h4⟩
  split at h0
  · rename_i t dd cd sl ho
    obtain ⟨ht, hb⟩ := He.ba h0
    clear h0
    obtain rfl : t = "type" := of_decide_eq_true ht
    split at hb
    · rename_i C' bm k0 k1 k2 k3 n k5 hm hs
      obtain ⟨a1, hb⟩ := He.ba hb
      obtain ⟨a2, hb⟩ := He.ba hb
      obtain ⟨a3, hb⟩ := He.ba hb
      obtain ⟨a4, a5⟩ := He.ba hb
      have e1 : C' = He.ga K x := of_decide_eq_true a1
      have e2 : n = "ValueError.__new__" := of_decide_eq_true a2
      subst e2
      obtain ⟨nm, bs, mro, ns, qn, hd, sn, sub, ab, col, del⟩ := cd
      dsimp only at hm a3 a4
      have e3 : del = false := by simpa using a3
      subst e3 a4 hm
      have hsl : sl = #[k0, k1, k2, k3, some (.builtin "ValueError.__new__"), k5] := by
        obtain ⟨l⟩ := sl
        simp only at hs
        rw [hs]
      subst hsl
      rw [← e1] at ho ⊢
      exact ⟨nm, qn, ns, bs, bm, sn, sub, ab, col, dd, k0, k1, k2, k3, k5, ho, a5⟩
    · cases hb
  · cases h0
/-- its base's __init__ is ValueError's -/
def baseB (K : PySem.W.Frag) (x : Str) : Bool := PySem.W.readsIn K (He.ga K x) (.type "type") && (He.eqO (PySem.W.specialIn K (.ref (He.ga K x)) "__getattribute__") (some (some (.builtin "type.__getattribute__"))) &&
  ((match PySem.W.findCls K (.ref (He.ga K x)) (.type "type") "__init__" with
    | some (.val (.builtin n)) => decide (n = "ValueError.__init__")
    | _ => false) && PySem.W.keepIn K (.ref (He.ga K x))))
structure BaseC (K : PySem.W.Frag) (B : Addr) : Prop where
  rd : PySem.W.readsIn K B (.type "type") = true
  ga : PySem.W.specialIn K (.ref B) "__getattribute__" = some (some (.builtin "type.__getattribute__"))
  it : PySem.W.findCls K (.ref B) (.type "type") "__init__" = some (.val (.builtin "ValueError.__init__"))
theorem baseB_ok {K : PySem.W.Frag} {x : Str} (h : baseB K x = true) : BaseC K (He.ga K x) := by
  obtain ⟨h1, h⟩ := He.ba h
  obtain ⟨h2, h⟩ := He.ba h
  obtain ⟨h3, h4⟩ := He.ba h
  refine ⟨h1, He.eqO_ok h2, ?_⟩
  split at h3
  · rename_i n e
    rw [e, of_decide_eq_true h3]
  · cases h3
/-- the init of such a class stands, its fields are not the class's -/
def einB (K : PySem.W.Frag) (x : Str) : Bool := He.eqO (PySem.W.findIn K (.ref (He.ga K x)) "__init__") (some (some (.ref (He.fAd K (x, some "__init__"))))) && decide (PySem.W.typeIn K (.ref (He.fAd K (x, some "__init__"))) = some (.type "function"))
theorem einB_ok {K : PySem.W.Frag} {x : Str} (h : einB K x = true) : PySem.W.findIn K (.ref (He.ga K x)) "__init__" = some (some (.ref (He.fAd K (x, some "__init__")))) ∧ PySem.W.typeIn K (.ref (He.fAd K (x, some "__init__"))) = some (.type "function") := by
  obtain ⟨h1, h2⟩ := He.ba h
  exact ⟨He.eqO_ok h1, of_decide_eq_true h2⟩
def excCB (K : PySem.W.Frag) (x : Str) : Bool := He.eqO (PySem.W.findIn K (.ref (He.ga K x)) "__getattribute__") (some (some (.builtin "BaseException.__getattribute__"))) && (He.eqO (PySem.W.findIn K (.ref (He.ga K x)) "__getattr__") (some none) &&
  (decide (PySem.W.subIn K (.ref (He.ga K x)) (.type "BaseException") = some true) && (PySem.W.hasDictIn K (He.ga K x) && (He.eqO (PySem.W.findIn K (.ref (He.ga K x)) "__class__") (some (some (.builtin "object.__class__"))) &&
    (He.eqO (PySem.W.specialIn K (.builtin "object.__class__") "__get__") (some (some (.builtin "getset_descriptor.__get__"))) && (decide (PySem.W.takesIn K (.builtin "object.__class__") = some true) && decide (PySem.W.mroIn K (He.ga K x) (.type "object") = some true)))))))
theorem excCB_ok {K : PySem.W.Frag} {x : Str} (h : excCB K x = true) : ExcC K (He.ga K x) := by
  obtain ⟨h1, h⟩ := He.ba h
  obtain ⟨h2, h⟩ := He.ba h
  obtain ⟨h3, h⟩ := He.ba h
  obtain ⟨h4, h⟩ := He.ba h
  obtain ⟨h5, h⟩ := He.ba h
  obtain ⟨h6, h⟩ := He.ba h
  obtain ⟨h7, h8⟩ := He.ba h
  exact ⟨He.eqO_ok h1, He.eqO_ok h2, of_decide_eq_true h3, h4, He.eqO_ok h5, He.eqO_ok h6, of_decide_eq_true h7, of_decide_eq_true h8⟩
/-- isinstance by classes -/
def kitB2 (K : PySem.W.Frag) (xs ys : List Str) (t : Str → Str → Bool) : Bool := xs.all fun x => ys.all fun y => decide (PySem.W.kitOne K (.ref (He.ga K x)) (.ref (He.ga K y)) = some (t x y))
theorem kitB2_ok {K : PySem.W.Frag} {xs ys : List Str} {t : Str → Str → Bool} (h : kitB2 K xs ys t = true) {x y : Str} (hx : x ∈ xs) (hy : y ∈ ys) : PySem.W.kitOne K (.ref (He.ga K x)) (.ref (He.ga K y)) = some (t x y) :=
  of_decide_eq_true (List.all_eq_true.mp (List.all_eq_true.mp h x hx) y hy)

section
variable {X : Cx} {o e : Expr} {es : List Expr} {to te : TE} {ta : TA} {f x : Str} {p p' p1 p2 pos : Pos}
/-- B.__init__(self, ..), B a class of the text over ValueError without own __init__ -/
theorem pe_poinit {pl : Sem Bool} {B : Addr} (b : BaseC X.K B) (hm : X.mg x = some (.ref B)) (ha : PA X (e :: es) ta) (hg : Gl X x := by rfl) (hdb : (x == ("__debug__" : Str)) = false := by decide)
    (hc : eval (.Call (.Attribute (.Name x p1) "__init__" p2) (e :: es) [] pos) X.env = (do
      let ov ← eval (.Name x p1) X.env
      standAt p2.atName
      let (f, first) ← holding [ov] (getMethod ov "__init__" pl)
      callWith pos f first (backTo pos (starEach (e :: es) X.env)) (backToKw pos (keywordEach [] X.env))) := by rfl)
    (he : starEach (e :: es) X.env = (false, eval e X.env) :: starEach es X.env := by rfl) (hpl : (backTo pos (starEach es X.env)).any (·.1) = false := by rfl) :
    PE X (.Call (.Attribute (.Name x p1) "__init__" p2) (e :: es) [] pos) (tVeI X.K ta) := by
  refine ⟨fun pins s σ H Q I h => ?_⟩
  refine PySem.W.methodCall_KW (ld_glob I hg hm ?_ hdb) hc
  refine PySem.W.method_cls I.kIn b.ga (PySem.W.cls_value I.kIn b.rd b.it rfl ?_)
  show wpAny _ _ (callWith pos (Value.builtin "ValueError.__init__") [] (backTo pos (starEach (e :: es) X.env)) []) _ _ _
  refine PyProof.Rows.callWith_method1 (thn (ha.run pos pins _ σ H _ (I.tok _) h) fun us s1 ⟨vs, H1, I1, r1, a, C, ws, ev, hl, T, ea, q⟩ => ?_) he hpl
  subst ev
  cases r1 with
  | @cons _ u0 _ ur ra rw' =>
    obtain rfl : u0 = Value.ref a := ra
    have hlen : ur.length ≤ sizeLine := by
      rw [← Paired.length rw', sizeLine_eq]
      omega
    exact oinit_ok T I1 ea hlen fun s' J => ⟨.non, H1, J, rfl, q⟩
/-- C(e, ..) as a value -/
def tMkV (C : Addr) (sp : Sp) (E : XK) (ta : TA) : TE := fun σ H Q => ta σ H fun vs H1 => vs.length ≤ 1000 ∧ ∀ a, H1 a = none → sp (.ref a :: vs) (upd H1 a (exo a C none)) (fun v H2 => v = .non ∧ Q (.ref a) H2) E
theorem pe_mkV {CX : CXT} {C : Addr} {k : Nat} {d : He.DefD} {ps : List Str} {sp : Sp} {E : XK} (T : OexC X.K C) (iC : PySem.W.findIn X.K (.ref C) "__init__" = some (some (.ref (He.fAd X.K d.at_))) ∧ PySem.W.typeIn X.K (.ref (He.fAd X.K d.at_)) = some (.type "function"))
    (G : GtF X.prog X.w X.K X.mg X.base CX k d ps sp) (hdf : d.dfl = []) (hbn : BindN d ps) (hm : X.mg x = some (.ref C)) (hr : Room (k + 1) X.A) (hx : Passes CX X E) (ha : PA X (e :: es) ta) (hg : Gl X x := by rfl)
    (hdb : (x == ("__debug__" : Str)) = false := by decide) (he : starEach (e :: es) X.env = (false, eval e X.env) :: starEach es X.env := by rfl) (hpl : (backTo pos (starEach es X.env)).any (·.1) = false := by rfl) :
    PE X (.Call (.Name x p) (e :: es) [] pos) (tMkV C sp E ta) := by
  obtain ⟨fd, F1, hb⟩ := G.bn hdf hbn
  obtain ⟨iC, tI⟩ := iC
  refine ⟨fun pins s σ H Q I h => ?_⟩
  obtain ⟨nm, q, N, bs, bm, sn, sub, ab, col, dd, k0, k1, k2, k3, k5, hC, hbm⟩ := T.cls
  refine wpAny_Call_Name_kw (ld_glob I hg hm ?_ hdb)
  refine PySem.W.callWith_K (h₀ := X.base) I.ok.mod.kin T.kC (thn (ha.run pos pins s σ H _ I h) fun us s1 ⟨vs, H1, I1, r1, hz, q1⟩ => ⟨I1.kIn, ?_⟩) he hpl
  show wpAny _ _ (call (.ref C) us) _ _ _
  obtain ⟨hp, g, dr, tk, os⟩ := s1
  have hsz : hp.objs.size ≤ hp.objs.size + 1 := Nat.le_succ _
  have hn : H1 (hp.objs.size + 1) = none := I1.hok.fresh hsz
  have hq := q1 (hp.objs.size + 1) hn
  have kk : ∀ b o, hp.get? b = some o → ((hp.push (PySem.W.kdv_tup us)).push (PySem.HandSPX.excO C hp.objs.size)).get? b = some o := fun b o e => Heap.get?_push_of_some _ (Heap.get?_push_of_some _ e)
  have hget : ((hp.push (PySem.W.kdv_tup us)).push (PySem.HandSPX.excO C hp.objs.size)).get? (hp.objs.size + 1) = some (PySem.HandSPX.excO C hp.objs.size) := by heap_get
  have I2 : Inv X pins σ (upd H1 (hp.objs.size + 1) (exo (hp.objs.size + 1) C none)) ⟨(hp.push (PySem.W.kdv_tup us)).push (PySem.HandSPX.excO C hp.objs.size), g, dr, tk, os⟩ :=
    I1.laid (t' := tk) (a := hp.objs.size + 1) (o := exo (hp.objs.size + 1) C none) (h' := (hp.push (PySem.W.kdv_tup us)).push (PySem.HandSPX.excO C hp.objs.size)) kk hsz (exo_ok hget)
  have r2 : Vals (V.ref (hp.objs.size + 1) :: vs) (Value.ref (hp.objs.size + 1) :: us) := .cons rfl r1
  have hl : (Value.ref (hp.objs.size + 1) :: us ++ []).length = ps.length := by
    have e := r2.length
    rw [F1.len _ _ _ _ hq] at e
    rw [List.append_nil]
    exact e.symm
  have hus : us.length ≤ sizeLine := by
    rw [← Paired.length r1, sizeLine_eq]
    omega
  have hb2 := hb _ (Value.ref (hp.objs.size + 1) :: us) I2.kIn hl
  rw [List.append_nil] at hb2
  refine wpAny_call (PySem.HandSPX.call_own F.excBase_ValueError (fun Y => PySem.HandSPX.refsVE_contains Y bm hbm) (I1.kIn _ _ hC) (PySem.W.looks_findIn I1.kIn iC) (fun self => PySem.W.bind_fn I1.kIn self tI) hus
    (codeAny_mono (F1.run _ X.stack _ _ ⟨Value.ref (hp.objs.size + 1) :: us, []⟩ (Value.ref (hp.objs.size + 1) :: us) _ _ E (hr.make C us []) (I2.env0.make C us []) hb2 r2 hq) fun r s' hq' => ?_))
  cases r with
  | error er => exact hx pins σ _ _ er s' I2 hq'
  | ok fl =>
    cases fl with
    | ret u =>
      obtain ⟨v, H', I3, rv, ev, q3⟩ := I2.after hq'
      subst ev
      exact ⟨rv, ⟨V.ref (hp.objs.size + 1), H', I3, rfl, q3⟩⟩
    | next => exact False.elim hq'
    | brk => exact False.elim hq'
    | cont => exact False.elim hq'
/-- an error stands at a, its fields fs -/
def Er (H : Hp) (a C : Addr) (fs : List (Str × V)) : Prop := ∃ d, H a = some (exo a C (some d)) ∧ H d = some (exd d fs)
theorem Er.ex {H H' : Hp} {a C : Addr} {fs : List (Str × V)} (h : Er H a C fs) (e : Evl.Ex H H') : Er H' a C fs := by
  obtain ⟨d, h1, h2⟩ := h
  exact ⟨d, e _ _ h1, e _ _ h2⟩
theorem er_at {pins : List (Addr × Obj)} {σ : L2.St} {H : Hp} {s : Shared} {a C : Addr} {fs : List (Str × V)} (I : Inv X pins σ H s) (h : Er H a C fs) :
    ∃ (ox od : Obj) (mA : Str → Option Value), PySem.W.InstAt s.heap a ox C (some od) ∧ (∀ n, PySem.W.lookIn n od = some (mA n)) ∧ ∀ f, RelO (fs.lookup f) (mA f) := by
  obtain ⟨d, h1, h2⟩ := h
  obtain ⟨t1, he⟩ := exo_at I.hok h1
  obtain ⟨mA, hns, hr⟩ := exd_at I.hok h2
  obtain ⟨od, ho, hl⟩ := lookIn_ns hns
  exact ⟨_, od, mA, ⟨he, rfl, rfl, ho⟩, hl, hr⟩
/-- e.f -/
def tXv (K : PySem.W.Frag) (f : Str) (te : TE) : TE := fun σ H Q => te σ H fun x H1 => ∃ (a C : Addr) (fs : List (Str × V)) (v : V), x = .ref a ∧ ExcC K C ∧ PySem.W.findIn K (.ref C) f = some none ∧ Er H1 a C fs ∧ fs.lookup f = some v ∧ Q v H1
theorem pe_xv (he : PE X e te) (hb : attributeBase e f X.env (eval e X.env) = eval e X.env := by rfl) : PE X (.Attribute e f pos) (tXv X.K f te) := by
  refine ⟨fun pins s σ H Q I h => ?_⟩
  refine attr_of hb (thn (he.run pins s σ H _ I h) fun u s1 hh => ?_)
  obtain ⟨x, H1, I1, rx, a, C, fs, v, ex, T, hno, er, l, q⟩ := hh
  subst ex
  obtain rfl : u = Value.ref a := rx
  obtain ⟨ox, od, mA, J, hl, hr⟩ := er_at I1 er
  obtain ⟨u, hu, ru⟩ := RelO.some_of (v := v) (o := mA f) (by rw [← l]; exact hr f)
  exact HandSPX.exc_get I1.kIn J T.hg T.hk T.hs (PySem.W.findObj_own T.hd hno rfl (by rw [hl, hu])) (handed_of ru) ⟨v, H1, I1.tok _, ru, q⟩
/-- isinstance(e, c) -/
def rIsX (K : PySem.W.Frag) : List V → Hp → VK → Prop := fun xs H Q => ∃ (a C : Addr) (fs : List (Str × V)) (c : V) (cv : Value) (b : Bool), xs = [.ref a, c] ∧ ClsV c cv ∧ ExcC K C ∧ Er H a C fs ∧ PySem.W.kitOne K (.ref C) cv = some b ∧ Q (.bl b) H
theorem call_isx : CallR X (.builtin "isinstance") (rIsX X.K) := by
  intro pins s σ H xs us Q I r h
  obtain ⟨a, C, fs, c, cv, b, rfl, hcv, T, er, e, q⟩ := h
  obtain ⟨u1, u2, rfl, r1, r2⟩ := vals2 r
  obtain rfl : u1 = Value.ref a := r1
  have ec := hcv.eq r2
  subst ec
  obtain ⟨ox, od, mA, J, hl, hr⟩ := er_at I er
  have hcl : (PySem.W.clsIn X.K C).isSome = true := by
    obtain ⟨cd, hc, _⟩ := PySem.W.any_some T.hd
    rw [hc]
    rfl
  exact PySem.W.kia_one (PySem.W.kitx_exc hcl T.hg T.hk T.hs T.ha T.hn T.ht T.hm) I.kIn J e (fun z => nomatch z) fun tk => ⟨.bl b, H, I.kept (t' := tk) fun _ _ z => z, rfl, q⟩
end
/-! ### errors with one field, with two -/
abbrev eC (K : PySem.W.Frag) (x : Str) : Addr := He.ga K x
def spErr1 (K : PySem.W.Frag) (x f : Str) : Sp := fun vs H Q _ => ∃ (a : Addr) (v : V), vs = [.ref a, v] ∧ H a = some (exo a (eC K x) none) ∧
  ∀ dx, H dx = none → dx ≠ a → Q .non (upd (upd H dx (exd dx [(f, v)])) a (exo a (eC K x) (some dx)))
def spErr2 (K : PySem.W.Frag) (x f g : Str) : Sp := fun vs H Q _ => ∃ (a : Addr) (v u : V), vs = [.ref a, v, u] ∧ H a = some (exo a (eC K x) none) ∧
  ∀ dx, H dx = none → dx ≠ a → Q .non (upd (upd (upd H dx (exd dx [(f, v)])) a (exo a (eC K x) (some dx))) dx (exd dx [(g, u), (f, v)]))
def ktT (x y : Str) : Bool := decide (x = y) || decide (y = "PostError")
def exmB2 (K : PySem.W.Frag) (xs ys : List Str) (t : Str → Str → Bool) : Bool := xs.all fun x => ys.all fun y => decide (PySem.W.exmOne K (.ref (He.ga K x)) (.ref (He.ga K y)) = some (t x y))
theorem exmB2_ok {K : PySem.W.Frag} {xs ys : List Str} {t : Str → Str → Bool} (h : exmB2 K xs ys t = true) {x y : Str} (hx : x ∈ xs) (hy : y ∈ ys) : PySem.W.exmOne K (.ref (He.ga K x)) (.ref (He.ga K y)) = some (t x y) :=
  of_decide_eq_true (List.all_eq_true.mp (List.all_eq_true.mp h x hx) y hy)
/-- an error as a value is laid -/
theorem er_new {H1 : Hp} {a C dx : Addr} {fs : List (Str × V)} (hn : H1 a = none) (hd : upd H1 a (exo a C none) dx = none) (ne : dx ≠ a) :
    Evl.Ex H1 (upd (upd (upd H1 a (exo a C none)) dx (exd dx fs)) a (exo a C (some dx))) ∧ Er (upd (upd (upd H1 a (exo a C none)) dx (exd dx fs)) a (exo a C (some dx))) a C fs := by
  rw [upd_ne ne] at hd
  refine ⟨fun b o hb => ?_, dx, upd_same, ?_⟩
  · rw [upd_ne (ne_of_none hb hn), upd_ne (ne_of_none hb hd), upd_ne (ne_of_none hb hn)]
    exact hb
  · rw [upd_ne ne, upd_same]
theorem er_new2 {H1 : Hp} {a C dx : Addr} {fs gs : List (Str × V)} (hn : H1 a = none) (hd : upd H1 a (exo a C none) dx = none) (ne : dx ≠ a) :
    Evl.Ex H1 (upd (upd (upd (upd H1 a (exo a C none)) dx (exd dx fs)) a (exo a C (some dx))) dx (exd dx gs)) ∧ Er (upd (upd (upd (upd H1 a (exo a C none)) dx (exd dx fs)) a (exo a C (some dx))) dx (exd dx gs)) a C gs := by
  rw [upd_ne ne] at hd
  refine ⟨fun b o hb => ?_, dx, ?_, upd_same⟩
  · rw [upd_ne (ne_of_none hb hd), upd_ne (ne_of_none hb hn), upd_ne (ne_of_none hb hd), upd_ne (ne_of_none hb hn)]
    exact hb
  · rw [upd_ne (Ne.symm ne), upd_same]
end TP

namespace TP
open PySem PySem.Spec PyProof.Rows L2
/-! ### sizes of data, by depth -/
structure Sz (B k : Nat) (d : PyData) : Prop where
  sh : d.showable = true
  wt : TP.wt d ≤ B
  dp : d.depth ≤ k
theorem Sz.mono {B C k j : Nat} {d : PyData} (h : Sz B k d) (l : B ≤ C) (m : k ≤ j) : Sz C j d := ⟨h.sh, Nat.le_trans h.wt l, Nat.le_trans h.dp m⟩
theorem Sz.rp {B k : Nat} {d : PyData} (h : Sz B k d) (hb : B ≤ 10000000 := by decide) (hk : k ≤ 50 := by decide) : d.showable = true ∧ d.depth ≤ 50 ∧ d.shown.length ≤ sizeLine :=
  ⟨h.sh, Nat.le_trans h.dp hk, Nat.le_trans (shown_wt d) (Nat.le_trans h.wt (Nat.le_trans hb (by rw [sizeLine_eq]; decide)))⟩
theorem Sz.non : Sz 5 0 .none := ⟨rfl, by decide, by decide⟩
theorem Sz.bl (b : Bool) : Sz 5 0 (.bool b) := ⟨rfl, Nat.le_refl _, by rw [PyData.depth]; exact Nat.le_refl _⟩
theorem Sz.nat {i : Int} (h0 : 0 ≤ i) (h : i < 10 ^ 100) : Sz 100 0 (.int i) := by
  have q := smInt h0 h
  exact ⟨q.sh, q.wt, by rw [PyData.depth]; exact Nat.le_refl _⟩
theorem Sz.int {i : Int} (h : i.natAbs < 10 ^ 100) : Sz 101 0 (.int i) := by
  refine ⟨?_, ?_, by rw [PyData.depth]; exact Nat.le_refl _⟩
  · show decide (i.natAbs.log2 < 1920) = true
    refine decide_eq_true ?_
    by_cases h1 : i.natAbs = 0
    · rw [h1]
      decide
    · exact Nat.lt_of_lt_of_le ((Nat.log2_lt h1).mpr (show i.natAbs < 2 ^ 400 by omega)) (by decide)
  · rw [TP.wt]
    show (Str.ofString (toString i)).length ≤ 101
    rw [PyProof.Rows.ofString_length]
    exact int_text_length_le10 (k := 100) (by decide) h
theorem Sz.str {B : Nat} {z : Str} (h : As B z) : Sz (10 * B + 2) 0 (.str z) := by
  have q := Sm.str h
  exact ⟨q.sh, q.wt, by rw [PyData.depth]; exact Nat.le_refl _⟩
theorem Sz.all {B k : Nat} : ∀ {l : List PyData}, (∀ d ∈ l, Sz B k d) → PyData.showableAll l = true ∧ wtAll l ≤ l.length * (B + 2) ∧ PyData.depthAll l ≤ k
  | [], _ => ⟨rfl, Nat.zero_le _, by rw [PyData.depthAll]; exact Nat.zero_le _⟩
  | d :: l, h => by
    have h1 := h d (.head _)
    obtain ⟨h2, h3, h4⟩ := Sz.all (l := l) fun e he => h e (.tail _ he)
    have h5 := h1.wt
    have h6 := h1.dp
    refine ⟨by rw [PyData.showableAll, h1.sh, h2]; rfl, ?_, ?_⟩
    · rw [wtAll, List.length_cons, Nat.add_mul]
      omega
    · rw [PyData.depthAll]
      omega
theorem Sz.lst {B k n : Nat} {l : List PyData} (h : ∀ d ∈ l, Sz B k d) (hn : l.length ≤ n) : Sz (n * (B + 2) + 3) (k + 1) (.list l) := by
  obtain ⟨h1, h2, h3⟩ := Sz.all h
  have := Nat.mul_le_mul hn (Nat.le_refl (B + 2))
  exact ⟨h1, by rw [TP.wt]; omega, by rw [PyData.depth]; omega⟩
theorem Sz.tup {B k n : Nat} {l : List PyData} (h : ∀ d ∈ l, Sz B k d) (hn : l.length ≤ n) : Sz (n * (B + 2) + 3) (k + 1) (.tuple l) := by
  obtain ⟨h1, h2, h3⟩ := Sz.all h
  have := Nat.mul_le_mul hn (Nat.le_refl (B + 2))
  exact ⟨h1, by rw [TP.wt]; omega, by rw [PyData.depth]; omega⟩
theorem Sz.kv {B k : Nat} : ∀ {l : List (PyData × PyData)}, (∀ d ∈ l, Sz B k d.1 ∧ Sz B k d.2) → PyData.showableKv l = true ∧ wtKv l ≤ l.length * (2 * B + 4) ∧ PyData.depthKv l ≤ k
  | [], _ => ⟨rfl, Nat.zero_le _, by rw [PyData.depthKv]; exact Nat.zero_le _⟩
  | (x, d) :: l, h => by
    obtain ⟨h0, h1⟩ := h (x, d) (.head _)
    obtain ⟨h2, h3, h4⟩ := Sz.kv (l := l) fun e he => h e (.tail _ he)
    have h5 := h1.wt
    have h6 := h1.dp
    have h7 := h0.wt
    have h8 := h0.dp
    dsimp only at h5 h6 h7 h8
    refine ⟨by rw [PyData.showableKv, h0.sh, h1.sh, h2]; rfl, ?_, ?_⟩
    · rw [wtKv, List.length_cons, Nat.add_mul]
      omega
    · rw [PyData.depthKv]
      omega
theorem Sz.dct {B k n : Nat} {l : List (PyData × PyData)} (h : ∀ d ∈ l, Sz B k d.1 ∧ Sz B k d.2) (hn : l.length ≤ n) : Sz (n * (2 * B + 4) + 3) (k + 1) (.dict l) := by
  obtain ⟨h1, h2, h3⟩ := Sz.kv h
  have := Nat.mul_le_mul hn (Nat.le_refl (2 * B + 4))
  exact ⟨h1, by rw [TP.wt]; omega, by rw [PyData.depth]; omega⟩
theorem forall1 {α : Type} {P : α → Prop} {a : α} (h : P a) : ∀ x ∈ [a], P x := fun x hx => by
  obtain rfl : x = a := by simpa using hx
  exact h
theorem forall2 {α : Type} {P : α → Prop} {a b : α} (h : P a) (g : P b) : ∀ x ∈ [a, b], P x := fun x hx => by
  rcases List.mem_cons.mp hx with rfl | hx
  · exact h
  · exact forall1 g x hx
theorem dpBls {K : PySem.W.Frag} {H : Hp} : ∀ l : List Bool, DpAll K H (l.map V.bl) (l.map PyData.bool)
  | [] => .nil
  | _ :: l => .cons (.bl _) (dpBls l)
theorem canBls : ∀ l : List Bool, PyData.canLayAll0 (l.map PyData.bool) = true ∧ PyData.depthAll (l.map PyData.bool) = 0 ∧ PyData.eqvAll (l.map PyData.bool) (l.map PyData.bool) = true
  | [] => ⟨rfl, rfl, rfl⟩
  | b :: l => by
    obtain ⟨h1, h2, h3⟩ := canBls l
    refine ⟨?_, ?_, ?_⟩
    · show (true && PyData.canLayAll0 (l.map PyData.bool)) = true
      rw [h1]
      rfl
    · show max 0 (PyData.depthAll _) = 0
      rw [h2]
      rfl
    · show ((b == b) && PyData.eqvAll (l.map PyData.bool) (l.map PyData.bool)) = true
      rw [h3]
      simp
theorem shapedBls (l : List Bool) : SeqAt.shaped (.list (l.map PyData.bool)) = true := by
  unfold SeqAt.shaped
  rw [show PyData.canLay0 (.list (l.map PyData.bool)) = true from (canBls l).1, show (PyData.list (l.map PyData.bool)).depth = PyData.depthAll (l.map PyData.bool) + 1 from rfl, (canBls l).2.1]
  decide
/-- a list of truths is as itself -/
theorem eqBls {K : PySem.W.Frag} {H : Hp} {p q : Addr} {l : List Bool} {xs ys : List V} {Q : VK} (h1 : H p = some (.lst xs)) (h2 : H q = some (.lst ys)) (e1 : xs = l.map V.bl) (e2 : ys = l.map V.bl) (k : Q (.bl true) H) : rEqD K (.ref p) (.ref q) H Q := by
  subst e1 e2
  refine ⟨_, _, .lst (SqL.of h1) (dpBls l), .lst (SqL.of h2) (dpBls l), shapedBls l, shapedBls l, ?_⟩
  rw [show PyData.eqv (.list (l.map PyData.bool)) (.list (l.map PyData.bool)) = true from (canBls l).2.2]
  exact k
/-! ### raise of an own error -/
theorem GtF.pmk {X : Cx} {e : Expr} {es : List Expr} {ta : TA} {x : Str} {p pos : Pos} {CX : CXT} {C : Addr} {k : Nat} {d : He.DefD} {ps : List Str} {sp : Sp} (T : OexC X.K C) (iC : PySem.W.findIn X.K (.ref C) "__init__" = some (some (.ref (He.fAd X.K d.at_))) ∧ PySem.W.typeIn X.K (.ref (He.fAd X.K d.at_)) = some (.type "function"))
    (G : GtF X.prog X.w X.K X.mg X.base CX k d ps sp) (hdf : d.dfl = []) (hbn : BindN d ps) (hm : X.mg x = some (.ref C)) (hr : Room (k + 1) X.A) (hx : Passes CX X (fun _ _ _ => False)) (ha : PA X (e :: es) ta) (hg : Gl X x := by rfl)
    (hdb : (x == ("__debug__" : Str)) = false := by decide) (he : starEach (e :: es) X.env = (false, eval e X.env) :: starEach es X.env := by rfl) (hpl : (backTo pos (starEach es X.env)).any (·.1) = false := by rfl) :
    PMk X (.Call (.Name x p) (e :: es) [] pos) (tMkO C sp [] ta) := by
  obtain ⟨fd, F1, hb⟩ := G.bn hdf hbn
  exact pmk_oex T iC.1 iC.2 F1 hr hb .nil hx hg hm ha hdb he hpl
end TP

namespace TP
open PySem PySem.Spec PyProof.Rows L2 PySem.SeqAt
/-! ### x == text, x any data -/
theorem dct_eq_txt (l : Addr) (es : Array DictEntry) (ep : Nat) (dd : Option Addr) (sl : Array (Option Value)) (b : Str) (u : Tok) :
    Meets (Builtin.«dict.__eq__» ⟨[.ref l, .str b u], []⟩) (fun _ R s => s.heap.get? l = some { cls := .type "dict", dict := dd, data := .dict es ep, slots := sl } ∧ R (.ok (.ret .notImplemented)) s) :=
  .of_wp fun prog w A R s h => by
    obtain ⟨hp, g, d, tk, os⟩ := s
    obtain ⟨hl, h⟩ := h
    have f1 := F.sub_str_dict
    wp_walk using wpAny_loadPart' hl
    exact ⟨_, rfl, h⟩
theorem txt_eq_dct (b : Str) (u : Tok) (l : Addr) (es : Array DictEntry) (ep : Nat) (dd : Option Addr) (sl : Array (Option Value)) :
    Meets (Builtin.«str.__eq__» ⟨[.str b u, .ref l], []⟩) (fun _ R s => s.heap.get? l = some { cls := .type "dict", dict := dd, data := .dict es ep, slots := sl } ∧ R (.ok (.ret .notImplemented)) s) :=
  .of_wp fun prog w A R s h => by
    obtain ⟨hp, g, d, tk, os⟩ := s
    obtain ⟨hl, h⟩ := h
    wp_walk using wpAny_loadPart' hl, wpAny_load hl
    exact ⟨_, rfl, h⟩
theorem rc_dct_txt {A : Around} {s : Shared} {l : Addr} {es : Array DictEntry} {ep : Nat} {dd : Option Addr} {sl : Array (Option Value)} (b : Str) (u : Tok) (ho : s.heap.get? l = some { cls := .type "dict", dict := dd, data := .dict es ep, slots := sl }) (hu : A.units < cLine) :
    RcAt A s (.ref l) (.str b u) false := fun prog w E Q h =>
  rc_eq_decline_or (k := false) ⟨_, ho, rfl⟩ (typeIs_str s b u) (by decide) F.sub_str_dict F.slot_dict_eq F.slot_str_eq_refl
    (fun _ q => call_meets F.slot_dict_eq ⟨_, ho, rfl⟩ F.entry_dict_eq (F.args_dict_eq_2 _ _) (dct_eq_txt l es ep dd sl b u) ⟨ho, q⟩)
    (fun _ q => call_meets F.slot_str_eq_refl (typeIs_str s b u) F.entry_str_eq (F.args_str_eq_2 _ _) (txt_eq_dct b u l es ep dd sl) ⟨ho, q⟩)
    (fun _ q => wpAny_of_eq (rfl : isSame (.ref l) (.str b u) = pure false) q) (.inr hu) h
def isTx (d : PyData) (z : Str) : Bool := match d with
  | .str y => decide (y = z)
  | _ => false
/-- x == z -/
def rEqS (K : PySem.W.Frag) : R2 := fun x y H Q => ∃ (d : PyData) (z : Str), y = .str z ∧ Dr K H x d ∧ Q (.bl (isTx d z)) H
theorem op_eqS {X : Cx} (hS : SysK X.K) (hu : X.A.units + 64 < cLine) : OpR X (compareOp .Eq) (rEqS X.K) := by
  intro pins s σ H x y v u Q I rx ry h
  obtain ⟨d, z, rfl, hd, q⟩ := h
  obtain ⟨as, r1, _⟩ := Dr.reads hS I d x v hd rx
  obtain ⟨t, rfl⟩ : ∃ t, u = Value.str z t := ry
  have hu0 : X.A.units < cLine := by omega
  have fin : ∀ b : Bool, b = isTx d z → EP X pins σ Q (.bool b) s := fun b e => ⟨.bl b, H, I, rfl, by rw [e]; exact q⟩
  cases r1 with
  | none => exact RcAt.none_str z t X.prog X.w X.xe _ (fin false rfl)
  | bool b => exact RcAt.bool_str b z t X.prog X.w X.xe _ (fin false rfl)
  | int i t' => exact RcAt.int_str i t' z t X.prog X.w X.xe _ (fin false rfl)
  | str x' t' =>
    refine RcAt.str_str x' t' z t X.prog X.w X.xe _ (fin _ ?_)
    show (x' == z) = decide (x' = z)
    by_cases e : x' = z
    · simp [e]
    · simp [e]
  | list k1 k2 k3 k4 => exact RcAt.list_str z t ⟨_, k1, k2, _, k3⟩ hu0 X.prog X.w X.xe _ (fin false rfl)
  | tuple k1 k2 k3 k4 => exact RcAt.tuple_str z t ⟨_, k1, k2, _, k3⟩ hu0 X.prog X.w X.xe _ (fin false rfl)
  | @dict a o es n kvs as bs k1 k2 k3 k4 k5 =>
    obtain ⟨oc, od, dt, sl⟩ := o
    dsimp only at k2 k3
    subst k2 k3
    exact rc_dct_txt z t k1 hu0 X.prog X.w X.xe _ (fin false rfl)
theorem ExcC.xf {K : PySem.W.Frag} {C : Addr} (h : ExcC K C) : XfC K C := ⟨h.hg, h.hk, h.hs, h.hd⟩
/-! ### isinstance of a caught error with fields -/
section
variable {X : Cx} {a C : Addr} {oe : Obj} {cls : Value} {d : Option Addr} {pn : List (Addr × Obj)}
theorem caught_at {pins : List (Addr × Obj)} {σ : L2.St} {H : Hp} {s : Shared} {dd : Addr} {fs : List (Str × V)} (hz : Zc (.ref C) (some dd) oe) (hf : ∃ vs, oe.data = .fields vs) (I : Inv (X.suite a ((a, oe) :: pn)) pins σ H s) (e : H dd = some (.xd fs)) :
    ∃ od, PySem.W.InstAt s.heap a oe C (some od) := by
  obtain ⟨ha, _⟩ := I.pin (a, oe) (List.mem_append_left _ List.mem_cons_self)
  obtain ⟨vs, hv⟩ := hf
  have hx : ObjOk X.prog X.w H s.heap dd (.xd fs) := I.hok dd _ e
  obtain ⟨mA, hns, hr⟩ := hx
  obtain ⟨od, ho, hl⟩ := lookIn_ns hns
  exact ⟨od, ha, hz.1, by unfold PySem.W.notCls; rw [hv] <;> rfl, by rw [hz.2]; exact ho⟩
theorem excC_cls {K : PySem.W.Frag} (T : ExcC K C) : (PySem.W.clsIn K C).isSome = true := by
  obtain ⟨cd, hc, _⟩ := PySem.W.any_some T.hd
  rw [hc]
  rfl
/-- isinstance(e, c), e caught -/
def rIsC (K : PySem.W.Frag) (a : Addr) (cls : Value) (d : Option Addr) : List V → Hp → VK → Prop := fun xs H Q => ∃ (C dd : Addr) (fs : List (Str × V)) (c : V) (cv : Value) (b : Bool), xs = [.ref a, c] ∧ cls = .ref C ∧ d = some dd ∧ H dd = some (.xd fs) ∧ ClsV c cv ∧ ExcC K C ∧
  PySem.W.kitOne K (.ref C) cv = some b ∧ Q (.bl b) H
theorem call_isC (hz : Zc cls d oe) (hf : ∃ vs, oe.data = .fields vs) : CallR (X.suite a ((a, oe) :: pn)) (.builtin "isinstance") (rIsC X.K a cls d) := by
  intro pins s σ H xs us Q I r h
  obtain ⟨C, dd, fs, c, cv, b, rfl, rfl, rfl, e0, hcv, T, e, q⟩ := h
  obtain ⟨u1, u2, rfl, r1, r2⟩ := vals2 r
  obtain rfl : u1 = Value.ref a := r1
  have ec := hcv.eq r2
  subst ec
  obtain ⟨od, J⟩ := caught_at hz hf I e0
  exact PySem.W.kia_one (PySem.W.kitx_exc (excC_cls T) T.hg T.hk T.hs T.ha T.hn T.ht T.hm) I.kIn J e (fun z => nomatch z) fun tk => ⟨.bl b, H, I.kept (t' := tk) fun _ _ z => z, rfl, q⟩
/-- isinstance(e, (c1, c2, ..)), e caught -/
def rIsCT (K : PySem.W.Frag) (a : Addr) (cls : Value) (d : Option Addr) : List V → Hp → VK → Prop := fun xs H Q => ∃ (C dd tp : Addr) (fs : List (Str × V)) (cs : List V) (us : List Value) (b : Bool), xs = [.ref a, .ref tp] ∧ cls = .ref C ∧ d = some dd ∧ H dd = some (.xd fs) ∧ H tp = some (.tup cs) ∧ Paired ClsV cs us ∧ ExcC K C ∧
  PySem.W.kitAny K (.ref C) us = some b ∧ Q (.bl b) H
theorem call_isCT (hz : Zc cls d oe) (hf : ∃ vs, oe.data = .fields vs) : CallR (X.suite a ((a, oe) :: pn)) (.builtin "isinstance") (rIsCT X.K a cls d) := by
  intro pins s σ H xs us Q I r h
  obtain ⟨C, dd, tp, fs, cs, ws, b, rfl, rfl, rfl, e0, hT, k, T, e, q⟩ := h
  obtain ⟨u1, u2, rfl, r1, r2⟩ := vals2 r
  obtain rfl : u1 = Value.ref a := r1
  cases (show u2 = Value.ref tp from r2)
  obtain ⟨od, J⟩ := caught_at hz hf I e0
  obtain ⟨_, its, rv, o, h1, h2, n, h3⟩ := (show ObjOk X.prog X.w H s.heap tp (.tup cs) from I.hok tp _ hT)
  have e3 := ClsV.all k rv
  subst e3
  obtain ⟨oc, ow, dt, sl⟩ := o
  simp only at h2 h3
  subst h2 h3
  exact PySem.W.kia_tup (PySem.W.kitx_exc (excC_cls T) T.hg T.hk T.hs T.ha T.hn T.ht T.hm) I.kIn J h1 e (fun z => nomatch z) fun tk => ⟨.bl b, H, I.kept (t' := tk) fun _ _ z => z, rfl, q⟩
end
section
variable {X : Cx} {CX : CXT} {k : Nat} {ps : List Str} {sp : Sp} {E : L2.St → XK} {x : Str} {p pos : Pos} {e : Expr} {es : List Expr} {t : TA}
/-- a call within a try -/
theorem Gt.peS (G : Gt X.prog X.w X.K X.mg X.base CX k x ps sp) (hr : Room k X.A) (hx : ∀ σ, PassesAt CX X σ (E σ)) (ha : PA X (e :: es) t) (hg : Gl X x := by rfl) (hdb : (x == ("__debug__" : Str)) = false := by decide)
    (he : starEach (e :: es) X.env = (false, eval e X.env) :: starEach es X.env := by rfl) (hpl : (backTo pos (starEach es X.env)).any (·.1) = false := by rfl) : PE X (.Call (.Name x p) (e :: es) [] pos) (tCallS sp E t) := by
  obtain ⟨f, fd, hm, hk, hb, F⟩ := G.ex
  exact pe_callS F hr hg hm hk hb hx ha hdb he hpl
end
end TP

namespace TP
open PySem PySem.Spec PyProof.Rows L2
/-! ### try with a first clause that names the error, and further ones: all that is raised is of the first -/
def wAs1 (K : PySem.W.Frag) (c : Value) (i : Nat) (ts : Addr → Value → Option Addr → TS) (D : Ends) : WX := fun cls d σ H =>
  PySem.W.exmOne K cls c = some true ∧ ∀ a, H a = none → ts a cls d ⟨fun σ' H' => D.nx (σ'.set i none) H', D.rt, fun σ' H' => D.bk (σ'.set i none) H', fun σ' H' => D.ct (σ'.set i none) H'⟩ (σ.set i (some (.ref a))) H
section
variable {X : Cx} {x n : Str} {c : Value} {i : Nat} {body suite : List Stmt} {b0 : Stmt} {hds : List ExceptHandler} {np pos pos' : Pos} {tb : WX → TS} {ts : Addr → Value → Option Addr → TS}
theorem sky_free {B h : Heap} {a : Addr} {o : Obj} {vs : Array Value} {es : List Env} (ff : h.FunFrames B es) (e : h.get? a = some o) (dd : o.data = .fields vs) : a ∉ frs es := fun hm => by
  obtain ⟨_, o2, e2, no⟩ := ff.mem hm
  rw [e] at e2
  cases e2
  exact no _ dd
theorem ps_try_as1 (hs : X.stack = X.env :: X.outer) (hf : X.env.frame = some X.env.locals) (hN : X.N.Nodup) (hi : X.N[i]? = some n) (hln : X.env.kindOf n = some .local) (hc : Names X x c)
    (hb : ∀ (W : WX) (pn : List (Addr × Obj)) (xe : Value → Shared → Prop), Takes (X.tr pn xe) W → PassesOwn (model X.prog X.w) X.A X.env xe → PSs (X.tr pn xe) body (tb W))
    (hsu : ∀ (a : Addr) (oe : Obj) (cls : Value) (d : Option Addr) (pn : List (Addr × Obj)), Zc cls d oe → (∃ vs, oe.data = .fields vs) → PSs (X.suite a ((a, oe) :: pn)) (b0 :: suite) (ts a cls d)) :
    PS X (.Try body (.ExceptHandler (some (.Name x np)) (some n) (b0 :: suite) pos' :: hds) [] [] pos) (fun D σ H => tb (wAs1 X.K c i ts D) D σ H) := by
  constructor
  intro pins s σ H D I h
  have ok := I.ok
  have fr : X.A.frames = some (X.env :: X.outer) := ok.frames.trans (by rw [hs])
  refine wpAny_Try_except ?_
  refine wpAny_mono ((hb (wAs1 X.K c i ts D) (X.pn ++ pins) (fun e s1 => wpAny (model X.prog X.w) X.A (noteFrame e X.env) (fun _ s2 => wpAny (model X.prog X.w) X.A (setFlight e none) (fun _ s3 =>
    wpAny (model X.prog X.w) X.A (handleBy e X.env (.ExceptHandler (some (.Name x np)) (some n) (b0 :: suite) pos' :: hds)) (SP X pins D) X.xe s3) X.xe s2) X.xe s1) (fun u s' xx => ?_) PassesOwn.looking).run [] s σ H D (I.toTry _) h) (fun f s1 q => ?_) (fun _ _ z => z)
  · obtain ⟨a, B, sI, p', σ', H', cls, d, rfl, J0, nb, up, sky, na, os, ag, hm, go⟩ := xx
    have J := J0.ofTry ok
    rw [show (X.tr (X.pn ++ pins) _).stack = X.env :: X.outer from hs] at sky
    refine Sky.land Zc.steady fr hf sky fun g1 f1 u1 => ?_
    have J1 : Inv X pins σ' H' { s' with heap := g1 } := J.landed nb f1.1 (up.trans u1) os ag
    obtain ⟨o1, v1, e1, z1, d1⟩ := f1.there
    have nfr := sky_free f1.2.2.1 e1 d1
    have nL : a ≠ X.env.locals := fun z => nfr (List.mem_filterMap.mpr ⟨X.env, List.mem_cons_self, by rw [hf, z]⟩)
    have nF : a ∉ X.fs := fun q => by
      obtain ⟨e, q1, q2⟩ := List.mem_filterMap.mp q
      exact nfr (List.mem_filterMap.mpr ⟨e, List.mem_cons_of_mem _ q1, q2⟩)
    have S1 := J1.suite e1 d1 na nL nF
    refine wpAny_handleBy_cons (codeAny_handlers_test ?_) (fun q => nomatch q)
    have lt : PySem.W.Looks (model X.prog X.w) g1 (typeOf (.ref a)) cls := fun _ _ _ _ k q => wpAny_typeOf_ref (k _ _ e1) (by rw [z1.1]; exact q)
    have named : ∀ {Q : Value → Shared → Prop} {E : Value → Shared → Prop}, Q c { s' with heap := g1 } → wpAny (model X.prog X.w) (X.A.mark (some (.ref a))) (eval (.Name x np) X.env) Q E { s' with heap := g1 } := by
      intro Q E q
      obtain ⟨k1, k2, k3 | ⟨k3, k4, k5⟩⟩ := hc
      · exact ld_glob (X := X.suite a ((a, o1) :: (X.pn ++ pins))) S1 k1 k3 q k2
      · exact ld_blt (X := X.suite a ((a, o1) :: (X.pn ++ pins))) S1 k1 k3 k4 q k5 k2
    refine named ((PySem.W.exm_one (M := model X.prog X.w) J1.kIn lt hm).here ?_)
    refine codeAny_handlers_suite_as (HandSPX.lands_againZ f1 fun g2 f2 u2 => ?_)
    have J2 : Inv X pins σ' H' { s' with heap := g2 } := J.landed nb f2.1 ((up.trans u1).trans u2) os ag
    obtain ⟨o2, v2, e2, z2, d2⟩ := f2.there
    refine store_ok (X := X.suite a ((a, o2) :: (X.pn ++ pins))) (v := .ref a) (J2.suite e2 d2 na nL nF) hN hi (.inl hln) rfl (fun s5 S5 => ?_) (.inr hln)
    refine wpAny_mono ((hsu a o2 cls d (X.pn ++ pins) z2 ⟨_, d2⟩).run [] s5 _ H' _ S5 (go a na)) (fun f s6 q => ?_) (fun _ _ z => z.elim)
    cases f with
    | next =>
      obtain ⟨σ6, H6, S6, q6⟩ := q
      exact gone_ok (S6.unsuite ok) hN hi hln fun s7 J7 => ⟨_, _, J7, q6⟩
    | brk =>
      obtain ⟨σ6, H6, S6, q6⟩ := q
      exact gone_ok (S6.unsuite ok) hN hi hln fun s7 J7 => ⟨_, _, J7, q6⟩
    | cont =>
      obtain ⟨σ6, H6, S6, q6⟩ := q
      exact gone_ok (S6.unsuite ok) hN hi hln fun s7 J7 => ⟨_, _, J7, q6⟩
    | ret u =>
      obtain ⟨v6, σ6, H6, S6, r6, q6⟩ := q
      exact gone_ok (S6.unsuite ok) hN hi hln fun s7 J7 => ⟨_, _, _, J7, r6, q6⟩
  · cases f with
    | next =>
      obtain ⟨σ1, H1, J1, q⟩ := q
      exact wpAny_execs_nil ⟨σ1, H1, J1.ofTry ok, q⟩
    | brk =>
      obtain ⟨σ1, H1, J1, q⟩ := q
      exact ⟨σ1, H1, J1.ofTry ok, q⟩
    | cont =>
      obtain ⟨σ1, H1, J1, q⟩ := q
      exact ⟨σ1, H1, J1.ofTry ok, q⟩
    | ret u =>
      obtain ⟨v, σ1, H1, J1, r, q⟩ := q
      exact ⟨v, σ1, H1, J1.ofTry ok, r, q⟩
end
/-! ### a def that may raise, where it does not -/
theorem cr_no {P : Program} {w : World} {outer : List Env} {H : Hp} {s : Shared} {Q : VK} {r : Result} {s' : Shared} (h : CR (L2.CX P w) outer P w H s Q (fun _ _ _ => False) r s') (E : XK) : CR CX0 outer P w H s Q E r s' := by
  cases r with
  | error e =>
    obtain ⟨_, _, _, _, _, _, _, _, _, _, _, _, z⟩ := h
    exact z.elim
  | ok f => cases f <;> exact h
theorem fn_no {P : Program} {w : World} {K : PySem.W.Frag} {mg : Str → Option Value} {base : Heap} {k : Nat} {f : Addr} {fd : FuncData} {ps : List Str} {sp : Sp} (F : FnOk P w K mg base (L2.CX P w) k f fd ps sp) : FnOk P w K mg base CX0 k f fd ps (fun vs H Q _ => sp vs H Q fun _ _ _ => False) :=
  ⟨fun vs H Q E h => F.len vs H Q _ h, fun A outer s H args us vs Q E hr h0 hb r h => codeAny_mono (F.run A outer s H args us vs Q _ hr h0 hb r h) fun r s' q => cr_no q E⟩
theorem GtF.no {P : Program} {w : World} {K : PySem.W.Frag} {mg : Str → Option Value} {base : Heap} {k : Nat} {d : He.DefD} {ps : List Str} {sp : Sp} (G : GtF P w K mg base (L2.CX P w) k d ps sp) : GtF P w K mg base CX0 k d ps (fun vs H Q _ => sp vs H Q fun _ _ _ => False) := by
  obtain ⟨fd, h1, h2⟩ := G.ex
  exact ⟨fd, h1, fn_no h2⟩
theorem Gt.no {P : Program} {w : World} {K : PySem.W.Frag} {mg : Str → Option Value} {base : Heap} {k : Nat} {x : Str} {ps : List Str} {sp : Sp} (G : Gt P w K mg base (L2.CX P w) k x ps sp) : Gt P w K mg base CX0 k x ps (fun vs H Q _ => sp vs H Q fun _ _ _ => False) := by
  obtain ⟨f, fd, h1, h2, h3, h4⟩ := G.ex
  exact ⟨f, fd, h1, h2, h3, fn_no h4⟩
/-! ### rules of any things -/
def badOf : List (Str × Int) → List PyData → Option Str
  | (z, l) :: ks, d :: ds => if isFromD d l = true then badOf ks ds else some z
  | _, _ => none
abbrev LSl : List (Str × Int) := [("since", 0), ("base", 0), ("step", 1), ("more", 0), ("leg", 0), ("kept", 0), ("back", 0)]
theorem bad_step {ks : List (Str × Int)} {ds : List PyData} {i : Nat} {z : Str} {l : Int} {d : PyData} (h1 : ks[i]? = some (z, l)) (h2 : ds[i]? = some d) :
    badOf (ks.drop i) (ds.drop i) = if isFromD d l = true then badOf (ks.drop (i + 1)) (ds.drop (i + 1)) else some z := by
  obtain ⟨i1, e1⟩ := List.getElem?_eq_some_iff.mp h1
  obtain ⟨i2, e2⟩ := List.getElem?_eq_some_iff.mp h2
  rw [List.drop_eq_getElem_cons i1, List.drop_eq_getElem_cons i2, e1, e2]
  rfl
theorem rule_key {i : Nat} {x : V} (hi : i < 7) (h1 : (LKs[i]?).map V.str = some x) : ∃ (z : Str) (l : Int), x = .str z ∧ LSl[i]? = some (z, l) ∧ (z, He.Dv.int l) ∈ LKv := by
  have h : ∀ i : Nat, i < 7 → ∃ q, LKs[i]? = some q ∧ ∃ l : Int, LSl[i]? = some (q, l) ∧ (q, He.Dv.int l) ∈ LKv := by
    intro i hi
    match i, hi with
    | 0, _ => exact ⟨_, rfl, _, rfl, by simp [LKv]⟩
    | 1, _ => exact ⟨_, rfl, _, rfl, by simp [LKv]⟩
    | 2, _ => exact ⟨_, rfl, _, rfl, by simp [LKv]⟩
    | 3, _ => exact ⟨_, rfl, _, rfl, by simp [LKv]⟩
    | 4, _ => exact ⟨_, rfl, _, rfl, by simp [LKv]⟩
    | 5, _ => exact ⟨_, rfl, _, rfl, by simp [LKv]⟩
    | 6, _ => exact ⟨_, rfl, _, rfl, by simp [LKv]⟩
  obtain ⟨q, e1, l, e2, e3⟩ := h i hi
  rw [e1] at h1
  exact ⟨q, l, (Option.some.inj h1).symm, e2, e3⟩
abbrev V7 := V × V × V × V × V × V × V
def rfs (u0 u1 u2 u3 u4 u5 u6 : V) : List (Str × V) := [("since", u0), ("base", u1), ("step", u2), ("more", u3), ("leg", u4), ("kept", u5), ("back", u6)]
/-- a rule is made of anything -/
def spRuleX (K : PySem.W.Frag) : Sp := fun vs H Q E => ∃ (x dx : Addr) (u0 u1 u2 u3 u4 u5 u6 : V) (ds : List PyData), vs = [.ref x, u0, u1, u2, u3, u4, u5, u6] ∧ DrAll K H [u0, u1, u2, u3, u4, u5, u6] ds ∧ H x = some (.ins (He.ga K "Rule") dx []) ∧
  (badOf LSl ds = none → ∀ H', Wk x H H' → H' x = some (.ins (He.ga K "Rule") dx (rfs u0 u1 u2 u3 u4 u5 u6)) → Q .non H') ∧
  (∀ z, badOf LSl ds = some z → ∀ d H', Evl.Ex H H' → H d = none → H' d = some (.xd [("at", .str z)]) → E (.ref (eC K "NoRule")) (some d) H')
/-- the heap behind a raise -/
theorem raised {H : Hp} {a C dx : Addr} {fs : List (Str × V)} (hn : H a = none) (hd : upd H a (exo a C none) dx = none) (ne : dx ≠ a) :
    Evl.Ex H (upd (del (upd (upd (upd H a (exo a C none)) dx (exd dx fs)) a (exo a C (some dx))) a) dx (.xd fs)) ∧ H dx = none := by
  rw [upd_ne ne] at hd
  refine ⟨fun b o hb => ?_, hd⟩
  have n1 := ne_of_none hb hn
  have n2 := ne_of_none hb hd
  rw [upd_ne n2, del_ne n1, upd_ne n1, upd_ne n2, upd_ne n1]
  exact hb
end TP

namespace Lw
open PySem PySem.Spec PyProof.Rows L2 TP
/-! ### the text by places (written by gen.py) -/
def top (i : Nat) : Stmt := PySem.Challenge.pw_trailpost_k03_rules_made_and_refused.main.body.getD i (.Pass ⟨0, 0, 0, 0⟩)
abbrev s_wall : Stmt := (top 0)
abbrev s_NoLand_init : Stmt := (inClass (top 3) 0)
abbrev s_NoRule_init : Stmt := (inClass (top 4) 0)
abbrev s_NoScan_init : Stmt := (inClass (top 5) 0)
abbrev s_is_whole : Stmt := (top 7)
abbrev s_is_from : Stmt := (top 8)
abbrev s_Rule_init : Stmt := (inClass (top 11) 0)
abbrev s_Rule_fee : Stmt := (inClass (top 11) 1)
abbrev s_well : Stmt := (top 13)
abbrev s_draw : Stmt := (top 14)
abbrev s_one : Stmt := (top 15)
abbrev s_num60 : Stmt := (top 16)
abbrev s_law_odd : Stmt := (top 17)
abbrev s_law_made : Stmt := (top 18)
abbrev s_law_left : Stmt := (top 19)
abbrev s_law_amiss : Stmt := (top 20)
abbrev s_law_told : Stmt := (top 21)
abbrev s_law : Stmt := (top 22)
/-! ### what each def is -/
def d_wall : He.DefD := ⟨("_wall", none), "_wall", "_wall", defArgs s_wall, defBody s_wall, defScope s_wall, [], []⟩
def d_NoLand_init : He.DefD := ⟨("NoLand", some "__init__"), "__init__", "NoLand.__init__", defArgs s_NoLand_init, defBody s_NoLand_init, defScope s_NoLand_init, [], []⟩
def d_NoRule_init : He.DefD := ⟨("NoRule", some "__init__"), "__init__", "NoRule.__init__", defArgs s_NoRule_init, defBody s_NoRule_init, defScope s_NoRule_init, [], []⟩
def d_NoScan_init : He.DefD := ⟨("NoScan", some "__init__"), "__init__", "NoScan.__init__", defArgs s_NoScan_init, defBody s_NoScan_init, defScope s_NoScan_init, [], []⟩
def d_is_whole : He.DefD := ⟨("is_whole", none), "is_whole", "is_whole", defArgs s_is_whole, defBody s_is_whole, defScope s_is_whole, [], []⟩
def d_is_from : He.DefD := ⟨("is_from", none), "is_from", "is_from", defArgs s_is_from, defBody s_is_from, defScope s_is_from, [], []⟩
def d_Rule_init : He.DefD := ⟨("Rule", some "__init__"), "__init__", "Rule.__init__", defArgs s_Rule_init, defBody s_Rule_init, defScope s_Rule_init, [], [("since", .int 0), ("base", .int 0), ("step", .int 1), ("more", .int 0), ("leg", .int 0), ("kept", .int 0), ("back", .int 0)]⟩
def d_Rule_fee : He.DefD := ⟨("Rule", some "fee"), "fee", "Rule.fee", defArgs s_Rule_fee, defBody s_Rule_fee, defScope s_Rule_fee, [], [("weight", .int 1), ("legs", .int 0), ("kept", .bl false)]⟩
def d_well : He.DefD := ⟨("_law_well", none), "_law_well", "_law_well", defArgs s_well, defBody s_well, defScope s_well, [], []⟩
def d_draw : He.DefD := ⟨("_law_draw", none), "_law_draw", "_law_draw", defArgs s_draw, defBody s_draw, defScope s_draw, [], []⟩
def d_one : He.DefD := ⟨("_law_one", none), "_law_one", "_law_one", defArgs s_one, defBody s_one, defScope s_one, [], []⟩
def d_num60 : He.DefD := ⟨("_law_number", none), "_law_number", "_law_number", defArgs s_num60, defBody s_num60, defScope s_num60, [], []⟩
def d_law_odd : He.DefD := ⟨("_law_odd", none), "_law_odd", "_law_odd", defArgs s_law_odd, defBody s_law_odd, defScope s_law_odd, [], []⟩
def d_law_made : He.DefD := ⟨("_law_made", none), "_law_made", "_law_made", defArgs s_law_made, defBody s_law_made, defScope s_law_made, [], []⟩
def d_law_left : He.DefD := ⟨("_law_left", none), "_law_left", "_law_left", defArgs s_law_left, defBody s_law_left, defScope s_law_left, [], []⟩
def d_law_amiss : He.DefD := ⟨("_law_amiss", none), "_law_amiss", "_law_amiss", defArgs s_law_amiss, defBody s_law_amiss, defScope s_law_amiss, [], []⟩
def d_law_told : He.DefD := ⟨("_law_told", none), "_law_told", "_law_told", defArgs s_law_told, defBody s_law_told, defScope s_law_told, [], []⟩
def d_law : He.DefD := ⟨("law", none), "law", "law", defArgs s_law, defBody s_law, defScope s_law, [], []⟩
def fn : List He.DefD := [d_wall, d_NoLand_init, d_NoRule_init, d_NoScan_init, d_is_whole, d_is_from, d_Rule_init, d_Rule_fee, d_well, d_draw, d_one, d_num60, d_law_odd, d_law_made, d_law_left, d_law_amiss, d_law_told, d_law]
def fa : List He.Fa := [.glo "_wall", .glo "is_whole", .glo "is_from", .glo "_law_well", .glo "_law_draw", .glo "_law_one", .glo "_law_number", .glo "_law_odd", .glo "_law_made", .glo "_law_left", .glo "_law_amiss", .glo "_law_told", .glo "law", .free "ValueError", .free "bool", .free "dict", .free "int", .free "isinstance", .free "len", .free "range", .free "repr", .free "tuple", .free "zip", .glo "LEASTS", .glo "PostError", .glo "NoLand", .glo "NoRule", .glo "NoScan", .glo "Rule", .cls "Rule", .mkr "Rule", .meth "Rule" "fee", .noat "Rule" "since", .noat "Rule" "base", .noat "Rule" "step", .noat "Rule" "more", .noat "Rule" "leg", .noat "Rule" "kept", .noat "Rule" "back"]
def EN : List Str := ["NoLand", "NoRule", "NoScan"]
def EB : List Str := ["NoLand", "NoRule", "NoScan", "PostError"]
def exs : List (PySem.W.Frag → Bool) := [sysB, fun K => He.valsB K (He.ga K "LEASTS") [("since", .int 0), ("base", .int 0), ("step", .int 1), ("more", .int 0), ("leg", .int 0), ("kept", .int 0), ("back", .int 0)], fun K => baseB K "PostError", fun K => oexB K "NoLand", fun K => einB K "NoLand", fun K => excCB K "NoLand", fun K => He.eqO (PySem.W.findIn K (.ref (He.ga K "NoLand")) "why") (some none), fun K => oexB K "NoRule", fun K => einB K "NoRule", fun K => excCB K "NoRule", fun K => He.eqO (PySem.W.findIn K (.ref (He.ga K "NoRule")) "at") (some none), fun K => oexB K "NoScan", fun K => einB K "NoScan", fun K => excCB K "NoScan", fun K => He.eqO (PySem.W.findIn K (.ref (He.ga K "NoScan")) "why") (some none), fun K => kitB2 K EN EB ktT, fun K => EN.all fun x => decide (PySem.W.kitOne K (.ref (He.ga K x)) (.type "ValueError") = some true), fun K => exmB2 K EN EB ktT]
def ex (K : PySem.W.Frag) : Bool := exs.all fun f => f K
def ts : List He.Tab := [(fun K => He.ga K "LEASTS", ["since", "base", "step", "more", "leg", "kept", "back"])]
abbrev TX (w : World) (K : PySem.W.Frag) (mg : Str → Option Value) : Prop := Tx fa fn ts ex w K mg
section
variable {w : World} {K : PySem.W.Frag} {mg : Str → Option Value} (T : TX w K mg)
include T
theorem g_wall : mg "_wall" = some (.ref (He.ga K "_wall")) := Tx.glo T 0
theorem g_is_whole : mg "is_whole" = some (.ref (He.ga K "is_whole")) := Tx.glo T 1
theorem g_is_from : mg "is_from" = some (.ref (He.ga K "is_from")) := Tx.glo T 2
theorem g_well : mg "_law_well" = some (.ref (He.ga K "_law_well")) := Tx.glo T 3
theorem g_draw : mg "_law_draw" = some (.ref (He.ga K "_law_draw")) := Tx.glo T 4
theorem g_one : mg "_law_one" = some (.ref (He.ga K "_law_one")) := Tx.glo T 5
theorem g_num60 : mg "_law_number" = some (.ref (He.ga K "_law_number")) := Tx.glo T 6
theorem g_law_odd : mg "_law_odd" = some (.ref (He.ga K "_law_odd")) := Tx.glo T 7
theorem g_law_made : mg "_law_made" = some (.ref (He.ga K "_law_made")) := Tx.glo T 8
theorem g_law_left : mg "_law_left" = some (.ref (He.ga K "_law_left")) := Tx.glo T 9
theorem g_law_amiss : mg "_law_amiss" = some (.ref (He.ga K "_law_amiss")) := Tx.glo T 10
theorem g_law_told : mg "_law_told" = some (.ref (He.ga K "_law_told")) := Tx.glo T 11
theorem g_law : mg "law" = some (.ref (He.ga K "law")) := Tx.glo T 12
theorem f_ValueError : mg "ValueError" = none := Tx.free T 13
theorem f_bool : mg "bool" = none := Tx.free T 14
theorem f_dict : mg "dict" = none := Tx.free T 15
theorem f_int : mg "int" = none := Tx.free T 16
theorem f_isinstance : mg "isinstance" = none := Tx.free T 17
theorem f_len : mg "len" = none := Tx.free T 18
theorem f_range : mg "range" = none := Tx.free T 19
theorem f_repr : mg "repr" = none := Tx.free T 20
theorem f_tuple : mg "tuple" = none := Tx.free T 21
theorem f_zip : mg "zip" = none := Tx.free T 22
theorem g_LEASTS : mg "LEASTS" = some (.ref (He.ga K "LEASTS")) := Tx.glo T 23
theorem g_PostError : mg "PostError" = some (.ref (He.ga K "PostError")) := Tx.glo T 24
theorem g_NoLand : mg "NoLand" = some (.ref (He.ga K "NoLand")) := Tx.glo T 25
theorem g_NoRule : mg "NoRule" = some (.ref (He.ga K "NoRule")) := Tx.glo T 26
theorem g_NoScan : mg "NoScan" = some (.ref (He.ga K "NoScan")) := Tx.glo T 27
theorem g_Rule : mg "Rule" = some (.ref (He.ga K "Rule")) := Tx.glo T 28
theorem cl_Rule : Cls K (He.ga K "Rule") := He.cls_ok (T.c.fact 29 rfl)
theorem mk_Rule : Mk K (He.ga K "Rule") (He.fAd K ("Rule", some "__init__")) := He.mkr_ok (T.c.fact 30 rfl)
theorem m_Rule_fee : Meth K (He.ga K "Rule") "fee" (He.fAd K ("Rule", some "fee")) := He.meth_ok (T.c.fact 31 rfl)
theorem na_Rule_since : NoAttr K (He.ga K "Rule") "since" := He.noat_ok (T.c.fact 32 rfl)
theorem na_Rule_base : NoAttr K (He.ga K "Rule") "base" := He.noat_ok (T.c.fact 33 rfl)
theorem na_Rule_step : NoAttr K (He.ga K "Rule") "step" := He.noat_ok (T.c.fact 34 rfl)
theorem na_Rule_more : NoAttr K (He.ga K "Rule") "more" := He.noat_ok (T.c.fact 35 rfl)
theorem na_Rule_leg : NoAttr K (He.ga K "Rule") "leg" := He.noat_ok (T.c.fact 36 rfl)
theorem na_Rule_kept : NoAttr K (He.ga K "Rule") "kept" := He.noat_ok (T.c.fact 37 rfl)
theorem na_Rule_back : NoAttr K (He.ga K "Rule") "back" := He.noat_ok (T.c.fact 38 rfl)
theorem D_wall : ∃ fd, FunD K d_wall.name d_wall.qual d_wall.params d_wall.body d_wall.scope (d_wall.dvs K) (d_wall.kws K) (He.fAd K d_wall.at_) fd := T.c.def_ 0 (d := d_wall)
theorem D_NoLand_init : ∃ fd, FunD K d_NoLand_init.name d_NoLand_init.qual d_NoLand_init.params d_NoLand_init.body d_NoLand_init.scope (d_NoLand_init.dvs K) (d_NoLand_init.kws K) (He.fAd K d_NoLand_init.at_) fd := T.c.def_ 1 (d := d_NoLand_init)
theorem D_NoRule_init : ∃ fd, FunD K d_NoRule_init.name d_NoRule_init.qual d_NoRule_init.params d_NoRule_init.body d_NoRule_init.scope (d_NoRule_init.dvs K) (d_NoRule_init.kws K) (He.fAd K d_NoRule_init.at_) fd := T.c.def_ 2 (d := d_NoRule_init)
theorem D_NoScan_init : ∃ fd, FunD K d_NoScan_init.name d_NoScan_init.qual d_NoScan_init.params d_NoScan_init.body d_NoScan_init.scope (d_NoScan_init.dvs K) (d_NoScan_init.kws K) (He.fAd K d_NoScan_init.at_) fd := T.c.def_ 3 (d := d_NoScan_init)
theorem D_is_whole : ∃ fd, FunD K d_is_whole.name d_is_whole.qual d_is_whole.params d_is_whole.body d_is_whole.scope (d_is_whole.dvs K) (d_is_whole.kws K) (He.fAd K d_is_whole.at_) fd := T.c.def_ 4 (d := d_is_whole)
theorem D_is_from : ∃ fd, FunD K d_is_from.name d_is_from.qual d_is_from.params d_is_from.body d_is_from.scope (d_is_from.dvs K) (d_is_from.kws K) (He.fAd K d_is_from.at_) fd := T.c.def_ 5 (d := d_is_from)
theorem D_Rule_init : ∃ fd, FunD K d_Rule_init.name d_Rule_init.qual d_Rule_init.params d_Rule_init.body d_Rule_init.scope (d_Rule_init.dvs K) (d_Rule_init.kws K) (He.fAd K d_Rule_init.at_) fd := T.c.def_ 6 (d := d_Rule_init)
theorem D_Rule_fee : ∃ fd, FunD K d_Rule_fee.name d_Rule_fee.qual d_Rule_fee.params d_Rule_fee.body d_Rule_fee.scope (d_Rule_fee.dvs K) (d_Rule_fee.kws K) (He.fAd K d_Rule_fee.at_) fd := T.c.def_ 7 (d := d_Rule_fee)
theorem D_well : ∃ fd, FunD K d_well.name d_well.qual d_well.params d_well.body d_well.scope (d_well.dvs K) (d_well.kws K) (He.fAd K d_well.at_) fd := T.c.def_ 8 (d := d_well)
theorem D_draw : ∃ fd, FunD K d_draw.name d_draw.qual d_draw.params d_draw.body d_draw.scope (d_draw.dvs K) (d_draw.kws K) (He.fAd K d_draw.at_) fd := T.c.def_ 9 (d := d_draw)
theorem D_one : ∃ fd, FunD K d_one.name d_one.qual d_one.params d_one.body d_one.scope (d_one.dvs K) (d_one.kws K) (He.fAd K d_one.at_) fd := T.c.def_ 10 (d := d_one)
theorem D_num60 : ∃ fd, FunD K d_num60.name d_num60.qual d_num60.params d_num60.body d_num60.scope (d_num60.dvs K) (d_num60.kws K) (He.fAd K d_num60.at_) fd := T.c.def_ 11 (d := d_num60)
theorem D_law_odd : ∃ fd, FunD K d_law_odd.name d_law_odd.qual d_law_odd.params d_law_odd.body d_law_odd.scope (d_law_odd.dvs K) (d_law_odd.kws K) (He.fAd K d_law_odd.at_) fd := T.c.def_ 12 (d := d_law_odd)
theorem D_law_made : ∃ fd, FunD K d_law_made.name d_law_made.qual d_law_made.params d_law_made.body d_law_made.scope (d_law_made.dvs K) (d_law_made.kws K) (He.fAd K d_law_made.at_) fd := T.c.def_ 13 (d := d_law_made)
theorem D_law_left : ∃ fd, FunD K d_law_left.name d_law_left.qual d_law_left.params d_law_left.body d_law_left.scope (d_law_left.dvs K) (d_law_left.kws K) (He.fAd K d_law_left.at_) fd := T.c.def_ 14 (d := d_law_left)
theorem D_law_amiss : ∃ fd, FunD K d_law_amiss.name d_law_amiss.qual d_law_amiss.params d_law_amiss.body d_law_amiss.scope (d_law_amiss.dvs K) (d_law_amiss.kws K) (He.fAd K d_law_amiss.at_) fd := T.c.def_ 15 (d := d_law_amiss)
theorem D_law_told : ∃ fd, FunD K d_law_told.name d_law_told.qual d_law_told.params d_law_told.body d_law_told.scope (d_law_told.dvs K) (d_law_told.kws K) (He.fAd K d_law_told.at_) fd := T.c.def_ 16 (d := d_law_told)
theorem D_law : ∃ fd, FunD K d_law.name d_law.qual d_law.params d_law.body d_law.scope (d_law.dvs K) (d_law.kws K) (He.fAd K d_law.at_) fd := T.c.def_ 17 (d := d_law)
theorem t_LEASTS : ∃ es n, KDict K w (He.ga K "LEASTS") es n ∧ es.toList.map He.keyOf = He.keysIn w.params ["since", "base", "step", "more", "leg", "kept", "back"] := T.tab 0
theorem sysK : SysK K := sysB_ok (exs_at (exs := exs) T.ex 0)
theorem v_LEASTS : He.valsB K (He.ga K "LEASTS") [("since", .int 0), ("base", .int 0), ("step", .int 1), ("more", .int 0), ("leg", .int 0), ("kept", .int 0), ("back", .int 0)] = true := exs_at (exs := exs) T.ex 1
theorem bc_PostError : BaseC K (He.ga K "PostError") := baseB_ok (exs_at (exs := exs) T.ex 2)
theorem ox_NoLand : OexC K (He.ga K "NoLand") := oexB_ok (exs_at (exs := exs) T.ex 3)
theorem ei_NoLand : PySem.W.findIn K (.ref (He.ga K "NoLand")) "__init__" = some (some (.ref (He.fAd K ("NoLand", some "__init__")))) ∧ PySem.W.typeIn K (.ref (He.fAd K ("NoLand", some "__init__"))) = some (.type "function") := einB_ok (exs_at (exs := exs) T.ex 4)
theorem xc_NoLand : ExcC K (He.ga K "NoLand") := excCB_ok (exs_at (exs := exs) T.ex 5)
theorem nf_NoLand_why : PySem.W.findIn K (.ref (He.ga K "NoLand")) "why" = some none := He.eqO_ok (exs_at (exs := exs) T.ex 6)
theorem ox_NoRule : OexC K (He.ga K "NoRule") := oexB_ok (exs_at (exs := exs) T.ex 7)
theorem ei_NoRule : PySem.W.findIn K (.ref (He.ga K "NoRule")) "__init__" = some (some (.ref (He.fAd K ("NoRule", some "__init__")))) ∧ PySem.W.typeIn K (.ref (He.fAd K ("NoRule", some "__init__"))) = some (.type "function") := einB_ok (exs_at (exs := exs) T.ex 8)
theorem xc_NoRule : ExcC K (He.ga K "NoRule") := excCB_ok (exs_at (exs := exs) T.ex 9)
theorem nf_NoRule_at : PySem.W.findIn K (.ref (He.ga K "NoRule")) "at" = some none := He.eqO_ok (exs_at (exs := exs) T.ex 10)
theorem ox_NoScan : OexC K (He.ga K "NoScan") := oexB_ok (exs_at (exs := exs) T.ex 11)
theorem ei_NoScan : PySem.W.findIn K (.ref (He.ga K "NoScan")) "__init__" = some (some (.ref (He.fAd K ("NoScan", some "__init__")))) ∧ PySem.W.typeIn K (.ref (He.fAd K ("NoScan", some "__init__"))) = some (.type "function") := einB_ok (exs_at (exs := exs) T.ex 12)
theorem xc_NoScan : ExcC K (He.ga K "NoScan") := excCB_ok (exs_at (exs := exs) T.ex 13)
theorem nf_NoScan_why : PySem.W.findIn K (.ref (He.ga K "NoScan")) "why" = some none := He.eqO_ok (exs_at (exs := exs) T.ex 14)
theorem kt : kitB2 K EN EB ktT = true := exs_at (exs := exs) T.ex 15
theorem kv : (EN.all fun x => decide (PySem.W.kitOne K (.ref (He.ga K x)) (.type "ValueError") = some true)) = true := exs_at (exs := exs) T.ex 16
theorem xt : exmB2 K EN EB ktT = true := exs_at (exs := exs) T.ex 17
end
/-! ### keywords of calls -/
theorem kb_Rule_init_1_kept_since_back_step_base_leg_more : Kb d_Rule_init ["self", "since", "base", "step", "more", "leg", "kept", "back"] 1 ["kept", "since", "back", "step", "base", "leg", "more"] [] [1, 4, 3, 6, 5, 0, 2] := ⟨rfl, (by decide), fun K D _ _ _ _ _ us mv ws h1 h2 h3 => match us, mv, ws, h1, h2, h3 with | [_], [], [_, _, _, _, _, _, _], _, _, _ => rfl⟩
theorem kb_Rule_init_1 : Kb0 d_Rule_init ["self", "since", "base", "step", "more", "leg", "kept", "back"] 1 := ⟨rfl, (by decide), rfl, fun K D _ _ _ _ _ us ks h1 h2 => match us, ks, h1, h2 with | [_], [_, _, _, _, _, _, _], _, _ => ⟨_, _, _, _, _, _, rfl, rfl, ⟨_, _, _, _, _, _, rfl, rfl, ⟨_, _, _, _, _, _, rfl, rfl, ⟨_, _, _, _, _, _, rfl, rfl, ⟨_, _, _, _, _, _, rfl, rfl, ⟨_, _, _, _, _, _, rfl, rfl, ⟨_, _, _, _, _, _, rfl, rfl, rfl⟩⟩⟩⟩⟩⟩⟩⟩
theorem kb_Rule_init_1_leg_kept_base_step_more : Kb d_Rule_init ["self", "since", "base", "step", "more", "leg", "kept", "back"] 1 ["leg", "kept", "base", "step", "more"] [0, 6] [0, 4, 5, 6, 2, 3, 1] := ⟨rfl, (by decide), fun K D _ _ _ _ _ us mv ws h1 h2 h3 => match us, mv, ws, h1, h2, h3 with | [_], [_, _], [_, _, _, _, _], _, _, _ => ⟨_, _, _, _, _, _, rfl, rfl, ⟨_, _, _, _, _, _, rfl, rfl, rfl⟩⟩⟩
theorem kb_Rule_init_1_back_kept_leg_more_base : Kb d_Rule_init ["self", "since", "base", "step", "more", "leg", "kept", "back"] 1 ["back", "kept", "leg", "more", "base"] [0, 2] [0, 6, 1, 5, 4, 3, 2] := ⟨rfl, (by decide), fun K D _ _ _ _ _ us mv ws h1 h2 h3 => match us, mv, ws, h1, h2, h3 with | [_], [_, _], [_, _, _, _, _], _, _, _ => ⟨_, _, _, _, _, _, rfl, rfl, ⟨_, _, _, _, _, _, rfl, rfl, rfl⟩⟩⟩
theorem kb_Rule_init_1_step_since : Kb d_Rule_init ["self", "since", "base", "step", "more", "leg", "kept", "back"] 1 ["step", "since"] [1, 3, 4, 5, 6] [6, 0, 5, 1, 2, 3, 4] := ⟨rfl, (by decide), fun K D _ _ _ _ _ us mv ws h1 h2 h3 => match us, mv, ws, h1, h2, h3 with | [_], [_, _, _, _, _], [_, _], _, _, _ => ⟨_, _, _, _, _, _, rfl, rfl, ⟨_, _, _, _, _, _, rfl, rfl, ⟨_, _, _, _, _, _, rfl, rfl, ⟨_, _, _, _, _, _, rfl, rfl, ⟨_, _, _, _, _, _, rfl, rfl, rfl⟩⟩⟩⟩⟩⟩
/-! ### the names of each def by slots -/
theorem sc_wall : FnScope ["k"] ["k"] (defScope s_wall) := ⟨rfl, rfl, rfl, by decide +kernel, rfl, by decide +kernel, by decide +kernel⟩
theorem sc_NoLand_init : FnScope ["self", "why"] ["self", "why"] (defScope s_NoLand_init) := ⟨rfl, rfl, rfl, by decide +kernel, rfl, by decide +kernel, by decide +kernel⟩
theorem sc_NoRule_init : FnScope ["self", "at"] ["self", "at"] (defScope s_NoRule_init) := ⟨rfl, rfl, rfl, by decide +kernel, rfl, by decide +kernel, by decide +kernel⟩
theorem sc_NoScan_init : FnScope ["self", "why"] ["self", "why"] (defScope s_NoScan_init) := ⟨rfl, rfl, rfl, by decide +kernel, rfl, by decide +kernel, by decide +kernel⟩
theorem sc_is_whole : FnScope ["thing"] ["thing"] (defScope s_is_whole) := ⟨rfl, rfl, rfl, by decide +kernel, rfl, by decide +kernel, by decide +kernel⟩
theorem sc_is_from : FnScope ["thing", "least"] ["thing", "least"] (defScope s_is_from) := ⟨rfl, rfl, rfl, by decide +kernel, rfl, by decide +kernel, by decide +kernel⟩
theorem sc_Rule_init : FnScope ["self", "since", "base", "step", "more", "leg", "kept", "back", "numbers", "name", "number"] ["self", "since", "base", "step", "more", "leg", "kept", "back"] (defScope s_Rule_init) := ⟨rfl, rfl, rfl, by decide +kernel, rfl, by decide +kernel, by decide +kernel⟩
theorem sc_Rule_fee : FnScope ["self", "weight", "legs", "kept"] ["self", "weight", "legs", "kept"] (defScope s_Rule_fee) := ⟨rfl, rfl, rfl, by decide +kernel, rfl, by decide +kernel, by decide +kernel⟩
theorem sc_well : FnScope ["_law_cell"] ["_law_cell"] (defScope s_well) := ⟨rfl, rfl, rfl, by decide +kernel, rfl, by decide +kernel, by decide +kernel⟩
theorem sc_draw : FnScope ["_law_well_here", "_law_many", "_law_digit", "_law_prime", "_law_number_here"] ["_law_well_here", "_law_many"] (defScope s_draw) := ⟨rfl, rfl, rfl, by decide +kernel, rfl, by decide +kernel, by decide +kernel⟩
theorem sc_one : FnScope ["_law_well_here", "_law_some"] ["_law_well_here", "_law_some"] (defScope s_one) := ⟨rfl, rfl, rfl, by decide +kernel, rfl, by decide +kernel, by decide +kernel⟩
theorem sc_num60 : FnScope ["_law_well_here", "_law_least"] ["_law_well_here", "_law_least"] (defScope s_num60) := ⟨rfl, rfl, rfl, by decide +kernel, rfl, by decide +kernel, by decide +kernel⟩
theorem sc_law_odd : FnScope ["_law_well_here", "_law_least"] ["_law_well_here", "_law_least"] (defScope s_law_odd) := ⟨rfl, rfl, rfl, by decide +kernel, rfl, by decide +kernel, by decide +kernel⟩
theorem sc_law_made : FnScope ["_law_told_here"] ["_law_told_here"] (defScope s_law_made) := ⟨rfl, rfl, rfl, by decide +kernel, rfl, by decide +kernel, by decide +kernel⟩
theorem sc_law_left : FnScope ["_law_told_here", "_law_names", "_law_name"] ["_law_told_here"] (defScope s_law_left) := ⟨rfl, rfl, rfl, by decide +kernel, rfl, by decide +kernel, by decide +kernel⟩
theorem sc_law_amiss : FnScope ["_law_left_here", "_law_name", "_law_number_here"] ["_law_left_here"] (defScope s_law_amiss) := ⟨rfl, rfl, rfl, by decide +kernel, rfl, by decide +kernel, by decide +kernel⟩
theorem sc_law_told : FnScope ["_law_told_here", "_law_rule", "e"] ["_law_told_here"] (defScope s_law_told) := ⟨rfl, rfl, rfl, by decide +kernel, rfl, by decide +kernel, by decide +kernel⟩
theorem sc_law : FnScope ["_law_script", "_law_cell", "_law_well_here", "_law_names", "_law_told_here", "_law_name", "_law_k", "_law_left_here", "_law_due", "_law_rule", "_law_found"] ["_law_script"] (defScope s_law) := ⟨rfl, rfl, rfl, by decide +kernel, rfl, by decide +kernel, by decide +kernel⟩
end Lw

namespace Lw
open PySem PySem.Spec PyProof.Rows L2 TP
section
variable {P : Program} {w : World} {K : PySem.W.Frag} {mg : Str → Option Value} {base : Heap}

end
abbrev Rw : PySem.W.OpenRow := PySem.W.OpenLaw.row PySem.Challenge.rw_trailpost_k03_rules_made_and_refused
def loose0 : List Str := ["_wall", "PostError", "NoLand", "NoRule", "NoScan", "is_whole", "is_from", "LEASTS", "Rule", "_law_well", "_law_draw", "_law_one", "_law_number", "_law_odd", "_law_made", "_law_left", "_law_amiss", "_law_told"]
def loose : List Str := loose0
abbrev hk : PySem.W.Hook := hookM 6 fa fn ts ex
def ob (s : PySem.W.SharedT) : AlM := obsM 6 fa fn ts ex (HandSHeadRun.getT s)
theorem ob_eq (s : PySem.W.SharedT) : ob s = hk.obs s.abs := obsM_eq (HandSHeadRun.getT_eq s)
theorem run0 (b : Bool) (w : World) : HandSHeadRun.RunEq Rw (PySem.W.view Rw.prog [22]) hk ob 6000 loose (w.withFollow "special-get-raises" b) := by
  cases b <;> (intro os; kernel_rfl)
theorem run (w : World) : HandSHeadRun.RunEq Rw (PySem.W.view Rw.prog [22]) hk ob 6000 loose w := by
  have h := run0 (w.params.followText "special-get-raises") w
  rwa [World.withFollow_self] at h
end Lw

namespace Lw
open PySem PySem.Spec PyProof.Rows L2 TP
section
variable {P : Program} {w : World} {K : PySem.W.Frag} {mg : Str → Option Value} {base : Heap}

theorem ok_NoRule_init (T : TX w K mg) : GtF P w K mg base CX0 1 d_NoRule_init ["self", "at"] (spErr1 K "NoRule" "at") := by
  refine gtF_mk (D_NoRule_init T) sc_NoRule_init (fun vs H Q E h => ?_) (fun f cdv A outer s H vs Q E hr h => ?_)
  · obtain ⟨a, v, rfl, _⟩ := h
    rfl
  obtain ⟨a, v, rfl, ha, k⟩ := h
  refine ⟨_, (pss_cons (ps_expr (pe_poinit (bc_PostError T) (g_PostError T) (pa_cons (pv 0) (pa_cons pe_str pa_nil))))
    (pss_one (ps_ost (pv 0) (pv 1)))), ?_⟩
  refine ⟨_, rfl, a, _, _, rfl, (by show 1 ≤ 1000; decide), ox_NoRule T, ha, _, rfl, _, rfl, a, _, rfl, ox_NoRule T, nf_NoRule_at T, .inl ⟨ha, fun dx n ne => k dx n ne⟩⟩

theorem ok_is_whole (T : TX w K mg) : Gt P w K mg base CX0 1 "is_whole" ["thing"] (spWhole K) := by
  refine gt_mk (D_is_whole T) (g_is_whole T) sc_is_whole rfl (fun _ _ _ _ _ _ us hl => match us, hl with | [_], _ => rfl) (fun vs H Q E h => ?_) (fun f cdv A outer s H vs Q E hr h => ?_)
  · obtain ⟨x, d, rfl, _⟩ := h
    rfl
  obtain ⟨x, d, rfl, hd, k⟩ := h
  refine ⟨_, (pss_one (ps_ret (pe_and (pe_callB call_isi (by rfl) (f_isinstance T) (by decide +kernel) (pa_cons (pv 0) (pa_cons (pe_gty (n := "int") (f_int T) (by decide +kernel)) pa_nil))) (pe_one (pe_not (pe_callB call_isi (by rfl) (f_isinstance T) (by decide +kernel) (pa_cons (pv 0) (pa_cons (pe_gty (n := "bool") (f_bool T) (by decide +kernel)) pa_nil)))))))), ?_⟩
  refine ⟨_, rfl, x, _, _, _, _, rfl, .ty "int", hd.ty, kit_int d, _, rfl, ite2 (fun e => ?_) (fun e => ?_)⟩
  · refine ⟨_, rfl, x, _, _, _, _, rfl, .ty "bool", hd.ty, kit_thing d, _, rfl, ?_⟩
    cases d <;> first | exact k | exact absurd (of_decide_eq_true e) (by simp [tyN])
  · have : isIntD d = false := by
      cases d <;> first | rfl | exact absurd (decide_eq_true (Or.inl rfl)) e
    rw [this] at k
    exact k
theorem ok_is_from (T : TX w K mg) : Gt P w K mg base CX0 2 "is_from" ["thing", "least"] (spFrom K) := by
  refine gt_mk (D_is_from T) (g_is_from T) sc_is_from rfl (fun _ _ _ _ _ _ us hl => match us, hl with | [_, _], _ => rfl) (fun vs H Q E h => ?_) (fun f cdv A outer s H vs Q E hr h => ?_)
  · obtain ⟨x, d, l, rfl, _⟩ := h
    rfl
  obtain ⟨x, d, l, rfl, hd, k⟩ := h
  refine ⟨_, (pss_one (ps_ret (pe_and ((ok_is_whole T).pe (hr.mono (by decide)) (pa_cons (pv 0) pa_nil)) (pe_one (pe_cmpR op_le (pv 1) (pv 0) (nomark _)))))), ?_⟩
  refine ⟨_, rfl, x, d, rfl, hd, _, rfl, ite2 (fun e => ?_) (fun e => ?_)⟩
  · cases d with
    | int i =>
      cases hd
      exact ⟨_, rfl, _, rfl, _, _, rfl, rfl, k⟩
    | _ => cases e
  · have : isFromD d l = false := by
      cases d <;> first | rfl | exact absurd rfl e
    rw [this] at k
    exact k

theorem ok_Rule_init (T : TX w K mg) : GtF P w K mg base (L2.CX P w) 3 d_Rule_init ["self", "since", "base", "step", "more", "leg", "kept", "back"] (spRuleX K) := by
  refine gtFX_mk (D_Rule_init T) sc_Rule_init (fun vs H Q E h => ?_) (fun f cdv A outer s H vs Q E hr h => ?_)
  · obtain ⟨x, dx, u0, u1, u2, u3, u4, u5, u6, ds, rfl, _⟩ := h
    rfl
  obtain ⟨x, dx, u0, u1, u2, u3, u4, u5, u6, ds, rfl, hd, hx, k, kx⟩ := h
  obtain ⟨es, ep, DL, hks⟩ := t_LEASTS T
  have KK := kkeys_of DL hks
  refine ⟨_, (pss_cons (ps_set (i := 8) sc_Rule_init.nd rfl (by first | exact Or.inl rfl | exact Or.inr rfl) (pe_lst (pa_cons (pv 1) (pa_cons (pv 2) (pa_cons (pv 3) (pa_cons (pv 4) (pa_cons (pv 5) (pa_cons (pv 6) (pa_cons (pv 7) pa_nil)))))))))
    (pss_cons (ps_for (passes_of rfl) rfl (pi_kz KK (by rfl) (f_zip T) (pa_cons (pe_gref (g_LEASTS T)) (pa_cons (pv 8) pa_nil))) (pg_tup (by rfl) (pgs_cons (pg_name (i := 9) sc_Rule_init.nd rfl (by first | exact Or.inl rfl | exact Or.inr rfl)) (pgs_cons (pg_name (i := 10) sc_Rule_init.nd rfl (by first | exact Or.inl rfl | exact Or.inr rfl)) pgs_nil)))
      (pss_one (ps_if (pt_not (pt_val ((ok_is_from T).pe (hr.mono (by decide)) (pa_cons (pv 10) (pa_cons (pe_ix ix_kdict (pe_gref (g_LEASTS T)) (pv 9) (fun _ _ => rfl)) pa_nil)))))
      (pss_one (ps_raise rfl (takes_of rfl rfl rfl rfl) (GtF.pmk (d := d_NoRule_init) (ox_NoRule T) (ei_NoRule T) (ok_NoRule_init T) rfl (fun _ _ _ _ _ _ us hl => match us, hl with | [_, _], _ => rfl) (g_NoRule T) (hr.mono (by decide)) pass0 (pa_cons (pv 9) pa_nil))))
      pss_nil)))
    (pss_one (ps_asg (pv 8) (pg_unl (by rfl) (pgs_cons (pg_attr (pv 0)) (pgs_cons (pg_attr (pv 0)) (pgs_cons (pg_attr (pv 0)) (pgs_cons (pg_attr (pv 0)) (pgs_cons (pg_attr (pv 0)) (pgs_cons (pg_attr (pv 0)) (pgs_cons (pg_attr (pv 0)) pgs_nil)))))))))))), ?_⟩
  refine ⟨_, rfl, _, rfl, _, rfl, _, rfl, _, rfl, _, rfl, _, rfl, (by show 7 ≤ sizeLine; decide), fun n hn => ?_⟩
  generalize hH_ : upd H n _ = H0
  have x0 : Evl.Ex H H0 := (by rw [← hH_]; exact Evl.Ex.new hn)
  have g0 := (congrFun hH_ n).symm
  rw [upd_same] at g0
  clear hH_
  have hx0 := x0 _ _ hx
  have hd0 := DrAll.ex x0 _ _ hd
  refine ⟨_, rfl, n, [u0, u1, u2, u3, u4, u5, u6], rfl, SqL.of g0, for_it (walk_kz (ks := LKs) (ys := [u0, u1, u2, u3, u4, u5, u6]) rfl) (fun i σ H' => (∃ u9 u10 : Option V, σ = [some (.ref x), some u0, some u1, some u2, some u3, some u4, some u5, some u6, some (.ref n), u9, u10]) ∧ Evl.Ex H0 H' ∧ badOf LSl ds = badOf (LSl.drop i) (ds.drop i))
    ⟨⟨_, _, rfl⟩, Evl.Ex.refl _, rfl⟩ (fun i σ H' _ q => SqL.of (q.2.1 _ _ g0)) ?_ ?_⟩
  · rintro i v σ H1 H2 hi ⟨⟨u9, u10, rfl⟩, e1, hb⟩ ⟨T', y1, y2, rfl, hT, rfl, hy1, hy2⟩
    obtain ⟨z, l, rfl, hz, hm⟩ := rule_key hi hy1
    obtain ⟨d, hd1, hd2⟩ := DrAll.at (DrAll.ex e1 _ _ hd0) hy2
    have x2 : Evl.Ex H1 _ := Evl.Ex.new (o := .tup [V.str z, y2]) hT
    have hst := bad_step (ks := LSl) (ds := ds) hz hd1
    refine ⟨T', _, rfl, SqT.of upd_same, rfl, _, _, rfl, _, _, rfl, rfl, ?_⟩
    refine ⟨_, rfl, _, rfl, _, _, _, rfl, rfl, kdct_of DL (v_LEASTS T) hm, _, _, _, rfl, Dr.ex x2 _ _ hd2, _, rfl, ?_⟩
    cases hf : isFromD d l with
    | true =>
      refine iteF ⟨⟨_, _, rfl⟩, e1.trans x2, ?_⟩
      rw [hb, hst, hf]
      rfl
    | false =>
      refine iteT ?_
      refine ⟨_, rfl, (by show 1 ≤ 1000; decide), fun a ha => ⟨a, .str z, rfl, upd_same, fun d2 hn2 ne => ⟨rfl, d2, _, upd_same, Eq.trans (upd_ne ne) upd_same, ?_, ?_⟩⟩⟩
      · exact (raised (fs := [("at", .str z)]) ha hn2 ne).2
      · obtain ⟨r1, r2⟩ := raised (fs := [("at", .str z)]) ha hn2 ne
        have e12 := (x0.trans e1).trans x2
        refine kx z ?_ d2 _ (e12.trans r1) (Ex.free e12 r2) upd_same
        rw [hb, hst, hf]
        rfl
  · rintro σ H1 ⟨⟨u9, u10, rfl⟩, e1, hb⟩
    have hx1 := e1 _ _ hx0
    have hn1 := e1 _ _ g0
    have wk : Wk x H H1 := fun b o nb hb => e1 b o (x0 b o hb)
    refine ⟨_, rfl, n, [u0, u1, u2, u3, u4, u5, u6], rfl, SqL.of hn1, rfl, _, _, rfl, _, rfl, x, _, dx, _, rfl, hx1, cl_Rule T, na_Rule_since T, (by show 0 < 1000; decide), _, _, rfl, _, rfl, x, _, dx, _, rfl, upd_same, cl_Rule T, na_Rule_base T, (by show 1 < 1000; decide), _, _, rfl, _, rfl, x, _, dx, _, rfl, upd_same, cl_Rule T, na_Rule_step T, (by show 2 < 1000; decide), _, _, rfl, _, rfl, x, _, dx, _, rfl, upd_same, cl_Rule T, na_Rule_more T, (by show 3 < 1000; decide), _, _, rfl, _, rfl, x, _, dx, _, rfl, upd_same, cl_Rule T, na_Rule_leg T, (by show 4 < 1000; decide), _, _, rfl, _, rfl, x, _, dx, _, rfl, upd_same, cl_Rule T, na_Rule_kept T, (by show 5 < 1000; decide), _, _, rfl, _, rfl, x, _, dx, _, rfl, upd_same, cl_Rule T, na_Rule_back T, (by show 6 < 1000; decide), rfl, k ?_ _ ?_ ?_⟩
    · rw [hb]
      rfl
    · exact Wk.set (Wk.set (Wk.set (Wk.set (Wk.set (Wk.set (Wk.set wk))))))
    · exact upd_same

end
end Lw

namespace TP
open PySem PySem.Spec PyProof.Rows L2
/-! ### comprehensions by any invariant over all but the new list -/
theorem hid_upd {D : Addr} {H : Hp} {o : HO} : hid D (upd H D o) = hid D H := by
  funext b
  by_cases h : b = D
  · rw [h, hid_same, hid_same]
  · rw [hid_ne h, hid_ne h, upd_ne h]
theorem hid_free {D : Addr} {H : Hp} (h : H D = none) : hid D H = H := by
  funext b
  by_cases e : b = D
  · rw [e, hid_same, h]
  · rw [hid_ne e]
theorem Ex.hid {D : Addr} {H H' : Hp} (e : Evl.Ex H H') : Evl.Ex (hid D H) (hid D H') := (Ex.wk D e).hx
theorem lc_acc {J : It} {n : Nat} {G : Hp → Prop} {Y : Nat → Hp → V → Hp → Prop} (w : Walk J n G Y) {g : TG} {tt : TT} {te : TE} {vs : List Nat} {σ : L2.St} {H1 : Hp} {D : Addr} {Qd : Hp → Prop} (I : Nat → List V → Hp → Prop)
    (hD : H1 D = none) (hn : n < 1000000) (hl : ∀ i acc H, I i acc H → acc.length ≤ i) (h0 : I 0 [] H1) (hG : ∀ i acc H, H D = some (.lst acc) → I i acc (hid D H) → G H)
    (hs : ∀ (i : Nat) (x : V) (H H' : Hp) (acc : List V) (C : V → Hp → Prop) (N : Hp → Prop), i < n → H D = some (.lst acc) → I i acc (hid D H) → Y i H x H' → (∀ y H4, H4 D = some (.lst acc) → I (i + 1) (acc ++ [y]) (hid D H4) → C y H4) →
      (∀ H3, H3 D = some (.lst acc) → I (i + 1) acc (hid D H3) → N H3) → g x (wipe σ vs) H' fun σ2 H2 => wipe σ2 vs = wipe σ vs ∧ tt σ2 H2 fun b H3 => if b = true then te σ2 H3 C else N H3)
    (hd : ∀ H' acc, H' D = some (.lst acc) → I n acc (hid D H') → Qd H') :
    ∃ W : Nat → Nat → Hp → Prop, (∃ m, W 0 m (upd H1 D (.lst []))) ∧ ∀ i m H, W i m H →
      (J.stop i H ∧ Qd H) ∨ (J.go i H ∧ ∃ Nx : Hp → Prop, (∀ H', Nx H' → ∃ m', m' < m ∧ W (i + 1) m' H') ∧ ∀ x H', J.yld i H x H' → g x (wipe σ vs) H' fun σ2 H2 => wipe σ2 vs = wipe σ vs ∧ tt σ2 H2 fun b H3 =>
        if b = true then te σ2 H3 fun y H4 => ∃ acc, H4 D = some (.lst acc) ∧ acc.length < sizeLine ∧ Nx (upd H4 D (.lst (acc ++ [y]))) else Nx H3) := by
  refine lc_it w (fun i H => ∃ acc, H D = some (.lst acc) ∧ I i acc (hid D H)) ⟨[], upd_same, by rw [hid_upd, hid_free hD]; exact h0⟩ (fun i H _ ⟨acc, q1, q2⟩ => hG i acc H q1 q2) (fun i x H H' hi ⟨acc, q1, q2⟩ y => ?_) (fun H ⟨acc, q1, q2⟩ => hd H acc q1 q2)
  refine hs i x H H' acc _ _ hi q1 q2 y (fun v H4 e1 e2 => ⟨acc, e1, ?_, acc ++ [v], upd_same, by rw [hid_upd]; exact e2⟩) (fun H3 e1 e2 => ⟨acc, e1, e2⟩)
  have := hl i acc _ q2
  have : sizeLine = 16777216 := sizeLine_eq
  omega
/-! ### dicts of pairs -/
theorem putK_new {kvs : List (Key × V)} {k : Key} {v : V} (h : k ∉ kvs.map (·.1)) : putK kvs k v = kvs ++ [(k, v)] := by
  unfold putK
  rw [if_neg]
  intro e
  obtain ⟨q, hq, e⟩ := List.any_eq_true.mp e
  exact h (List.mem_map.mpr ⟨q, hq, of_decide_eq_true e⟩)
theorem mergeK_nodup : ∀ {more kvs : List (Key × V)}, ((kvs ++ more).map (·.1)).Nodup → mergeK kvs more = kvs ++ more
  | [], kvs, _ => by rw [List.append_nil]; rfl
  | (k, v) :: more, kvs, h => by
    show mergeK (putK kvs k v) more = _
    have hk : k ∉ kvs.map (·.1) := by
      rw [List.map_append, List.map_cons] at h
      intro z
      exact (List.nodup_append.mp h).2.2 k z k (List.mem_cons_self ..) rfl
    rw [putK_new hk, mergeK_nodup (by rw [List.append_assoc]; exact h), List.append_assoc]
    rfl
theorem paired_at {α β : Type} {R : α → β → Prop} : ∀ {xs : List α} {ys : List β}, xs.length = ys.length → (∀ (i : Nat) x y, xs[i]? = some x → ys[i]? = some y → R x y) → Paired R xs ys
  | [], [], _, _ => .nil
  | x :: xs, y :: ys, hl, h => .cons (h 0 x y rfl rfl) (paired_at (by simpa using hl) fun i a b e1 e2 => h (i + 1) a b e1 e2)
/-! ### what is new -/
def nw (H H' : Hp) : Hp := fun b => match H b with
  | none => H' b
  | some _ => none
theorem nw_of {H H' : Hp} {b : Addr} {o : HO} (h : H b = none) (h' : H' b = some o) : nw H H' b = some o := by
  unfold nw
  rw [h]
  exact h'
theorem nw_ne {H H' : Hp} {b c : Addr} {o u : HO} (h : nw H H' b = some o) (hc : H c = some u) : b ≠ c := fun z => by
  unfold nw at h
  rw [z, hc] at h
  cases h
theorem nw_ex {H H' : Hp} : Evl.Ex (nw H H') H' := fun b o h => by
  unfold nw at h
  cases e : H b with
  | none =>
    rw [e] at h
    exact h
  | some u =>
    rw [e] at h
    cases h
theorem nw_hid {H H' G : Hp} {a : Addr} {u : HO} (e : Evl.Ex (nw H H') G) (ha : H a = some u) : Evl.Ex (nw H H') (hid a G) := fun b o h => by
  rw [hid_ne (nw_ne h ha)]
  exact e b o h
theorem Wl.hid {H : Hp} {a D : Addr} {n : Nat} (h : Wl H a n) (ne : a ≠ D) : Wl (hid D H) a n := by
  obtain ⟨x, y, c, e, r⟩ := h
  exact ⟨x, y, c, by rw [hid_ne ne]; exact e, r⟩
theorem Wk.hid {a D : Addr} {H H' : Hp} (k : Wk a H H') : Wk a (hid D H) (hid D H') := fun b o nb h => by
  by_cases e : b = D
  · rw [e, hid_same] at h
    cases h
  · rw [hid_ne e] at h ⊢
    exact k b o nb h
theorem hid_hid_ex {a b : Addr} {H : Hp} : Evl.Ex (TP.hid a (TP.hid b H)) H := hid_ex.trans hid_ex
theorem nil_at {α : Type} {j : Nat} {x : α} {P : Prop} (h : ([] : List α)[j]? = some x) : P := absurd h (by simp)
/-- a row that has grown by one -/
theorem snoc_at {α : Type} {xs : List α} {x y : α} {j : Nat} (h : (xs ++ [x])[j]? = some y) : xs[j]? = some y ∨ (j = xs.length ∧ y = x) := by
  by_cases hj : j < xs.length
  · rw [List.getElem?_append_left hj] at h
    exact .inl h
  · rw [List.getElem?_append_right (by omega)] at h
    have hj0 : j - xs.length = 0 := by
      rcases Nat.eq_zero_or_pos (j - xs.length) with q | q
      · exact q
      · rw [List.getElem?_eq_none (by show 1 ≤ _; omega)] at h
        cases h
    rw [hj0] at h
    exact .inr ⟨by omega, (Option.some.inj h).symm⟩
end TP

namespace Lw
open PySem PySem.Spec PyProof.Rows L2 TP
section
variable {P : Program} {w : World} {K : PySem.W.Frag} {mg : Str → Option Value} {base : Heap}

abbrev NmT : List Str := ["since", "base", "step", "more", "leg", "kept", "back"]
def kvOf (u0 u1 u2 u3 u4 u5 u6 : V) : List (Key × V) := [(.inr "since", u0), (.inr "base", u1), (.inr "step", u2), (.inr "more", u3), (.inr "leg", u4), (.inr "kept", u5), (.inr "back", u6)]
section
variable {u0 u1 u2 u3 u4 u5 u6 : V} {H : Hp} {t : Addr}
theorem kvg_since : valV (kvOf u0 u1 u2 u3 u4 u5 u6) (.inr "since") = some u0 := by
  unfold kvOf
  rw [valV_pos rfl]
theorem dg_since (h : H t = some (.dK (kvOf u0 u1 u2 u3 u4 u5 u6))) : DGet H t (.str "since") (some u0) := by
  have q := DGet.k (k := .inr "since") h
  rwa [kvg_since] at q
theorem kvg_base : valV (kvOf u0 u1 u2 u3 u4 u5 u6) (.inr "base") = some u1 := by
  unfold kvOf
  rw [valV_neg (by dsimp only; decide +kernel), valV_pos rfl]
theorem dg_base (h : H t = some (.dK (kvOf u0 u1 u2 u3 u4 u5 u6))) : DGet H t (.str "base") (some u1) := by
  have q := DGet.k (k := .inr "base") h
  rwa [kvg_base] at q
theorem kvg_step : valV (kvOf u0 u1 u2 u3 u4 u5 u6) (.inr "step") = some u2 := by
  unfold kvOf
  rw [valV_neg (by dsimp only; decide +kernel), valV_neg (by dsimp only; decide +kernel), valV_pos rfl]
theorem dg_step (h : H t = some (.dK (kvOf u0 u1 u2 u3 u4 u5 u6))) : DGet H t (.str "step") (some u2) := by
  have q := DGet.k (k := .inr "step") h
  rwa [kvg_step] at q
theorem kvg_more : valV (kvOf u0 u1 u2 u3 u4 u5 u6) (.inr "more") = some u3 := by
  unfold kvOf
  rw [valV_neg (by dsimp only; decide +kernel), valV_neg (by dsimp only; decide +kernel), valV_neg (by dsimp only; decide +kernel), valV_pos rfl]
theorem dg_more (h : H t = some (.dK (kvOf u0 u1 u2 u3 u4 u5 u6))) : DGet H t (.str "more") (some u3) := by
  have q := DGet.k (k := .inr "more") h
  rwa [kvg_more] at q
theorem kvg_leg : valV (kvOf u0 u1 u2 u3 u4 u5 u6) (.inr "leg") = some u4 := by
  unfold kvOf
  rw [valV_neg (by dsimp only; decide +kernel), valV_neg (by dsimp only; decide +kernel), valV_neg (by dsimp only; decide +kernel), valV_neg (by dsimp only; decide +kernel), valV_pos rfl]
theorem dg_leg (h : H t = some (.dK (kvOf u0 u1 u2 u3 u4 u5 u6))) : DGet H t (.str "leg") (some u4) := by
  have q := DGet.k (k := .inr "leg") h
  rwa [kvg_leg] at q
theorem kvg_kept : valV (kvOf u0 u1 u2 u3 u4 u5 u6) (.inr "kept") = some u5 := by
  unfold kvOf
  rw [valV_neg (by dsimp only; decide +kernel), valV_neg (by dsimp only; decide +kernel), valV_neg (by dsimp only; decide +kernel), valV_neg (by dsimp only; decide +kernel), valV_neg (by dsimp only; decide +kernel), valV_pos rfl]
theorem dg_kept (h : H t = some (.dK (kvOf u0 u1 u2 u3 u4 u5 u6))) : DGet H t (.str "kept") (some u5) := by
  have q := DGet.k (k := .inr "kept") h
  rwa [kvg_kept] at q
theorem kvg_back : valV (kvOf u0 u1 u2 u3 u4 u5 u6) (.inr "back") = some u6 := by
  unfold kvOf
  rw [valV_neg (by dsimp only; decide +kernel), valV_neg (by dsimp only; decide +kernel), valV_neg (by dsimp only; decide +kernel), valV_neg (by dsimp only; decide +kernel), valV_neg (by dsimp only; decide +kernel), valV_neg (by dsimp only; decide +kernel), valV_pos rfl]
theorem dg_back (h : H t = some (.dK (kvOf u0 u1 u2 u3 u4 u5 u6))) : DGet H t (.str "back") (some u6) := by
  have q := DGet.k (k := .inr "back") h
  rwa [kvg_back] at q
end
/-- what is handed on of seven -/
def eff {α : Type} (z o : α) (s b : Bool) (x0 x1 x2 x3 x4 x5 x6 : α) : List α :=
  match s, b with
  | true, true => [z, x1, x2, x3, x4, x5, z]
  | true, false => [z, x1, o, x3, x4, x5, x6]
  | false, true => [x0, z, x2, z, z, z, z]
  | false, false => [x0, x1, x2, x3, x4, x5, x6]
def effN : Bool → Bool → List Str
  | true, true => ["base", "step", "more", "leg", "kept"]
  | true, false => ["base", "more", "leg", "kept", "back"]
  | false, true => ["since", "step"]
  | false, false => NmT
def spMade (K : PySem.W.Frag) : Sp := fun vs H Q E => ∃ (t : Addr) (u0 u1 u2 u3 u4 u5 u6 : V) (d0 d1 d2 d3 d4 d5 d6 : PyData), vs = [.ref t] ∧ H t = some (.dK (kvOf u0 u1 u2 u3 u4 u5 u6)) ∧ DrAll K H [u0, u1, u2, u3, u4, u5, u6] [d0, d1, d2, d3, d4, d5, d6] ∧
  (badOf LSl (eff (.int 0) (.int 1) (isTx d0 "out") (isTx d6 "out") d0 d1 d2 d3 d4 d5 d6) = none → ∀ a dx H', Evl.Ex H H' → H' a = some (.ins (He.ga K "Rule") dx (NmT.zip (eff (.int 0) (.int 1) (isTx d0 "out") (isTx d6 "out") u0 u1 u2 u3 u4 u5 u6))) → Q (.ref a) H') ∧
  (∀ z, badOf LSl (eff (.int 0) (.int 1) (isTx d0 "out") (isTx d6 "out") d0 d1 d2 d3 d4 d5 d6) = some z → ∀ d H', Evl.Ex H H' → H' d = some (.xd [("at", .str z)]) → E (.ref (eC K "NoRule")) (some d) H')
theorem makes_ex {H H' : Hp} {x dx : Addr} {o o' : HO} (hx : H x = none) (hd : H dx = none) (e : Evl.Ex (upd (upd H dx o') x o) H') : Evl.Ex H H' := fun b u hb => by
  refine e b u ?_
  rw [upd_ne (ne_of_none hb hx), upd_ne (ne_of_none hb hd)]
  exact hb
theorem ok_law_made (T : TX w K mg) : Gt P w K mg base (L2.CX P w) 5 "_law_made" ["_law_told_here"] (spMade K) := by
  refine gtX_mk (D_law_made T) (g_law_made T) sc_law_made rfl (fun _ _ _ _ _ _ us hl => match us, hl with | [_], _ => rfl) (fun vs H Q E h => ?_) (fun f cdv A outer s H vs Q E hr h => ?_)
  · obtain ⟨t, u0, u1, u2, u3, u4, u5, u6, d0, d1, d2, d3, d4, d5, d6, rfl, _⟩ := h
    rfl
  obtain ⟨t, u0, u1, u2, u3, u4, u5, u6, d0, d1, d2, d3, d4, d5, d6, rfl, ht, hd, k, kx⟩ := h
  refine ⟨_, (pss_cons (ps_if (PW.pt (pw_and (pt_cmpR (op_eqS (sysK T) hr.units) (pe_dget (hu_of hr) (pv 0) pe_str (fun _ _ => rfl)) pe_str (nomark _)) (pw_and1 (pt_cmpR (op_eqS (sysK T) hr.units) (pe_dget (hu_of hr) (pv 0) pe_str (fun _ _ => rfl)) pe_str (nomark _)))))
      (pss_one (ps_ret (GtF.makeK0 (ok_Rule_init T) kb_Rule_init_1_leg_kept_base_step_more (mk_Rule T) (g_Rule T) (hr.mono (by decide)) (passes_call (takes_of rfl rfl rfl rfl) (fun _ _ _ _ h => h)) (pk_cons (pe_dget (hu_of hr) (pv 0) pe_str (fun _ _ => rfl)) (pk_cons (pe_dget (hu_of hr) (pv 0) pe_str (fun _ _ => rfl)) (pk_cons (pe_dget (hu_of hr) (pv 0) pe_str (fun _ _ => rfl)) (pk_cons (pe_dget (hu_of hr) (pv 0) pe_str (fun _ _ => rfl)) (pk_cons (pe_dget (hu_of hr) (pv 0) pe_str (fun _ _ => rfl)) pk_nil))))))))
      pss_nil)
    (pss_cons (ps_if (pt_cmpR (op_eqS (sysK T) hr.units) (pe_dget (hu_of hr) (pv 0) pe_str (fun _ _ => rfl)) pe_str (nomark _))
      (pss_one (ps_ret (GtF.makeK0 (ok_Rule_init T) kb_Rule_init_1_back_kept_leg_more_base (mk_Rule T) (g_Rule T) (hr.mono (by decide)) (passes_call (takes_of rfl rfl rfl rfl) (fun _ _ _ _ h => h)) (pk_cons (pe_dget (hu_of hr) (pv 0) pe_str (fun _ _ => rfl)) (pk_cons (pe_dget (hu_of hr) (pv 0) pe_str (fun _ _ => rfl)) (pk_cons (pe_dget (hu_of hr) (pv 0) pe_str (fun _ _ => rfl)) (pk_cons (pe_dget (hu_of hr) (pv 0) pe_str (fun _ _ => rfl)) (pk_cons (pe_dget (hu_of hr) (pv 0) pe_str (fun _ _ => rfl)) pk_nil))))))))
      pss_nil)
    (pss_cons (ps_if (pt_cmpR (op_eqS (sysK T) hr.units) (pe_dget (hu_of hr) (pv 0) pe_str (fun _ _ => rfl)) pe_str (nomark _))
      (pss_one (ps_ret (GtF.makeK0 (ok_Rule_init T) kb_Rule_init_1_step_since (mk_Rule T) (g_Rule T) (hr.mono (by decide)) (passes_call (takes_of rfl rfl rfl rfl) (fun _ _ _ _ h => h)) (pk_cons (pe_dget (hu_of hr) (pv 0) pe_str (fun _ _ => rfl)) (pk_cons (pe_dget (hu_of hr) (pv 0) pe_str (fun _ _ => rfl)) pk_nil)))))
      pss_nil)
    (pss_one (ps_ret (GtF.makeK0 (ok_Rule_init T) kb_Rule_init_1_kept_since_back_step_base_leg_more (mk_Rule T) (g_Rule T) (hr.mono (by decide)) (passes_call (takes_of rfl rfl rfl rfl) (fun _ _ _ _ h => h)) (pk_cons (pe_dget (hu_of hr) (pv 0) pe_str (fun _ _ => rfl)) (pk_cons (pe_dget (hu_of hr) (pv 0) pe_str (fun _ _ => rfl)) (pk_cons (pe_dget (hu_of hr) (pv 0) pe_str (fun _ _ => rfl)) (pk_cons (pe_dget (hu_of hr) (pv 0) pe_str (fun _ _ => rfl)) (pk_cons (pe_dget (hu_of hr) (pv 0) pe_str (fun _ _ => rfl)) (pk_cons (pe_dget (hu_of hr) (pv 0) pe_str (fun _ _ => rfl)) (pk_cons (pe_dget (hu_of hr) (pv 0) pe_str (fun _ _ => rfl)) pk_nil))))))))))))), ?_⟩
  obtain ⟨r0, hd1⟩ : Dr K H u0 d0 ∧ DrAll K H [u1, u2, u3, u4, u5, u6] [d1, d2, d3, d4, d5, d6] := by cases hd with | cons a b => exact ⟨a, b⟩
  obtain ⟨r1, hd2⟩ : Dr K H u1 d1 ∧ DrAll K H [u2, u3, u4, u5, u6] [d2, d3, d4, d5, d6] := by cases hd1 with | cons a b => exact ⟨a, b⟩
  obtain ⟨r2, hd3⟩ : Dr K H u2 d2 ∧ DrAll K H [u3, u4, u5, u6] [d3, d4, d5, d6] := by cases hd2 with | cons a b => exact ⟨a, b⟩
  obtain ⟨r3, hd4⟩ : Dr K H u3 d3 ∧ DrAll K H [u4, u5, u6] [d4, d5, d6] := by cases hd3 with | cons a b => exact ⟨a, b⟩
  obtain ⟨r4, hd5⟩ : Dr K H u4 d4 ∧ DrAll K H [u5, u6] [d5, d6] := by cases hd4 with | cons a b => exact ⟨a, b⟩
  obtain ⟨r5, hd6⟩ : Dr K H u5 d5 ∧ DrAll K H [u6] [d6] := by cases hd5 with | cons a b => exact ⟨a, b⟩
  obtain ⟨r6, _⟩ : Dr K H u6 d6 ∧ DrAll K H [] [] := by cases hd6 with | cons a b => exact ⟨a, b⟩
  have z0 : Dr K H (.int 0) (.int 0) := .int 0
  have z1 : Dr K H (.int 1) (.int 1) := .int 1
  have all : ∀ {v0 v1 v2 v3 v4 v5 v6 : V} {e0 e1 e2 e3 e4 e5 e6 : PyData} {H' : Hp}, Evl.Ex H H' → Dr K H v0 e0 → Dr K H v1 e1 → Dr K H v2 e2 → Dr K H v3 e3 → Dr K H v4 e4 → Dr K H v5 e5 → Dr K H v6 e6 → DrAll K H' [v0, v1, v2, v3, v4, v5, v6] [e0, e1, e2, e3, e4, e5, e6] := fun ex a0 a1 a2 a3 a4 a5 a6 =>
    DrAll.ex ex _ _ (.cons a0 (.cons a1 (.cons a2 (.cons a3 (.cons a4 (.cons a5 (.cons a6 .nil)))))))
  have new : ∀ {x dx : Addr} {o o' : HO}, H x = none → H dx = none → Evl.Ex H (upd (upd H dx o') x o) := fun {x dx o o'} hx hdx b u hb => by
    rw [upd_ne (ne_of_none hb hx), upd_ne (ne_of_none hb hdx)]
    exact hb
  cases hs : isTx d0 "out" <;> cases hb : isTx d6 "out" <;> rw [hs, hb] at k kx
  · refine ⟨_, rfl, t, _, rfl, dg_since ht, d0, _, rfl, r0, _, rfl, ?_⟩
    rw [hs]
    refine iteF ?_
    refine ⟨_, rfl, t, _, rfl, dg_since ht, d0, _, rfl, r0, _, rfl, ?_⟩
    rw [hs]
    refine iteF ?_
    refine ⟨_, rfl, t, _, rfl, dg_back ht, d6, _, rfl, r6, _, rfl, ?_⟩
    rw [hb]
    refine iteF ?_
    refine ⟨_, rfl, t, _, rfl, dg_kept ht, _, rfl, t, _, rfl, dg_since ht, _, rfl, t, _, rfl, dg_back ht, _, rfl, t, _, rfl, dg_step ht, _, rfl, t, _, rfl, dg_base ht, _, rfl, t, _, rfl, dg_leg ht, _, rfl, t, _, rfl, dg_more ht, rfl, rfl, fun x dx hx hdx ndx => ⟨x, dx, _, _, _, _, _, _, _, _, rfl, all (new hx hdx) r0 r1 r2 r3 r4 r5 r6, upd_same, fun hbad H2 wk hx2 => ⟨rfl, k hbad x dx H2 (made_ex hx hdx wk) hx2⟩, fun z hbad d H2 ex hd0 hd2 => kx z hbad d H2 (makes_ex hx hdx ex) hd2⟩⟩
  · refine ⟨_, rfl, t, _, rfl, dg_since ht, d0, _, rfl, r0, _, rfl, ?_⟩
    rw [hs]
    refine iteF ?_
    refine ⟨_, rfl, t, _, rfl, dg_since ht, d0, _, rfl, r0, _, rfl, ?_⟩
    rw [hs]
    refine iteF ?_
    refine ⟨_, rfl, t, _, rfl, dg_back ht, d6, _, rfl, r6, _, rfl, ?_⟩
    rw [hb]
    refine iteT ?_
    refine ⟨_, rfl, t, _, rfl, dg_step ht, _, rfl, t, _, rfl, dg_since ht, rfl, rfl, fun x dx hx hdx ndx => ⟨x, dx, _, _, _, _, _, _, _, _, rfl, all (new hx hdx) r0 z0 r2 z0 z0 z0 z0, upd_same, fun hbad H2 wk hx2 => ⟨rfl, k hbad x dx H2 (made_ex hx hdx wk) hx2⟩, fun z hbad d H2 ex hd0 hd2 => kx z hbad d H2 (makes_ex hx hdx ex) hd2⟩⟩
  · refine ⟨_, rfl, t, _, rfl, dg_since ht, d0, _, rfl, r0, _, rfl, ?_⟩
    rw [hs]
    refine iteT ?_
    refine ⟨_, rfl, t, _, rfl, dg_back ht, d6, _, rfl, r6, _, rfl, ?_⟩
    rw [hb]
    refine iteF ?_
    refine ⟨_, rfl, t, _, rfl, dg_since ht, d0, _, rfl, r0, _, rfl, ?_⟩
    rw [hs]
    refine iteT ?_
    refine ⟨_, rfl, t, _, rfl, dg_back ht, _, rfl, t, _, rfl, dg_kept ht, _, rfl, t, _, rfl, dg_leg ht, _, rfl, t, _, rfl, dg_more ht, _, rfl, t, _, rfl, dg_base ht, rfl, rfl, fun x dx hx hdx ndx => ⟨x, dx, _, _, _, _, _, _, _, _, rfl, all (new hx hdx) z0 r1 z1 r3 r4 r5 r6, upd_same, fun hbad H2 wk hx2 => ⟨rfl, k hbad x dx H2 (made_ex hx hdx wk) hx2⟩, fun z hbad d H2 ex hd0 hd2 => kx z hbad d H2 (makes_ex hx hdx ex) hd2⟩⟩
  · refine ⟨_, rfl, t, _, rfl, dg_since ht, d0, _, rfl, r0, _, rfl, ?_⟩
    rw [hs]
    refine iteT ?_
    refine ⟨_, rfl, t, _, rfl, dg_back ht, d6, _, rfl, r6, _, rfl, ?_⟩
    rw [hb]
    refine iteT ?_
    refine ⟨_, rfl, t, _, rfl, dg_leg ht, _, rfl, t, _, rfl, dg_kept ht, _, rfl, t, _, rfl, dg_base ht, _, rfl, t, _, rfl, dg_step ht, _, rfl, t, _, rfl, dg_more ht, rfl, rfl, fun x dx hx hdx ndx => ⟨x, dx, _, _, _, _, _, _, _, _, rfl, all (new hx hdx) z0 r1 r2 r3 r4 r5 z0, upd_same, fun hbad H2 wk hx2 => ⟨rfl, k hbad x dx H2 (made_ex hx hdx wk) hx2⟩, fun z hbad d H2 ex hd0 hd2 => kx z hbad d H2 (makes_ex hx hdx ex) hd2⟩⟩

end
end Lw

namespace Lw
open PySem PySem.Spec PyProof.Rows L2 TP
section
variable {P : Program} {w : World} {K : PySem.W.Frag} {mg : Str → Option Value} {base : Heap}

theorem ok_well (T : TX w K mg) : Gt P w K mg base CX0 1 "_law_well" ["_law_cell"] spWell := by
  refine gt_mk (D_well T) (g_well T) sc_well rfl (fun _ _ _ _ _ _ us hl => match us, hl with | [_], _ => rfl) (fun vs H Q E h => ?_) (fun f cdv A outer s H vs Q E hr h => ?_)
  · obtain ⟨z, rfl, _⟩ := h
    rfl
  obtain ⟨z, rfl, k⟩ := h
  refine ⟨_, (pss_one (ps_ret (pe_lst (pa_cons (pe_op op_mul (pv 0) (pe_callTy call_int1 (by rfl) (f_int T) (by decide +kernel) (pa_cons (pe_cmpR op_ge (pv 0) (pe_op op_pow pe_int pe_int) (nomark _)) pa_nil))) (pa_cons (pe_op op_mod (pe_callTy call_int1 (by rfl) (f_int T) (by decide +kernel) (pa_cons (pv 0) pa_nil)) pe_int) (pa_cons pe_int pa_nil)))))), ?_⟩
  refine ⟨_, rfl, _, rfl, _, _, rfl, rfl, ⟨by decide, by decide, by decide⟩, _, _, rfl, rfl, .inr ⟨_, rfl, ?_⟩⟩
  refine ⟨_, _, rfl, rfl, .inr ?_, _, rfl, .inl ⟨_, rfl, _, _, rfl, rfl, (by show (0 : Int) < 2147483647; decide), ?_⟩⟩
  · split <;> exact ⟨by decide, by decide⟩
  refine ⟨(by show 3 ≤ sizeLine; decide), fun p hp => k p _ hp ?_ (Evl.Ex.new hp)⟩
  refine ⟨_, _, _, upd_same, ?_, Int.emod_nonneg z (by decide), Int.emod_lt_of_pos z (by decide), by decide, by decide⟩
  show 0 ≤ z * (if decide ((10 : Int) ^ (18 : Int).toNat ≤ z) = true then 1 else 0)
  split
  · rename_i h
    have := of_decide_eq_true h
    have e : (10 : Int) ^ (18 : Int).toNat = 1000000000000000000 := by decide
    omega
  · omega

theorem ok_draw (T : TX w K mg) : Gt P w K mg base CX0 1 "_law_draw" ["_law_well_here", "_law_many"] spDraw := by
  refine gt_mk (D_draw T) (g_draw T) sc_draw rfl (fun _ _ _ _ _ _ us hl => match us, hl with | [_, _], _ => rfl) (fun vs H Q E h => ?_) (fun f cdv A outer s H vs Q E hr h => ?_)
  · obtain ⟨a, n, m, rfl, _⟩ := h
    rfl
  obtain ⟨a, n, m, rfl, ⟨x, y, c, ea, hx, hy, hy2, hc, hcn⟩, hn, hm, hm9, k⟩ := h
  refine ⟨_, (pss_cons (ps_if (pt_cmpR op_gt (pe_ix ix_list (pv 0) pe_int (fun _ _ => rfl)) pe_int (nomark _))
      (pss_cons (ps_set (i := 2) sc_draw.nd rfl (by first | exact Or.inl rfl | exact Or.inr rfl) (pe_op op_mod (pe_callTy call_int1 (by rfl) (f_int T) (by decide +kernel) (pa_cons (pe_ix ix_list (pv 0) pe_int (fun _ _ => rfl)) pa_nil)) (pv 1)))
    (pss_cons (ps_asg (pe_op op_fdivW (pe_ix ix_list (pv 0) pe_int (fun _ _ => rfl)) (pv 1)) (pg_sub (pv 0) pe_int set_list))
    (pss_one (ps_ret (pv 2)))))
      pss_nil)
    (pss_cons (ps_asg (pe_op op_add (pe_ix ix_list (pv 0) pe_int (fun _ _ => rfl)) pe_int) (pg_sub (pv 0) pe_int set_list))
    (pss_cons (ps_set (i := 3) sc_draw.nd rfl (by first | exact Or.inl rfl | exact Or.inr rfl) (pe_ix ix_list (pe_lst (pa_cons pe_int (pa_cons pe_int (pa_cons pe_int (pa_cons pe_int (pa_cons pe_int (pa_cons pe_int (pa_cons pe_int pa_nil)))))))) (pe_op op_mod (pe_callTy call_int1 (by rfl) (f_int T) (by decide +kernel) (pa_cons (pe_ix ix_list (pv 0) pe_int (fun _ _ => rfl)) pa_nil)) pe_int) (fun _ _ => rfl)))
    (pss_cons (ps_set (i := 4) sc_draw.nd rfl (by first | exact Or.inl rfl | exact Or.inr rfl) (pe_op op_mod (pe_callTy call_int1 (by rfl) (f_int T) (by decide +kernel) (pa_cons (pe_op op_pow (pe_op op_add (pe_op op_add (pe_ix ix_list (pv 0) pe_int (fun _ _ => rfl)) (pe_op op_mul pe_int (pe_ix ix_list (pv 0) pe_int (fun _ _ => rfl)))) pe_int) pe_int) pa_nil)) (pv 3)))
    (pss_cons (ps_set (i := 4) sc_draw.nd rfl (by first | exact Or.inl rfl | exact Or.inr rfl) (pe_op op_mod (pe_callTy call_int1 (by rfl) (f_int T) (by decide +kernel) (pa_cons (pe_op op_mul (pe_op op_add (pv 4) (pe_ix ix_list (pv 0) pe_int (fun _ _ => rfl))) (pe_op op_add (pe_op op_fdivW (pv 4) pe_int) pe_int)) pa_nil)) (pv 3)))
    (pss_one (ps_ret (pe_op op_mod (pe_callTy call_int1 (by rfl) (f_int T) (by decide +kernel) (pa_cons (pe_op op_fdivW (pv 4) pe_int) pa_nil)) (pv 1))))))))), ?_⟩
  refine ⟨_, rfl, a, _, _, _, rfl, rfl, SqL.of ea, atI_nat (j := 0) rfl, _, _, rfl, rfl, _, rfl, ?_⟩
  refine ite2 (fun h0 => ?_) (fun h0 => ?_)
  · refine ⟨_, rfl, a, _, _, _, rfl, rfl, SqL.of ea, atI_nat (j := 0) rfl, .inl ⟨_, rfl, _, rfl, _, _, rfl, rfl, hm, ?_⟩⟩
    refine ⟨_, rfl, a, _, _, _, rfl, rfl, SqL.of ea, atI_nat (j := 0) rfl, _, rfl, _, _, rfl, rfl, ⟨hm, hm9⟩, ?_⟩
    refine ⟨_, rfl, a, _, _, 0, rfl, rfl, ea, rfl, ?_⟩
    refine ⟨_, rfl, k _ _ (Int.emod_nonneg _ (by omega)) (Int.emod_lt_of_pos _ hm) ⟨⟨_, y, c, upd_same, Int.ediv_nonneg hx (by omega), hy, hy2, hc, by omega⟩, (Wk.refl a H).set⟩⟩
  · refine ⟨_, rfl, a, _, _, _, rfl, rfl, SqL.of ea, atI_nat (j := 2) rfl, _, _, rfl, rfl, ?_⟩
    refine ⟨_, rfl, a, _, _, 2, rfl, rfl, ea, rfl, ?_⟩
    refine ⟨(by show 7 ≤ sizeLine; decide), fun p hp => ?_⟩
    have npa : a ≠ p := ne_of_none upd_same hp
    have ea2 : (upd (upd H a (.lst [.int x, .int y, .int (c + 1)])) p (.lst [.int 2147483647, .int 2147483629, .int 2147483587, .int 2147483579, .int 2147483563, .int 2147483549, .int 2147483543])) a = some (.lst [.int x, .int y, .int (c + 1)]) := by
      rw [upd_ne npa, upd_same]
    have hpr : ∃ q : Int, atI [V.int 2147483647, .int 2147483629, .int 2147483587, .int 2147483579, .int 2147483563, .int 2147483549, .int 2147483543] ((c + 1) % 7) = some (.int q) ∧ 2147483543 ≤ q ∧ q ≤ 2147483647 := by
      have h7 : (c + 1) % 7 = 0 ∨ (c + 1) % 7 = 1 ∨ (c + 1) % 7 = 2 ∨ (c + 1) % 7 = 3 ∨ (c + 1) % 7 = 4 ∨ (c + 1) % 7 = 5 ∨ (c + 1) % 7 = 6 := by omega
      rcases h7 with e | e | e | e | e | e | e <;> rw [e] <;> exact ⟨_, rfl, by decide, by decide⟩
    obtain ⟨q, hq, q1, q2⟩ := hpr
    refine ⟨_, rfl, a, _, _, _, rfl, rfl, SqL.of ea2, atI_nat (j := 2) rfl, .inl ⟨_, rfl, _, _, rfl, rfl, (by show (0 : Int) < 7; decide), ?_⟩⟩
    refine ⟨p, _, _, _, rfl, rfl, SqL.of upd_same, hq, ?_⟩
    refine ⟨_, rfl, a, _, _, _, rfl, rfl, SqL.of ea2, atI_nat (j := 1) rfl, _, rfl, a, _, _, _, rfl, rfl, SqL.of ea2, atI_nat (j := 2) rfl, _, _, rfl, rfl, .inl ⟨by decide, by decide⟩, _, _, rfl, rfl, _, _, rfl, rfl, _, _, rfl, rfl, ⟨by decide, by decide, ?_⟩, .inl ⟨_, rfl, ?_⟩⟩
    · show (y + 7919 * (c + 1) + 1).natAbs < 2 ^ 64
      omega
    refine ⟨_, rfl, _, _, rfl, rfl, (by show (0 : Int) < q; omega), ?_⟩
    have hz1 := Int.emod_nonneg ((y + 7919 * (c + 1) + 1) ^ (5 : Int).toNat) (show q ≠ 0 by omega)
    have hz2 := Int.emod_lt_of_pos ((y + 7919 * (c + 1) + 1) ^ (5 : Int).toNat) (show 0 < q by omega)
    generalize hzz : (y + 7919 * (c + 1) + 1) ^ (5 : Int).toNat % q = z at hz1 hz2
    refine ⟨_, rfl, _, rfl, a, _, _, _, rfl, rfl, SqL.of ea2, atI_nat (j := 2) rfl, _, _, rfl, rfl, _, rfl, _, _, rfl, rfl, ⟨by decide, by decide +kernel⟩, _, _, rfl, rfl, _, _, rfl, rfl, .inl ?_, .inl ⟨_, rfl, ?_⟩⟩
    · show -(2 ^ 64) < _ + (c + 1) ∧ _ + (c + 1) < 2 ^ 64
      rw [hzz]
      omega
    refine ⟨_, rfl, _, _, rfl, rfl, (by show (0 : Int) < q; omega), ?_⟩
    refine ⟨_, rfl, _, _, rfl, rfl, ⟨by decide, by decide +kernel⟩, .inl ⟨_, rfl, _, rfl, _, _, rfl, rfl, hm, ?_⟩⟩
    exact k _ _ (Int.emod_nonneg _ (by omega)) (Int.emod_lt_of_pos _ hm) ⟨⟨x, y, c + 1, ea2, hx, hy, hy2, by omega, by omega⟩, ((Wk.refl a H).set).new hp⟩

theorem ok_one (T : TX w K mg) : Gt P w K mg base CX0 2 "_law_one" ["_law_well_here", "_law_some"] (spOne K) := by
  refine gt_mk (D_one T) (g_one T) sc_one rfl (fun _ _ _ _ _ _ us hl => match us, hl with | [_, _], _ => rfl) (fun vs H Q E h => ?_) (fun f cdv A outer s H vs Q E hr h => ?_)
  · obtain ⟨a, l, n, xs, rfl, _⟩ := h
    rfl
  obtain ⟨a, l, n, xs, rfl, wl, hn, hs, nla, h0, hz, k⟩ := h
  refine ⟨_, (pss_one (ps_ret (pe_ix ix_list (pv 1) ((ok_draw T).pe (hr.mono (by decide)) (pa_cons (pv 0) (pa_cons (pe_callB call_len_seq (by rfl) (f_len T) (by decide +kernel) (pa_cons (pv 1) pa_nil)) pa_nil))) (fun _ _ => rfl)))), ?_⟩
  refine ⟨_, rfl, _, rfl, _, rfl, l, xs, rfl, .inl hs, a, n, _, rfl, wl, hn, (by show (0 : Int) < (xs.length : Int); omega), ?_, fun d H' d0 d1 dn => ?_⟩
  · exact log2_small_of (show ((xs.length : Nat) : Int).natAbs < 2 ^ 64 by omega)
  have hd : d.toNat < xs.length := by
    have : d < (xs.length : Int) := d1
    omega
  have e : atI xs d = some xs[d.toNat] := at_of (j := d.toNat) (by omega) (by simp [hd])
  exact ⟨l, xs, d, _, rfl, rfl, dn.sql hs nla, e, k _ H' (List.getElem_mem hd) dn⟩

theorem ok_num60 (T : TX w K mg) : Gt P w K mg base CX0 3 "_law_number" ["_law_well_here", "_law_least"] spNum := by
  refine gt_mk (D_num60 T) (g_num60 T) sc_num60 rfl (fun _ _ _ _ _ _ us hl => match us, hl with | [_, _], _ => rfl) (fun vs H Q E h => ?_) (fun f cdv A outer s H vs Q E hr h => ?_)
  · obtain ⟨a, n, l, rfl, _⟩ := h
    rfl
  obtain ⟨a, n, l, rfl, wl, hn, k⟩ := h
  refine ⟨_, (pss_one (ps_ret (pe_op op_add (pv 1) ((ok_draw T).pe (hr.mono (by decide)) (pa_cons (pv 0) (pa_cons ((ok_one T).pe (hr.mono (by decide)) (pa_cons (pv 0) (pa_cons (pe_lst (pa_cons pe_int (pa_cons pe_int (pa_cons pe_int (pa_cons pe_int (pa_cons (pe_op op_pow pe_int pe_int) (pa_cons (pe_op op_pow pe_int pe_int) pa_nil))))))) pa_nil))) pa_nil)))))), ?_⟩
  refine ⟨_, rfl, _, rfl, _, rfl, _, _, rfl, rfl, ⟨by decide, by decide, by decide⟩, _, _, rfl, rfl, ⟨by decide, by decide, by decide⟩, (by show 6 ≤ sizeLine; decide), fun p hp => ?_⟩
  refine ⟨a, p, n, _, rfl, wl.new hp, by omega, SqL.of upd_same, wl.nep hp, (by show 0 < 6; decide), (by show 6 ≤ 1000000; decide), fun v H1 hv D1 => ?_⟩
  have hm : ∃ m : Int, v = .int m ∧ 0 < m ∧ m ≤ 10 ^ 59 := by
    simp only [List.mem_cons, List.not_mem_nil, or_false] at hv
    rcases hv with rfl | rfl | rfl | rfl | rfl | rfl
    · exact ⟨_, rfl, by decide, by decide⟩
    · exact ⟨_, rfl, by decide, by decide⟩
    · exact ⟨_, rfl, by decide, by decide⟩
    · exact ⟨_, rfl, by decide, by decide⟩
    · exact ⟨_, rfl, by decide, by decide⟩
    · exact ⟨_, rfl, by decide, by decide⟩
  obtain ⟨m, rfl, m1, m2⟩ := hm
  refine ⟨a, n + 1, m, rfl, D1.wl, by omega, m1, ?_, fun d H2 d0 dm D2 => ⟨_, _, rfl, rfl, k d H2 d0 (by omega) ⟨D2.wl, ((Wk.refl a H).new hp).trans (D1.k.trans D2.k)⟩⟩⟩
  exact Nat.lt_of_lt_of_le ((Nat.log2_lt (by omega)).mpr (show m.natAbs < 2 ^ 200 by omega)) (by decide)

def spOdd (K : PySem.W.Frag) : Sp := fun vs H Q _ => ∃ (a : Addr) (n : Nat) (l : Int), vs = [.ref a, .int l] ∧ Wl H a n ∧ n < 900000 ∧ (l = 0 ∨ l = 1) ∧ ∀ (v : V) (d : PyData) (H' : Hp), Dr K (nw H H') v d → Sz 300 1 d → Dn a (n + 1) H H' → Q v H'
theorem ok_law_odd (T : TX w K mg) : Gt P w K mg base CX0 3 "_law_odd" ["_law_well_here", "_law_least"] (spOdd K) := by
  refine gt_mk (D_law_odd T) (g_law_odd T) sc_law_odd rfl (fun _ _ _ _ _ _ us hl => match us, hl with | [_, _], _ => rfl) (fun vs H Q E h => ?_) (fun f cdv A outer s H vs Q E hr h => ?_)
  · obtain ⟨a, n, l, rfl, _⟩ := h
    rfl
  obtain ⟨a, n, l, rfl, wl, hn, hl, k⟩ := h
  refine ⟨_, (pss_one (ps_ret ((ok_one T).pe (hr.mono (by decide)) (pa_cons (pv 0) (pa_cons (pe_lst (pa_cons (pe_op op_sub (pv 1) pe_int) (pa_cons (pe_un un_neg pe_int) (pa_cons pe_bl (pa_cons pe_bl (pa_cons pe_non (pa_cons pe_str (pa_cons pe_str (pa_cons (pe_lst (pa_cons pe_int pa_nil)) (pa_cons (pe_tup (pa_cons pe_int pa_nil)) (pa_cons pe_dnewK (pa_cons (pe_un un_neg (pe_op op_pow pe_int pe_int)) pa_nil)))))))))))) pa_nil))))), ?_⟩
  refine ⟨_, rfl, _, rfl, _, _, rfl, rfl, _, rfl, ?_⟩
  refine ⟨(by show 1 ≤ sizeLine; decide), fun p1 hp1 => ?_⟩
  generalize hH_ : upd H p1 _ = H1
  have x1 : Evl.Ex H H1 := (by rw [← hH_]; exact Evl.Ex.new hp1)
  have g1 := (congrFun hH_ p1).symm
  rw [upd_same] at g1
  clear hH_
  refine ⟨(by show 1 ≤ sizeLine; decide), fun p2 hp2 => ?_⟩
  generalize hH_ : upd H1 p2 _ = H2
  have x2 : Evl.Ex H1 H2 := (by rw [← hH_]; exact Evl.Ex.new hp2)
  have g2 := (congrFun hH_ p2).symm
  rw [upd_same] at g2
  clear hH_
  intro p3 hp3
  generalize hH_ : upd H2 p3 _ = H3
  have x3 : Evl.Ex H2 H3 := (by rw [← hH_]; exact Evl.Ex.new hp3)
  have g3 := (congrFun hH_ p3).symm
  rw [upd_same] at g3
  clear hH_
  refine ⟨_, _, rfl, rfl, ⟨by decide, by decide, by decide⟩, _, rfl, (by show 11 ≤ sizeLine; decide), fun p4 hp4 => ?_⟩
  generalize hH_ : upd H3 p4 _ = H4
  have x4 : Evl.Ex H3 H4 := (by rw [← hH_]; exact Evl.Ex.new hp4)
  have g4 := (congrFun hH_ p4).symm
  rw [upd_same] at g4
  clear hH_
  have q1 : p1 ≠ a := wl.nep hp1
  have q2 : p2 ≠ a := (wl.ex x1).nep hp2
  have q3 : p3 ≠ a := (wl.ex (x1.trans x2)).nep hp3
  have q4 : p4 ≠ a := (wl.ex (x1.trans (x2.trans x3))).nep hp4
  have y3 := x4
  have y2 := x3.trans y3
  have y1 := x2.trans y2
  have y0 := x1.trans y1
  refine ⟨a, p4, n, _, rfl, wl.ex y0, by omega, SqL.of g4, q4, (by show 0 < 11; decide), (by show 11 ≤ 1000000; decide), fun v H5 hv D5 => ?_⟩
  have D : Dn a (n + 1) H H5 := ⟨D5.wl, (Ex.wk a y0).trans D5.k⟩
  have f1 := nw_of hp1 (D5.k _ _ q1 (y1 _ _ g1))
  have f2 := nw_of (Ex.free x1 hp2) (D5.k _ _ q2 (y2 _ _ g2))
  have f3 := nw_of (Ex.free (x1.trans x2) hp3) (D5.k _ _ q3 (y3 _ _ g3))
  have hv' : v ∈ [V.int (l - 1), .int (-5), .bl true, .bl false, .non, .str "1", .str "", .ref p1, .ref p2, .ref p3, .int (-(10 : Int) ^ (40 : Int).toNat)] := hv
  have s1 : Sz 101 0 (.int 1) := Sz.int (by decide)
  have e40 : (10 : Int) ^ (40 : Int).toNat = 10 ^ 40 := rfl
  simp only [List.mem_cons, List.not_mem_nil, or_false] at hv'
  rcases hv' with rfl | rfl | rfl | rfl | rfl | rfl | rfl | rfl | rfl | rfl | rfl
  · exact k _ _ H5 (.int _) ((Sz.int (by omega)).mono (by decide) (by decide)) D
  · exact k _ _ H5 (.int _) ((Sz.int (by decide)).mono (by decide) (by decide)) D
  · exact k _ _ H5 (.bl _) ((Sz.bl _).mono (by decide) (by decide)) D
  · exact k _ _ H5 (.bl _) ((Sz.bl _).mono (by decide) (by decide)) D
  · exact k _ _ H5 .non (Sz.non.mono (by decide) (by decide)) D
  · exact k _ _ H5 (.str _) ((Sz.str (B := 10) ⟨by decide +kernel, by decide +kernel⟩).mono (by decide) (by decide)) D
  · exact k _ _ H5 (.str _) ((Sz.str (B := 10) ⟨by decide +kernel, by decide +kernel⟩).mono (by decide) (by decide)) D
  · exact k _ _ H5 (.lst (SqL.of f1) (.cons (.int _) .nil)) ((Sz.lst (n := 1) (l := [_]) (forall1 s1) (Nat.le_refl _)).mono (by decide) (by decide)) D
  · exact k _ _ H5 (.tup (SqT.of f2) (.cons (.int _) .nil)) ((Sz.tup (n := 1) (l := [_]) (forall1 s1) (Nat.le_refl _)).mono (by decide) (by decide)) D
  · exact k _ _ H5 (.dct f3 .nil) ((Sz.dct (B := 5) (k := 0) (n := 0) (l := []) (fun _ h => (nomatch h)) (Nat.le_refl _)).mono (by decide) (by decide)) D
  · exact k _ _ H5 (.int _) ((Sz.int (by rw [e40]; decide)).mono (by decide) (by decide)) D
def spLeft (K : PySem.W.Frag) : Sp := fun vs H Q _ => ∃ (t : Addr) (u0 u1 u2 u3 u4 u5 u6 : V) (d0 d6 : PyData), vs = [.ref t] ∧ H t = some (.dK (kvOf u0 u1 u2 u3 u4 u5 u6)) ∧ Dr K H u0 d0 ∧ Dr K H u6 d6 ∧
  ∀ l H', Evl.Ex H H' → H l = none → H' l = some (.dK ((effN (isTx d0 "out") (isTx d6 "out")).map fun n => (.inr n, (valV (kvOf u0 u1 u2 u3 u4 u5 u6) (.inr n)).getD .non))) → Q (.ref l) H'
theorem kvg_all {u0 u1 u2 u3 u4 u5 u6 : V} {n : Str} (h : n ∈ NmT) : ∃ v, valV (kvOf u0 u1 u2 u3 u4 u5 u6) (.inr n) = some v := by
  simp only [NmT, List.mem_cons, List.not_mem_nil, or_false] at h
  rcases h with rfl | rfl | rfl | rfl | rfl | rfl | rfl
  · exact ⟨_, kvg_since⟩
  · exact ⟨_, kvg_base⟩
  · exact ⟨_, kvg_step⟩
  · exact ⟨_, kvg_more⟩
  · exact ⟨_, kvg_leg⟩
  · exact ⟨_, kvg_kept⟩
  · exact ⟨_, kvg_back⟩
theorem effN_sub : ∀ s b, (∀ n ∈ effN s b, n ∈ NmT) ∧ ((effN s b).map fun n => (Sum.inr n : Key)).Nodup ∧ (effN s b).length ≤ 7 := by decide +kernel
theorem ok_law_left (T : TX w K mg) : Gt P w K mg base CX0 1 "_law_left" ["_law_told_here"] (spLeft K) := by
  refine gt_mk (D_law_left T) (g_law_left T) sc_law_left rfl (fun _ _ _ _ _ _ us hl => match us, hl with | [_], _ => rfl) (fun vs H Q E h => ?_) (fun f cdv A outer s H vs Q E hr h => ?_)
  · obtain ⟨t, u0, u1, u2, u3, u4, u5, u6, d0, d6, rfl, _⟩ := h
    rfl
  obtain ⟨t, u0, u1, u2, u3, u4, u5, u6, d0, d6, rfl, ht, r0, r6, k⟩ := h
  refine ⟨_, (pss_cons (ps_set (i := 1) sc_law_left.nd rfl (by first | exact Or.inl rfl | exact Or.inr rfl) (pe_lst (pa_cons pe_str (pa_cons pe_str (pa_cons pe_str (pa_cons pe_str (pa_cons pe_str (pa_cons pe_str (pa_cons pe_str pa_nil)))))))))
    (pss_cons (ps_if (PW.pt (pw_and (pt_cmpR (op_eqS (sysK T) hr.units) (pe_dget (hu_of hr) (pv 0) pe_str (fun _ _ => rfl)) pe_str (nomark _)) (pw_and1 (pt_cmpR (op_eqS (sysK T) hr.units) (pe_dget (hu_of hr) (pv 0) pe_str (fun _ _ => rfl)) pe_str (nomark _)))))
      (pss_one (ps_set (i := 1) sc_law_left.nd rfl (by first | exact Or.inl rfl | exact Or.inr rfl) (pe_lst (pa_cons pe_str (pa_cons pe_str (pa_cons pe_str (pa_cons pe_str (pa_cons pe_str pa_nil))))))))
      (pss_one (ps_if (pt_cmpR (op_eqS (sysK T) hr.units) (pe_dget (hu_of hr) (pv 0) pe_str (fun _ _ => rfl)) pe_str (nomark _))
      (pss_one (ps_set (i := 1) sc_law_left.nd rfl (by first | exact Or.inl rfl | exact Or.inr rfl) (pe_lst (pa_cons pe_str (pa_cons pe_str (pa_cons pe_str (pa_cons pe_str (pa_cons pe_str pa_nil))))))))
      (pss_one (ps_if (pt_cmpR (op_eqS (sysK T) hr.units) (pe_dget (hu_of hr) (pv 0) pe_str (fun _ _ => rfl)) pe_str (nomark _))
      (pss_one (ps_set (i := 1) sc_law_left.nd rfl (by first | exact Or.inl rfl | exact Or.inr rfl) (pe_lst (pa_cons pe_str (pa_cons pe_str pa_nil)))))
      pss_nil)))))
    (pss_one (ps_ret (pe_callTy (call_dictP rfl) (by rfl) (f_dict T) (by decide +kernel) (pa_cons (pe_lc (own := [("_law_name", 2)]) (g := gName 2) (tt := tYes) rfl sc_law_left.nd (pi_list (pv 1)) (blkOk_by (N := ["_law_told_here", "_law_names", "_law_name"]) (sc := defScope s_law_left) (by decide +kernel)) (fun _ _ _ _ _ => (pg_name (i := 2) sc_law_left.nd rfl (by first | exact Or.inl rfl | exact Or.inr rfl))) (fun _ _ _ _ _ => pts_nil) (fun _ _ _ _ _ => (pe_tup (pa_cons (pv 2) (pa_cons (pe_dget (hu_of hr) (pv 0) (pv 2) (fun _ _ => rfl)) pa_nil))))) pa_nil)))))), ?_⟩
  refine ⟨(by show 7 ≤ sizeLine; decide), fun q hq => ?_⟩
  generalize hH_ : upd H q _ = H0
  have x0 : Evl.Ex H H0 := (by rw [← hH_]; exact Evl.Ex.new hq)
  have g0 := (congrFun hH_ q).symm
  rw [upd_same] at g0
  clear hH_
  have ht0 := x0 _ _ ht
  have r00 := Dr.ex x0 _ _ r0
  have r60 := Dr.ex x0 _ _ r6
  cases hs : isTx d0 "out" <;> cases hb : isTx d6 "out" <;> rw [hs, hb] at k
  · refine ⟨_, rfl, t, _, rfl, dg_since ht0, d0, _, rfl, r00, _, rfl, ?_⟩
    rw [hs]
    refine iteF ?_
    refine ⟨_, rfl, t, _, rfl, dg_since ht0, d0, _, rfl, r00, _, rfl, ?_⟩
    rw [hs]
    refine iteF ?_
    refine ⟨_, rfl, t, _, rfl, dg_back ht0, d6, _, rfl, r60, _, rfl, ?_⟩
    rw [hb]
    refine iteF ?_
    obtain ⟨ns, hns⟩ : ∃ ns : List Str, ns = effN false false := ⟨_, rfl⟩
    have gq : H0 q = some (.lst (ns.map V.str)) := by rw [hns]; exact g0
    obtain ⟨hsub, hnd, hlen⟩ := effN_sub false false
    rw [← hns] at hsub hnd hlen
    rw [← hns] at k
    clear hns
    let W : Str → V := fun n => (valV (kvOf u0 u1 u2 u3 u4 u5 u6) (.inr n)).getD .non
    refine ⟨_, rfl, q, rfl, ⟨_, SqL.of gq⟩, fun D hD => lc_acc (walk_list (K := K) (a := q) (xs := ns.map V.str)) (fun i acc H' => Evl.Ex H0 H' ∧ ∃ ps : List Addr, acc = ps.map V.ref ∧ ps.length = i ∧ ∀ j p n, ps[j]? = some p → ns[j]? = some n → H' p = some (.tup [.str n, W n]))
      hD (by rw [List.length_map]; omega) (fun i acc H' q => by obtain ⟨_, ps, rfl, h, _⟩ := q; rw [List.length_map]; omega) ⟨Evl.Ex.refl _, [], rfl, rfl, fun (j : Nat) p n (h : ([] : List Addr)[j]? = some p) _ => absurd h (by simp)⟩ (fun i acc H' h1 q => SqL.of (hid_ex _ _ (q.1 _ _ gq))) (fun i x H2 H3 acc C N hi hD2 hI hy hc _ => ?_) (fun H2 acc hD2 hI => ?_)⟩
    · obtain ⟨rfl, hv⟩ := hy
      obtain ⟨e2, ps, rfl, hl, hp⟩ := hI
      obtain ⟨n, hn, rfl⟩ : ∃ n, ns[i]? = some n ∧ x = .str n := by
        rw [List.getElem?_map] at hv
        cases e : ns[i]? with
        | none =>
          rw [e] at hv
          cases hv
        | some n =>
          rw [e] at hv
          exact ⟨n, rfl, (Option.some.inj hv).symm⟩
      obtain ⟨v, hval⟩ := kvg_all (u0 := u0) (u1 := u1) (u2 := u2) (u3 := u3) (u4 := u4) (u5 := u5) (u6 := u6) (hsub n (List.mem_of_getElem? hn))
      have hW : W n = v := by
        show (valV _ _).getD _ = v
        rw [hval]
        rfl
      have ht2 := hid_ex _ _ (e2 _ _ (x0 _ _ ht))
      have dg : DGet H3 t (.str n) (some v) := by
        have q := DGet.k (k := .inr n) ht2
        rwa [hval] at q
      refine ⟨rfl, yes_ok ?_⟩
      refine ⟨_, rfl, _, rfl, _, rfl, t, v, rfl, dg, (by show 2 ≤ sizeLine; decide), fun p hp2 => ?_⟩
      generalize hH_ : upd H3 p _ = H4
      have x4 : Evl.Ex H3 H4 := (by rw [← hH_]; exact Evl.Ex.new hp2)
      have g4 := (congrFun hH_ p).symm
      rw [upd_same] at g4
      clear hH_
      have nD : p ≠ D := fun z => by
        rw [z, hD2] at hp2
        cases hp2
      refine hc _ _ (x4 _ _ hD2) ⟨e2.trans (Ex.hid x4), ps ++ [p], by rw [List.map_append]; rfl, by rw [List.length_append, hl]; rfl, fun j p' n' h1 h2 => ?_⟩
      by_cases hj : j < ps.length
      · rw [List.getElem?_append_left hj] at h1
        exact Ex.hid x4 _ _ (hp j p' n' h1 h2)
      · rw [List.getElem?_append_right (by omega)] at h1
        have hj0 : j - ps.length = 0 := by
          rcases Nat.eq_zero_or_pos (j - ps.length) with h | h
          · exact h
          · rw [List.getElem?_eq_none (by show 1 ≤ _; omega)] at h1
            cases h1
        rw [hj0] at h1
        obtain rfl : p = p' := Option.some.inj h1
        have : j = i := by omega
        rw [this, hn] at h2
        obtain rfl := Option.some.inj h2
        rw [hid_ne nD, g4, hW]
    · obtain ⟨e2, ps, rfl, hl, hp⟩ := hI
      rw [List.length_map] at hl
      refine ⟨D, ps, ns.map fun n => (.inr n, W n), rfl, SqL.of hD2, paired_at (by rw [List.length_map, hl]) (fun i p kv h1 h2 => ?_), fun l hl2 => ?_⟩
      · rw [List.getElem?_map] at h2
        cases e : ns[i]? with
        | none =>
          rw [e] at h2
          cases h2
        | some n =>
          rw [e] at h2
          obtain rfl := Option.some.inj h2
          exact SqT.of (hid_ex _ _ (hp i p n h1 e))
      have eH : Evl.Ex H H2 := (x0.trans e2).trans hid_ex
      generalize hH_ : upd H2 l _ = H5
      have x5 : Evl.Ex H2 H5 := (by rw [← hH_]; exact Evl.Ex.new hl2)
      have g5 := (congrFun hH_ l).symm
      rw [upd_same] at g5
      clear hH_
      refine k l H5 (eH.trans x5) (Ex.free eH hl2) ?_
      rw [g5, mergeK_nodup (by rw [List.nil_append, List.map_map]; exact hnd), List.nil_append]
  · refine ⟨_, rfl, t, _, rfl, dg_since ht0, d0, _, rfl, r00, _, rfl, ?_⟩
    rw [hs]
    refine iteF ?_
    refine ⟨_, rfl, t, _, rfl, dg_since ht0, d0, _, rfl, r00, _, rfl, ?_⟩
    rw [hs]
    refine iteF ?_
    refine ⟨_, rfl, t, _, rfl, dg_back ht0, d6, _, rfl, r60, _, rfl, ?_⟩
    rw [hb]
    refine iteT ⟨(by show 2 ≤ sizeLine; decide), fun q1 hq1 => ?_⟩
    generalize hH_ : upd H0 q1 _ = H9
    have x1 : Evl.Ex H0 H9 := (by rw [← hH_]; exact Evl.Ex.new hq1)
    have g1 := (congrFun hH_ q1).symm
    rw [upd_same] at g1
    clear hH_
    have x01 := x0.trans x1
    obtain ⟨ns, hns⟩ : ∃ ns : List Str, ns = effN false true := ⟨_, rfl⟩
    have gq : H9 q1 = some (.lst (ns.map V.str)) := by rw [hns]; exact g1
    obtain ⟨hsub, hnd, hlen⟩ := effN_sub false true
    rw [← hns] at hsub hnd hlen
    rw [← hns] at k
    clear hns
    let W : Str → V := fun n => (valV (kvOf u0 u1 u2 u3 u4 u5 u6) (.inr n)).getD .non
    refine ⟨_, rfl, q1, rfl, ⟨_, SqL.of gq⟩, fun D hD => lc_acc (walk_list (K := K) (a := q1) (xs := ns.map V.str)) (fun i acc H' => Evl.Ex H9 H' ∧ ∃ ps : List Addr, acc = ps.map V.ref ∧ ps.length = i ∧ ∀ j p n, ps[j]? = some p → ns[j]? = some n → H' p = some (.tup [.str n, W n]))
      hD (by rw [List.length_map]; omega) (fun i acc H' q => by obtain ⟨_, ps, rfl, h, _⟩ := q; rw [List.length_map]; omega) ⟨Evl.Ex.refl _, [], rfl, rfl, fun (j : Nat) p n (h : ([] : List Addr)[j]? = some p) _ => absurd h (by simp)⟩ (fun i acc H' h1 q => SqL.of (hid_ex _ _ (q.1 _ _ gq))) (fun i x H2 H3 acc C N hi hD2 hI hy hc _ => ?_) (fun H2 acc hD2 hI => ?_)⟩
    · obtain ⟨rfl, hv⟩ := hy
      obtain ⟨e2, ps, rfl, hl, hp⟩ := hI
      obtain ⟨n, hn, rfl⟩ : ∃ n, ns[i]? = some n ∧ x = .str n := by
        rw [List.getElem?_map] at hv
        cases e : ns[i]? with
        | none =>
          rw [e] at hv
          cases hv
        | some n =>
          rw [e] at hv
          exact ⟨n, rfl, (Option.some.inj hv).symm⟩
      obtain ⟨v, hval⟩ := kvg_all (u0 := u0) (u1 := u1) (u2 := u2) (u3 := u3) (u4 := u4) (u5 := u5) (u6 := u6) (hsub n (List.mem_of_getElem? hn))
      have hW : W n = v := by
        show (valV _ _).getD _ = v
        rw [hval]
        rfl
      have ht2 := hid_ex _ _ (e2 _ _ (x01 _ _ ht))
      have dg : DGet H3 t (.str n) (some v) := by
        have q := DGet.k (k := .inr n) ht2
        rwa [hval] at q
      refine ⟨rfl, yes_ok ?_⟩
      refine ⟨_, rfl, _, rfl, _, rfl, t, v, rfl, dg, (by show 2 ≤ sizeLine; decide), fun p hp2 => ?_⟩
      generalize hH_ : upd H3 p _ = H4
      have x4 : Evl.Ex H3 H4 := (by rw [← hH_]; exact Evl.Ex.new hp2)
      have g4 := (congrFun hH_ p).symm
      rw [upd_same] at g4
      clear hH_
      have nD : p ≠ D := fun z => by
        rw [z, hD2] at hp2
        cases hp2
      refine hc _ _ (x4 _ _ hD2) ⟨e2.trans (Ex.hid x4), ps ++ [p], by rw [List.map_append]; rfl, by rw [List.length_append, hl]; rfl, fun j p' n' h1 h2 => ?_⟩
      by_cases hj : j < ps.length
      · rw [List.getElem?_append_left hj] at h1
        exact Ex.hid x4 _ _ (hp j p' n' h1 h2)
      · rw [List.getElem?_append_right (by omega)] at h1
        have hj0 : j - ps.length = 0 := by
          rcases Nat.eq_zero_or_pos (j - ps.length) with h | h
          · exact h
          · rw [List.getElem?_eq_none (by show 1 ≤ _; omega)] at h1
            cases h1
        rw [hj0] at h1
        obtain rfl : p = p' := Option.some.inj h1
        have : j = i := by omega
        rw [this, hn] at h2
        obtain rfl := Option.some.inj h2
        rw [hid_ne nD, g4, hW]
    · obtain ⟨e2, ps, rfl, hl, hp⟩ := hI
      rw [List.length_map] at hl
      refine ⟨D, ps, ns.map fun n => (.inr n, W n), rfl, SqL.of hD2, paired_at (by rw [List.length_map, hl]) (fun i p kv h1 h2 => ?_), fun l hl2 => ?_⟩
      · rw [List.getElem?_map] at h2
        cases e : ns[i]? with
        | none =>
          rw [e] at h2
          cases h2
        | some n =>
          rw [e] at h2
          obtain rfl := Option.some.inj h2
          exact SqT.of (hid_ex _ _ (hp i p n h1 e))
      have eH : Evl.Ex H H2 := (x01.trans e2).trans hid_ex
      generalize hH_ : upd H2 l _ = H5
      have x5 : Evl.Ex H2 H5 := (by rw [← hH_]; exact Evl.Ex.new hl2)
      have g5 := (congrFun hH_ l).symm
      rw [upd_same] at g5
      clear hH_
      refine k l H5 (eH.trans x5) (Ex.free eH hl2) ?_
      rw [g5, mergeK_nodup (by rw [List.nil_append, List.map_map]; exact hnd), List.nil_append]
  · refine ⟨_, rfl, t, _, rfl, dg_since ht0, d0, _, rfl, r00, _, rfl, ?_⟩
    rw [hs]
    refine iteT ?_
    refine ⟨_, rfl, t, _, rfl, dg_back ht0, d6, _, rfl, r60, _, rfl, ?_⟩
    rw [hb]
    refine iteF ?_
    refine ⟨_, rfl, t, _, rfl, dg_since ht0, d0, _, rfl, r00, _, rfl, ?_⟩
    rw [hs]
    refine iteT ⟨(by show 5 ≤ sizeLine; decide), fun q1 hq1 => ?_⟩
    generalize hH_ : upd H0 q1 _ = H9
    have x1 : Evl.Ex H0 H9 := (by rw [← hH_]; exact Evl.Ex.new hq1)
    have g1 := (congrFun hH_ q1).symm
    rw [upd_same] at g1
    clear hH_
    have x01 := x0.trans x1
    obtain ⟨ns, hns⟩ : ∃ ns : List Str, ns = effN true false := ⟨_, rfl⟩
    have gq : H9 q1 = some (.lst (ns.map V.str)) := by rw [hns]; exact g1
    obtain ⟨hsub, hnd, hlen⟩ := effN_sub true false
    rw [← hns] at hsub hnd hlen
    rw [← hns] at k
    clear hns
    let W : Str → V := fun n => (valV (kvOf u0 u1 u2 u3 u4 u5 u6) (.inr n)).getD .non
    refine ⟨_, rfl, q1, rfl, ⟨_, SqL.of gq⟩, fun D hD => lc_acc (walk_list (K := K) (a := q1) (xs := ns.map V.str)) (fun i acc H' => Evl.Ex H9 H' ∧ ∃ ps : List Addr, acc = ps.map V.ref ∧ ps.length = i ∧ ∀ j p n, ps[j]? = some p → ns[j]? = some n → H' p = some (.tup [.str n, W n]))
      hD (by rw [List.length_map]; omega) (fun i acc H' q => by obtain ⟨_, ps, rfl, h, _⟩ := q; rw [List.length_map]; omega) ⟨Evl.Ex.refl _, [], rfl, rfl, fun (j : Nat) p n (h : ([] : List Addr)[j]? = some p) _ => absurd h (by simp)⟩ (fun i acc H' h1 q => SqL.of (hid_ex _ _ (q.1 _ _ gq))) (fun i x H2 H3 acc C N hi hD2 hI hy hc _ => ?_) (fun H2 acc hD2 hI => ?_)⟩
    · obtain ⟨rfl, hv⟩ := hy
      obtain ⟨e2, ps, rfl, hl, hp⟩ := hI
      obtain ⟨n, hn, rfl⟩ : ∃ n, ns[i]? = some n ∧ x = .str n := by
        rw [List.getElem?_map] at hv
        cases e : ns[i]? with
        | none =>
          rw [e] at hv
          cases hv
        | some n =>
          rw [e] at hv
          exact ⟨n, rfl, (Option.some.inj hv).symm⟩
      obtain ⟨v, hval⟩ := kvg_all (u0 := u0) (u1 := u1) (u2 := u2) (u3 := u3) (u4 := u4) (u5 := u5) (u6 := u6) (hsub n (List.mem_of_getElem? hn))
      have hW : W n = v := by
        show (valV _ _).getD _ = v
        rw [hval]
        rfl
      have ht2 := hid_ex _ _ (e2 _ _ (x01 _ _ ht))
      have dg : DGet H3 t (.str n) (some v) := by
        have q := DGet.k (k := .inr n) ht2
        rwa [hval] at q
      refine ⟨rfl, yes_ok ?_⟩
      refine ⟨_, rfl, _, rfl, _, rfl, t, v, rfl, dg, (by show 2 ≤ sizeLine; decide), fun p hp2 => ?_⟩
      generalize hH_ : upd H3 p _ = H4
      have x4 : Evl.Ex H3 H4 := (by rw [← hH_]; exact Evl.Ex.new hp2)
      have g4 := (congrFun hH_ p).symm
      rw [upd_same] at g4
      clear hH_
      have nD : p ≠ D := fun z => by
        rw [z, hD2] at hp2
        cases hp2
      refine hc _ _ (x4 _ _ hD2) ⟨e2.trans (Ex.hid x4), ps ++ [p], by rw [List.map_append]; rfl, by rw [List.length_append, hl]; rfl, fun j p' n' h1 h2 => ?_⟩
      by_cases hj : j < ps.length
      · rw [List.getElem?_append_left hj] at h1
        exact Ex.hid x4 _ _ (hp j p' n' h1 h2)
      · rw [List.getElem?_append_right (by omega)] at h1
        have hj0 : j - ps.length = 0 := by
          rcases Nat.eq_zero_or_pos (j - ps.length) with h | h
          · exact h
          · rw [List.getElem?_eq_none (by show 1 ≤ _; omega)] at h1
            cases h1
        rw [hj0] at h1
        obtain rfl : p = p' := Option.some.inj h1
        have : j = i := by omega
        rw [this, hn] at h2
        obtain rfl := Option.some.inj h2
        rw [hid_ne nD, g4, hW]
    · obtain ⟨e2, ps, rfl, hl, hp⟩ := hI
      rw [List.length_map] at hl
      refine ⟨D, ps, ns.map fun n => (.inr n, W n), rfl, SqL.of hD2, paired_at (by rw [List.length_map, hl]) (fun i p kv h1 h2 => ?_), fun l hl2 => ?_⟩
      · rw [List.getElem?_map] at h2
        cases e : ns[i]? with
        | none =>
          rw [e] at h2
          cases h2
        | some n =>
          rw [e] at h2
          obtain rfl := Option.some.inj h2
          exact SqT.of (hid_ex _ _ (hp i p n h1 e))
      have eH : Evl.Ex H H2 := (x01.trans e2).trans hid_ex
      generalize hH_ : upd H2 l _ = H5
      have x5 : Evl.Ex H2 H5 := (by rw [← hH_]; exact Evl.Ex.new hl2)
      have g5 := (congrFun hH_ l).symm
      rw [upd_same] at g5
      clear hH_
      refine k l H5 (eH.trans x5) (Ex.free eH hl2) ?_
      rw [g5, mergeK_nodup (by rw [List.nil_append, List.map_map]; exact hnd), List.nil_append]
  · refine ⟨_, rfl, t, _, rfl, dg_since ht0, d0, _, rfl, r00, _, rfl, ?_⟩
    rw [hs]
    refine iteT ?_
    refine ⟨_, rfl, t, _, rfl, dg_back ht0, d6, _, rfl, r60, _, rfl, ?_⟩
    rw [hb]
    refine iteT ⟨(by show 5 ≤ sizeLine; decide), fun q1 hq1 => ?_⟩
    generalize hH_ : upd H0 q1 _ = H9
    have x1 : Evl.Ex H0 H9 := (by rw [← hH_]; exact Evl.Ex.new hq1)
    have g1 := (congrFun hH_ q1).symm
    rw [upd_same] at g1
    clear hH_
    have x01 := x0.trans x1
    obtain ⟨ns, hns⟩ : ∃ ns : List Str, ns = effN true true := ⟨_, rfl⟩
    have gq : H9 q1 = some (.lst (ns.map V.str)) := by rw [hns]; exact g1
    obtain ⟨hsub, hnd, hlen⟩ := effN_sub true true
    rw [← hns] at hsub hnd hlen
    rw [← hns] at k
    clear hns
    let W : Str → V := fun n => (valV (kvOf u0 u1 u2 u3 u4 u5 u6) (.inr n)).getD .non
    refine ⟨_, rfl, q1, rfl, ⟨_, SqL.of gq⟩, fun D hD => lc_acc (walk_list (K := K) (a := q1) (xs := ns.map V.str)) (fun i acc H' => Evl.Ex H9 H' ∧ ∃ ps : List Addr, acc = ps.map V.ref ∧ ps.length = i ∧ ∀ j p n, ps[j]? = some p → ns[j]? = some n → H' p = some (.tup [.str n, W n]))
      hD (by rw [List.length_map]; omega) (fun i acc H' q => by obtain ⟨_, ps, rfl, h, _⟩ := q; rw [List.length_map]; omega) ⟨Evl.Ex.refl _, [], rfl, rfl, fun (j : Nat) p n (h : ([] : List Addr)[j]? = some p) _ => absurd h (by simp)⟩ (fun i acc H' h1 q => SqL.of (hid_ex _ _ (q.1 _ _ gq))) (fun i x H2 H3 acc C N hi hD2 hI hy hc _ => ?_) (fun H2 acc hD2 hI => ?_)⟩
    · obtain ⟨rfl, hv⟩ := hy
      obtain ⟨e2, ps, rfl, hl, hp⟩ := hI
      obtain ⟨n, hn, rfl⟩ : ∃ n, ns[i]? = some n ∧ x = .str n := by
        rw [List.getElem?_map] at hv
        cases e : ns[i]? with
        | none =>
          rw [e] at hv
          cases hv
        | some n =>
          rw [e] at hv
          exact ⟨n, rfl, (Option.some.inj hv).symm⟩
      obtain ⟨v, hval⟩ := kvg_all (u0 := u0) (u1 := u1) (u2 := u2) (u3 := u3) (u4 := u4) (u5 := u5) (u6 := u6) (hsub n (List.mem_of_getElem? hn))
      have hW : W n = v := by
        show (valV _ _).getD _ = v
        rw [hval]
        rfl
      have ht2 := hid_ex _ _ (e2 _ _ (x01 _ _ ht))
      have dg : DGet H3 t (.str n) (some v) := by
        have q := DGet.k (k := .inr n) ht2
        rwa [hval] at q
      refine ⟨rfl, yes_ok ?_⟩
      refine ⟨_, rfl, _, rfl, _, rfl, t, v, rfl, dg, (by show 2 ≤ sizeLine; decide), fun p hp2 => ?_⟩
      generalize hH_ : upd H3 p _ = H4
      have x4 : Evl.Ex H3 H4 := (by rw [← hH_]; exact Evl.Ex.new hp2)
      have g4 := (congrFun hH_ p).symm
      rw [upd_same] at g4
      clear hH_
      have nD : p ≠ D := fun z => by
        rw [z, hD2] at hp2
        cases hp2
      refine hc _ _ (x4 _ _ hD2) ⟨e2.trans (Ex.hid x4), ps ++ [p], by rw [List.map_append]; rfl, by rw [List.length_append, hl]; rfl, fun j p' n' h1 h2 => ?_⟩
      by_cases hj : j < ps.length
      · rw [List.getElem?_append_left hj] at h1
        exact Ex.hid x4 _ _ (hp j p' n' h1 h2)
      · rw [List.getElem?_append_right (by omega)] at h1
        have hj0 : j - ps.length = 0 := by
          rcases Nat.eq_zero_or_pos (j - ps.length) with h | h
          · exact h
          · rw [List.getElem?_eq_none (by show 1 ≤ _; omega)] at h1
            cases h1
        rw [hj0] at h1
        obtain rfl : p = p' := Option.some.inj h1
        have : j = i := by omega
        rw [this, hn] at h2
        obtain rfl := Option.some.inj h2
        rw [hid_ne nD, g4, hW]
    · obtain ⟨e2, ps, rfl, hl, hp⟩ := hI
      rw [List.length_map] at hl
      refine ⟨D, ps, ns.map fun n => (.inr n, W n), rfl, SqL.of hD2, paired_at (by rw [List.length_map, hl]) (fun i p kv h1 h2 => ?_), fun l hl2 => ?_⟩
      · rw [List.getElem?_map] at h2
        cases e : ns[i]? with
        | none =>
          rw [e] at h2
          cases h2
        | some n =>
          rw [e] at h2
          obtain rfl := Option.some.inj h2
          exact SqT.of (hid_ex _ _ (hp i p n h1 e))
      have eH : Evl.Ex H H2 := (x01.trans e2).trans hid_ex
      generalize hH_ : upd H2 l _ = H5
      have x5 : Evl.Ex H2 H5 := (by rw [← hH_]; exact Evl.Ex.new hl2)
      have g5 := (congrFun hH_ l).symm
      rw [upd_same] at g5
      clear hH_
      refine k l H5 (eH.trans x5) (Ex.free eH hl2) ?_
      rw [g5, mergeK_nodup (by rw [List.nil_append, List.map_map]; exact hnd), List.nil_append]

end
end Lw

namespace Lw
open PySem PySem.Spec PyProof.Rows L2 TP
section
variable {P : Program} {w : World} {K : PySem.W.Frag} {mg : Str → Option Value} {base : Heap}

def lstN (n : Str) : Int := if decide (V.str n = V.str "step") = true then 1 else 0
def dueA : Option Str → V
  | none => .non
  | some z => .str z
def kvS (kvs : List (Str × V)) : List (Key × V) := kvs.map fun q => (.inr q.1, q.2)
theorem kvS_at {kvs : List (Str × V)} {i : Nat} {q : Str × V} (h : kvs[i]? = some q) : (kvS kvs)[i]? = some (.inr q.1, q.2) := by
  unfold kvS
  rw [List.getElem?_map, h]
  rfl
def spAmiss (K : PySem.W.Frag) : Sp := fun vs H Q _ => ∃ (l : Addr) (kvs : List (Str × V)) (ds : List PyData), vs = [.ref l] ∧ H l = some (.dK (kvS kvs)) ∧ kvs.length ≤ 7 ∧ DrAll K (hid l H) (kvs.map (·.2)) ds ∧
  ∀ H', Evl.Ex H H' → Q (dueA (badOf (kvs.map fun q => (q.1, lstN q.1)) ds)) H'
theorem unlock {H H' : Hp} {l : Addr} {o : Obj} {u : HO} (hl : H l = some u) (e : Evl.Ex (upd H l (.frz o u)) H') : Evl.Ex H (upd H' l u) := fun b v hb => by
  by_cases h : b = l
  · rw [h] at hb ⊢
    rw [upd_same, ← hl, hb]
  · rw [upd_ne h]
    exact e _ _ (by rw [upd_ne h]; exact hb)
theorem ok_law_amiss (T : TX w K mg) : Gt P w K mg base CX0 1 "_law_amiss" ["_law_left_here"] (spAmiss K) := by
  refine gt_mk (D_law_amiss T) (g_law_amiss T) sc_law_amiss rfl (fun _ _ _ _ _ _ us hl => match us, hl with | [_], _ => rfl) (fun vs H Q E h => ?_) (fun f cdv A outer s H vs Q E hr h => ?_)
  · obtain ⟨l, kvs, ds, rfl, _⟩ := h
    rfl
  obtain ⟨l, kvs, ds, rfl, hl, hlen, hd, k⟩ := h
  refine ⟨_, (pss_cons (ps_lock (ps_for PassesOwn.never rfl (pi_items (pv 0)) (pg_tup (by rfl) (pgs_cons (pg_name (i := 1) sc_law_amiss.nd rfl (by first | exact Or.inl rfl | exact Or.inr rfl)) (pgs_cons (pg_name (i := 2) sc_law_amiss.nd rfl (by first | exact Or.inl rfl | exact Or.inr rfl)) pgs_nil)))
      (pss_one (ps_if (PW.pt (pw_or (pt_not (pt_val (pe_callB call_isi (by rfl) (f_isinstance T) (by decide +kernel) (pa_cons (pv 2) (pa_cons (pe_gty (n := "int") (f_int T) (by decide +kernel)) pa_nil))))) (pw_or (pt_val (pe_callB call_isi (by rfl) (f_isinstance T) (by decide +kernel) (pa_cons (pv 2) (pa_cons (pe_gty (n := "bool") (f_bool T) (by decide +kernel)) pa_nil)))) (pw_or1 (pt_cmpR op_lt (pv 2) (pe_callTy call_int1 (by rfl) (f_int T) (by decide +kernel) (pa_cons (pe_cmpR op_eq (pv 1) pe_str (nomark _)) pa_nil)) (nomark _))))))
      (pss_one (ps_ret (pv 1)))
      pss_nil))))
    (pss_one (ps_ret pe_non))), ?_⟩
  have hlk : (kvS kvs).length = kvs.length := List.length_map ..
  have hds := hd.len
  rw [List.length_map] at hds
  refine ⟨l, _, hl, trivial, fun od => ?_⟩
  generalize hH : upd H l _ = H0
  have hl0 : H0 l = some (.frz od (.dK (kvS kvs))) := by rw [← hH]; exact upd_same
  have fin : ∀ {H' : Hp}, Evl.Ex H0 H' → Evl.Ex H (upd H' l (.dK (kvS kvs))) := fun e => unlock (o := od) hl (by rw [hH]; exact e)
  have hd0 : DrAll K H0 (kvs.map (·.2)) ds := DrAll.ex (fun b o hb => by
    have n : b ≠ l := fun z => by
      rw [z, hid_same] at hb
      cases hb
    rw [← hH, upd_ne n]
    rw [hid_ne n] at hb
    exact hb) _ _ hd
  clear hH hd
  refine ⟨_, rfl, l, od, _, rfl, hl0, for_it (walk_items (d := l) (o := od) (kvs := kvS kvs)) (fun i σ H' => (∃ u1 u2 : Option V, σ = [some (.ref l), u1, u2]) ∧ Evl.Ex H0 H' ∧ badOf (kvs.map fun q => (q.1, lstN q.1)) ds = badOf ((kvs.map fun q => (q.1, lstN q.1)).drop i) (ds.drop i))
    ⟨⟨_, _, rfl⟩, Evl.Ex.refl _, rfl⟩ (fun i σ H' _ q => q.2.1 _ _ hl0) ?_ ?_⟩
  · rintro i v σ H1 H2 hi ⟨⟨u1, u2, rfl⟩, e1, hb⟩ ⟨T', y1, y2, rfl, hT, rfl, hy1, hy2⟩
    rw [hlk] at hi
    obtain ⟨q, hq⟩ : ∃ q, kvs[i]? = some q := ⟨_, List.getElem?_eq_getElem hi⟩
    dsimp only at hy1 hy2
    rw [kvS_at hq] at hy1 hy2
    obtain rfl : V.str q.1 = y1 := Option.some.inj hy1
    obtain rfl : q.2 = y2 := Option.some.inj hy2
    obtain ⟨d, hd1, hd2⟩ := DrAll.at (i := i) (x := q.2) hd0 (by rw [List.getElem?_map, hq]; rfl)
    have hst := bad_step (ks := kvs.map fun q => (q.1, lstN q.1)) (ds := ds) (i := i) (z := q.1) (l := lstN q.1) (by rw [List.getElem?_map, hq]; rfl) hd1
    have x2 : Evl.Ex H1 _ := Evl.Ex.new (o := .tup [V.str q.1, q.2]) hT
    have hd3 := Dr.ex (e1.trans x2) _ _ hd2
    have hl2 := (e1.trans x2) _ _ hl0
    have kret : isFromD d (lstN q.1) = false → Q (.str q.1) (upd (upd H1 T' (.tup [V.str q.1, q.2])) l (.dK (kvS kvs))) := fun hf => by
      have := k _ (fin (e1.trans x2))
      rw [hb, hst, hf] at this
      exact this
    refine ⟨T', _, rfl, SqT.of upd_same, rfl, _, _, rfl, _, _, rfl, rfl, ?_⟩
    refine ⟨_, rfl, q.2, _, _, _, _, rfl, .ty "int", hd3.ty, kit_int d, _, rfl, ite2 (fun b1 => ?_) (fun b1 => ?_)⟩
    · have hf : isFromD d (lstN q.1) = false := by
        cases d <;> first | rfl | (exfalso; simp [tyN] at b1)
      exact ⟨_, rfl, hl2, kret hf⟩
    · refine ⟨_, rfl, q.2, _, _, _, _, rfl, .ty "bool", hd3.ty, kit_thing d, _, rfl, ite2 (fun b2 => ?_) (fun b2 => ?_)⟩
      · have hf : isFromD d (lstN q.1) = false := by
          cases d <;> first | rfl | (exfalso; simp [tyN] at b2)
        exact ⟨_, rfl, hl2, kret hf⟩
      · obtain ⟨j, rfl, hq2⟩ : ∃ j, d = .int j ∧ q.2 = .int j := by
          clear hst kret hl2 x2 hy2 hd2
          generalize q.2 = v2 at hd3
          cases hd3 with
          | int j => exact ⟨j, rfl, rfl⟩
          | _ => exfalso; simp [tyN] at b1 b2
        rw [hq2]
        refine ⟨_, rfl, _, rfl, rfl, .inr ⟨_, rfl, _, _, rfl, rfl, _, rfl, ite2 (fun b3 => ?_) (fun b3 => ?_)⟩⟩
        · have b3' : j < lstN q.1 := of_decide_eq_true b3
          have hf : isFromD (.int j) (lstN q.1) = false := decide_eq_false (by omega)
          rw [← hq2]
          exact ⟨_, rfl, hl2, kret hf⟩
        · have b3' : ¬ j < lstN q.1 := fun z => b3 (decide_eq_true z)
          have hf : isFromD (.int j) (lstN q.1) = true := decide_eq_true (by omega)
          refine ⟨⟨_, _, rfl⟩, ?_, ?_⟩
          · rw [← hq2]
            exact e1.trans x2
          · rw [hb, hst, hf]
            rfl
  · rintro σ H1 ⟨⟨u1, u2, rfl⟩, e1, hb⟩
    refine ⟨e1 _ _ hl0, ?_⟩
    have := k _ (fin e1)
    rw [hb, hlk, hds, List.drop_length] at this
    have e2 : badOf ((kvs.map fun q => (q.1, lstN q.1)).drop ds.length) [] = none := by
      cases (kvs.map fun q => (q.1, lstN q.1)).drop ds.length <;> rfl
    rw [e2] at this
    exact this
def toldD (ds : List PyData) : PyData := match badOf LSl ds with
  | none => .tuple ds
  | some z => .str z
def spTold (K : PySem.W.Frag) : Sp := fun vs H Q _ => ∃ (t : Addr) (u0 u1 u2 u3 u4 u5 u6 : V) (d0 d1 d2 d3 d4 d5 d6 : PyData), vs = [.ref t] ∧ H t = some (.dK (kvOf u0 u1 u2 u3 u4 u5 u6)) ∧ DrAll K H [u0, u1, u2, u3, u4, u5, u6] [d0, d1, d2, d3, d4, d5, d6] ∧
  ∀ v H', Evl.Ex H H' → Dr K H' v (toldD (eff (.int 0) (.int 1) (isTx d0 "out") (isTx d6 "out") d0 d1 d2 d3 d4 d5 d6)) → Q v H'
theorem kitAny2 {K : PySem.W.Frag} {t c1 c2 : Value} (h1 : PySem.W.kitOne K t c1 = some false) (h2 : PySem.W.kitOne K t c2 = some false) : PySem.W.kitAny K t [c1, c2] = some false := by
  unfold PySem.W.kitAny
  rw [h1]
  show PySem.W.kitAny K t [c2] = some false
  unfold PySem.W.kitAny
  rw [h2]
  rfl
theorem eff_dr {K : PySem.W.Frag} {H : Hp} {u0 u1 u2 u3 u4 u5 u6 : V} {d0 d1 d2 d3 d4 d5 d6 : PyData} (s b : Bool) (hd : DrAll K H [u0, u1, u2, u3, u4, u5, u6] [d0, d1, d2, d3, d4, d5, d6]) :
    DrAll K H (eff (.int 0) (.int 1) s b u0 u1 u2 u3 u4 u5 u6) (eff (.int 0) (.int 1) s b d0 d1 d2 d3 d4 d5 d6) := by
  cases hd with
  | cons r0 hd =>
  cases hd with
  | cons r1 hd =>
  cases hd with
  | cons r2 hd =>
  cases hd with
  | cons r3 hd =>
  cases hd with
  | cons r4 hd =>
  cases hd with
  | cons r5 hd =>
  cases hd with
  | cons r6 hd =>
  have z0 : Dr K H (.int 0) (.int 0) := .int 0
  have z1 : Dr K H (.int 1) (.int 1) := .int 1
  cases s <;> cases b
  · exact .cons r0 (.cons r1 (.cons r2 (.cons r3 (.cons r4 (.cons r5 (.cons r6 .nil))))))
  · exact .cons r0 (.cons z0 (.cons r2 (.cons z0 (.cons z0 (.cons z0 (.cons z0 .nil))))))
  · exact .cons z0 (.cons r1 (.cons z1 (.cons r3 (.cons r4 (.cons r5 (.cons r6 .nil))))))
  · exact .cons z0 (.cons r1 (.cons r2 (.cons r3 (.cons r4 (.cons r5 (.cons z0 .nil))))))
theorem ok_law_told (T : TX w K mg) : Gt P w K mg base CX0 6 "_law_told" ["_law_told_here"] (spTold K) := by
  refine gt_mk (D_law_told T) (g_law_told T) sc_law_told rfl (fun _ _ _ _ _ _ us hl => match us, hl with | [_], _ => rfl) (fun vs H Q E h => ?_) (fun f cdv A outer s H vs Q E hr h => ?_)
  · obtain ⟨t, u0, u1, u2, u3, u4, u5, u6, d0, d1, d2, d3, d4, d5, d6, rfl, _⟩ := h
    rfl
  obtain ⟨t, u0, u1, u2, u3, u4, u5, u6, d0, d1, d2, d3, d4, d5, d6, rfl, ht, hd, k⟩ := h
  refine ⟨_, (pss_cons (ps_try_as1 (i := 2) rfl rfl sc_law_told.nd rfl rfl ⟨rfl, by decide, .inl (g_NoRule T)⟩ (fun W pn xe tk pw => (pss_one (ps_set (i := 1) sc_law_told.nd rfl (by first | exact Or.inl rfl | exact Or.inr rfl) ((ok_law_made T).peS (hr.mono (by decide)) (fun σ => passAt tk σ) (pa_cons (pv 0) pa_nil)))))
      (fun a_ oe_ cls_ d_ pn_ hz_ hf_ => (pss_one (ps_ret (pe_ifExp (PW.pt (pw_or (pt_val (pe_callB (call_isCT hz_ hf_) (by rfl) (f_isinstance T) (by decide +kernel) (pa_cons (pv 2) (pa_cons (pe_tup (pa_cons (pe_gref (g_NoLand T)) (pa_cons (pe_gref (g_NoScan T)) pa_nil))) pa_nil)))) (pw_or1 (pt_not (pt_val (pe_callB (call_isC hz_ hf_) (by rfl) (f_isinstance T) (by decide +kernel) (pa_cons (pv 2) (pa_cons (pe_gty (n := "ValueError") (f_ValueError T) (by decide +kernel)) pa_nil)))))))) pe_str (pe_xf (TP.ExcC.xf (xc_NoRule T)) (nf_NoRule_at T) hz_ hf_ (pv 2)))))))
    (pss_one (ps_ret (pe_tup (pa_cons (pe_fld (pv 1) rfl) (pa_cons (pe_fld (pv 1) rfl) (pa_cons (pe_fld (pv 1) rfl) (pa_cons (pe_fld (pv 1) rfl) (pa_cons (pe_fld (pv 1) rfl) (pa_cons (pe_fld (pv 1) rfl) (pa_cons (pe_fld (pv 1) rfl) pa_nil))))))))))), ?_⟩
  have he := eff_dr (isTx d0 "out") (isTx d6 "out") hd
  refine ⟨_, rfl, t, u0, u1, u2, u3, u4, u5, u6, d0, d1, d2, d3, d4, d5, d6, rfl, ht, hd, fun hb a dx H1 ex ha => ?_, fun z hb dd H1 ex hdd => ⟨?_, fun a na => ?_⟩⟩
  · have hk : ∀ v H', Evl.Ex H H' → Dr K H' v (.tuple (eff (.int 0) (.int 1) (isTx d0 "out") (isTx d6 "out") d0 d1 d2 d3 d4 d5 d6)) → Q v H' := fun v H' e r => k v H' e (by unfold toldD; rw [hb]; exact r)
    obtain ⟨e0, e1, e2, e3, e4, e5, e6, hE⟩ : ∃ e0 e1 e2 e3 e4 e5 e6 : V, eff (.int 0) (.int 1) (isTx d0 "out") (isTx d6 "out") u0 u1 u2 u3 u4 u5 u6 = [e0, e1, e2, e3, e4, e5, e6] := by
      cases isTx d0 "out" <;> cases isTx d6 "out" <;> exact ⟨_, _, _, _, _, _, _, rfl⟩
    rw [hE] at ha he
    have C := cl_Rule T
    refine ⟨_, rfl, a, _, dx, _, _, rfl, ha, C, na_Rule_since T, rfl, _, rfl, a, _, dx, _, _, rfl, ha, C, na_Rule_base T, rfl, _, rfl, a, _, dx, _, _, rfl, ha, C, na_Rule_step T, rfl, _, rfl, a, _, dx, _, _, rfl, ha, C, na_Rule_more T, rfl, _, rfl, a, _, dx, _, _, rfl, ha, C, na_Rule_leg T, rfl, _, rfl, a, _, dx, _, _, rfl, ha, C, na_Rule_kept T, rfl, _, rfl, a, _, dx, _, _, rfl, ha, C, na_Rule_back T, rfl, (by show 7 ≤ sizeLine; decide), fun p hp => ?_⟩
    generalize hH_ : upd H1 p _ = H2
    have x2 : Evl.Ex H1 H2 := (by rw [← hH_]; exact Evl.Ex.new hp)
    have g2 := (congrFun hH_ p).symm
    rw [upd_same] at g2
    clear hH_
    exact hk _ H2 (ex.trans x2) (.tup (SqT.of g2) (DrAll.ex (ex.trans x2) _ _ he))
  · exact exmB2_ok (xt T) (x := "NoRule") (y := "NoRule") (by decide +kernel) (by decide +kernel)
  · refine ⟨_, rfl, (by show 2 ≤ sizeLine; decide), fun p hp => ?_⟩
    generalize hH_ : upd H1 p _ = H2
    have x2 : Evl.Ex H1 H2 := (by rw [← hH_]; exact Evl.Ex.new hp)
    have g2 := (congrFun hH_ p).symm
    rw [upd_same] at g2
    clear hH_
    have hd2 := x2 _ _ hdd
    refine ⟨_, dd, p, _, _, [_, _], false, rfl, rfl, rfl, hd2, g2, .cons (.own _) (.cons (.own _) .nil), xc_NoRule T, kitAny2 (kitB2_ok (kt T) (x := "NoRule") (y := "NoLand") (by decide +kernel) (by decide +kernel)) (kitB2_ok (kt T) (x := "NoRule") (y := "NoScan") (by decide +kernel) (by decide +kernel)), _, rfl, iteF ?_⟩
    refine ⟨_, rfl, _, dd, _, _, _, true, rfl, rfl, rfl, hd2, .ty "ValueError", xc_NoRule T, of_decide_eq_true (List.all_eq_true.mp (kv T) "NoRule" (by decide +kernel)), _, rfl, iteF ?_⟩
    refine ⟨_, rfl, rfl, rfl, dd, _, _, rfl, hd2, rfl, k _ H2 (ex.trans x2) ?_⟩
    unfold toldD
    rw [hb]
    exact .str z

end
end Lw

namespace Lw
open PySem PySem.Spec PyProof.Rows L2 TP
section
variable {P : Program} {w : World} {K : PySem.W.Frag} {mg : Str → Option Value} {base : Heap}

theorem kv_nodup (u0 u1 u2 u3 u4 u5 u6 : V) : mergeK [] (kvOf u0 u1 u2 u3 u4 u5 u6) = kvOf u0 u1 u2 u3 u4 u5 u6 := by
  rw [mergeK_nodup]
  · rfl
  · show ([Sum.inr "since", Sum.inr "base", Sum.inr "step", Sum.inr "more", Sum.inr "leg", Sum.inr "kept", Sum.inr "back"] : List Key).Nodup
    decide +kernel
theorem put_st {K : PySem.W.Frag} {H : Hp} {u0 u1 u2 u3 u4 u5 u6 v : V} {d0 d1 d2 d3 d4 d5 d6 d : PyData} {n : Str} (hn : n ∈ NmT) (hd : DrAll K H [u0, u1, u2, u3, u4, u5, u6] [d0, d1, d2, d3, d4, d5, d6]) (hs : ∀ x ∈ [d0, d1, d2, d3, d4, d5, d6], Sz 300 1 x) (hv : Dr K H v d) (hz : Sz 300 1 d) :
    ∃ (w0 w1 w2 w3 w4 w5 w6 : V) (e0 e1 e2 e3 e4 e5 e6 : PyData), putK (kvOf u0 u1 u2 u3 u4 u5 u6) (.inr n) v = kvOf w0 w1 w2 w3 w4 w5 w6 ∧ DrAll K H [w0, w1, w2, w3, w4, w5, w6] [e0, e1, e2, e3, e4, e5, e6] ∧ ∀ x ∈ [e0, e1, e2, e3, e4, e5, e6], Sz 300 1 x := by
  cases hd with
  | cons r0 hd =>
  cases hd with
  | cons r1 hd =>
  cases hd with
  | cons r2 hd =>
  cases hd with
  | cons r3 hd =>
  cases hd with
  | cons r4 hd =>
  cases hd with
  | cons r5 hd =>
  cases hd with
  | cons r6 hd =>
  have s0 := hs d0 (by simp)
  have s1 := hs d1 (by simp)
  have s2 := hs d2 (by simp)
  have s3 := hs d3 (by simp)
  have s4 := hs d4 (by simp)
  have s5 := hs d5 (by simp)
  have s6 := hs d6 (by simp)
  simp only [NmT, List.mem_cons, List.not_mem_nil, or_false] at hn
  rcases hn with rfl | rfl | rfl | rfl | rfl | rfl | rfl
  · refine ⟨v, u1, u2, u3, u4, u5, u6, d, d1, d2, d3, d4, d5, d6, by kernel_rfl, (.cons hv (.cons r1 (.cons r2 (.cons r3 (.cons r4 (.cons r5 (.cons r6 .nil))))))), fun x hx => ?_⟩
    simp only [List.mem_cons, List.not_mem_nil, or_false] at hx
    rcases hx with rfl | rfl | rfl | rfl | rfl | rfl | rfl
    · exact hz
    · exact s1
    · exact s2
    · exact s3
    · exact s4
    · exact s5
    · exact s6
  · refine ⟨u0, v, u2, u3, u4, u5, u6, d0, d, d2, d3, d4, d5, d6, by kernel_rfl, (.cons r0 (.cons hv (.cons r2 (.cons r3 (.cons r4 (.cons r5 (.cons r6 .nil))))))), fun x hx => ?_⟩
    simp only [List.mem_cons, List.not_mem_nil, or_false] at hx
    rcases hx with rfl | rfl | rfl | rfl | rfl | rfl | rfl
    · exact s0
    · exact hz
    · exact s2
    · exact s3
    · exact s4
    · exact s5
    · exact s6
  · refine ⟨u0, u1, v, u3, u4, u5, u6, d0, d1, d, d3, d4, d5, d6, by kernel_rfl, (.cons r0 (.cons r1 (.cons hv (.cons r3 (.cons r4 (.cons r5 (.cons r6 .nil))))))), fun x hx => ?_⟩
    simp only [List.mem_cons, List.not_mem_nil, or_false] at hx
    rcases hx with rfl | rfl | rfl | rfl | rfl | rfl | rfl
    · exact s0
    · exact s1
    · exact hz
    · exact s3
    · exact s4
    · exact s5
    · exact s6
  · refine ⟨u0, u1, u2, v, u4, u5, u6, d0, d1, d2, d, d4, d5, d6, by kernel_rfl, (.cons r0 (.cons r1 (.cons r2 (.cons hv (.cons r4 (.cons r5 (.cons r6 .nil))))))), fun x hx => ?_⟩
    simp only [List.mem_cons, List.not_mem_nil, or_false] at hx
    rcases hx with rfl | rfl | rfl | rfl | rfl | rfl | rfl
    · exact s0
    · exact s1
    · exact s2
    · exact hz
    · exact s4
    · exact s5
    · exact s6
  · refine ⟨u0, u1, u2, u3, v, u5, u6, d0, d1, d2, d3, d, d5, d6, by kernel_rfl, (.cons r0 (.cons r1 (.cons r2 (.cons r3 (.cons hv (.cons r5 (.cons r6 .nil))))))), fun x hx => ?_⟩
    simp only [List.mem_cons, List.not_mem_nil, or_false] at hx
    rcases hx with rfl | rfl | rfl | rfl | rfl | rfl | rfl
    · exact s0
    · exact s1
    · exact s2
    · exact s3
    · exact hz
    · exact s5
    · exact s6
  · refine ⟨u0, u1, u2, u3, u4, v, u6, d0, d1, d2, d3, d4, d, d6, by kernel_rfl, (.cons r0 (.cons r1 (.cons r2 (.cons r3 (.cons r4 (.cons hv (.cons r6 .nil))))))), fun x hx => ?_⟩
    simp only [List.mem_cons, List.not_mem_nil, or_false] at hx
    rcases hx with rfl | rfl | rfl | rfl | rfl | rfl | rfl
    · exact s0
    · exact s1
    · exact s2
    · exact s3
    · exact s4
    · exact hz
    · exact s6
  · refine ⟨u0, u1, u2, u3, u4, u5, v, d0, d1, d2, d3, d4, d5, d, by kernel_rfl, (.cons r0 (.cons r1 (.cons r2 (.cons r3 (.cons r4 (.cons r5 (.cons hv .nil))))))), fun x hx => ?_⟩
    simp only [List.mem_cons, List.not_mem_nil, or_false] at hx
    rcases hx with rfl | rfl | rfl | rfl | rfl | rfl | rfl
    · exact s0
    · exact s1
    · exact s2
    · exact s3
    · exact s4
    · exact s5
    · exact hz
def leftW (u0 u1 u2 u3 u4 u5 u6 : V) (n : Str) : V := (valV (kvOf u0 u1 u2 u3 u4 u5 u6) (.inr n)).getD .non
theorem left_get (s b : Bool) (u0 u1 u2 u3 u4 u5 u6 : V) : (NmT.map fun n => (valV ((effN s b).map fun n => ((Sum.inr n : Key), leftW u0 u1 u2 u3 u4 u5 u6 n)) (.inr n)).getD (.int (lstN n))) = eff (.int 0) (.int 1) s b u0 u1 u2 u3 u4 u5 u6 := by
  cases s <;> cases b <;> kernel_rfl
def leftD {α : Type} (s b : Bool) (x0 x1 x2 x3 x4 x5 x6 : α) : List α :=
  match s, b with
  | true, true => [x1, x2, x3, x4, x5]
  | true, false => [x1, x3, x4, x5, x6]
  | false, true => [x0, x2]
  | false, false => [x0, x1, x2, x3, x4, x5, x6]
theorem left_vals (s b : Bool) (u0 u1 u2 u3 u4 u5 u6 : V) : (effN s b).map (leftW u0 u1 u2 u3 u4 u5 u6) = leftD s b u0 u1 u2 u3 u4 u5 u6 := by
  cases s <;> cases b <;> kernel_rfl
theorem left_bad (s b : Bool) (d0 d1 d2 d3 d4 d5 d6 : PyData) : badOf ((effN s b).map fun n => (n, lstN n)) (leftD s b d0 d1 d2 d3 d4 d5 d6) = badOf LSl (eff (.int 0) (.int 1) s b d0 d1 d2 d3 d4 d5 d6) := by
  have l1 : lstN "since" = 0 := by decide +kernel
  have l2 : lstN "base" = 0 := by decide +kernel
  have l3 : lstN "step" = 1 := by decide +kernel
  have l4 : lstN "more" = 0 := by decide +kernel
  have l5 : lstN "leg" = 0 := by decide +kernel
  have l6 : lstN "kept" = 0 := by decide +kernel
  have l7 : lstN "back" = 0 := by decide +kernel
  have z0 : isFromD (.int 0) 0 = true := rfl
  have z1 : isFromD (.int 1) 1 = true := rfl
  cases s <;> cases b <;> simp only [effN, NmT, leftD, eff, LSl, badOf, List.map_cons, List.map_nil, l1, l2, l3, l4, l5, l6, l7, z0, z1, if_true]
theorem left_dr {K : PySem.W.Frag} {H : Hp} {u0 u1 u2 u3 u4 u5 u6 : V} {d0 d1 d2 d3 d4 d5 d6 : PyData} (s b : Bool) (hd : DrAll K H [u0, u1, u2, u3, u4, u5, u6] [d0, d1, d2, d3, d4, d5, d6]) : DrAll K H (leftD s b u0 u1 u2 u3 u4 u5 u6) (leftD s b d0 d1 d2 d3 d4 d5 d6) := by
  cases hd with
  | cons r0 hd =>
  cases hd with
  | cons r1 hd =>
  cases hd with
  | cons r2 hd =>
  cases hd with
  | cons r3 hd =>
  cases hd with
  | cons r4 hd =>
  cases hd with
  | cons r5 hd =>
  cases hd with
  | cons r6 hd =>
  cases s <;> cases b
  · exact (.cons r0 (.cons r1 (.cons r2 (.cons r3 (.cons r4 (.cons r5 (.cons r6 .nil)))))))
  · exact (.cons r0 (.cons r2 .nil))
  · exact (.cons r1 (.cons r3 (.cons r4 (.cons r5 (.cons r6 .nil)))))
  · exact (.cons r1 (.cons r2 (.cons r3 (.cons r4 (.cons r5 .nil)))))
theorem eff_sz (s b : Bool) {d0 d1 d2 d3 d4 d5 d6 : PyData} (hs : ∀ x ∈ [d0, d1, d2, d3, d4, d5, d6], Sz 300 1 x) : ∀ x ∈ eff (.int 0) (.int 1) s b d0 d1 d2 d3 d4 d5 d6, Sz 300 1 x := by
  have i0 : Sz 300 1 (.int 0) := (Sz.int (by decide)).mono (by decide) (by decide)
  have i1 : Sz 300 1 (.int 1) := (Sz.int (by decide)).mono (by decide) (by decide)
  have s0 := hs d0 (by simp)
  have s1 := hs d1 (by simp)
  have s2 := hs d2 (by simp)
  have s3 := hs d3 (by simp)
  have s4 := hs d4 (by simp)
  have s5 := hs d5 (by simp)
  have s6 := hs d6 (by simp)
  intro x hx
  cases s <;> cases b <;> simp only [eff, List.mem_cons, List.not_mem_nil, or_false] at hx <;> rcases hx with rfl | rfl | rfl | rfl | rfl | rfl | rfl <;> assumption
theorem told_sz (s b : Bool) {d0 d1 d2 d3 d4 d5 d6 : PyData} (hs : ∀ x ∈ [d0, d1, d2, d3, d4, d5, d6], Sz 300 1 x) : Sz 10000 2 (toldD (eff (.int 0) (.int 1) s b d0 d1 d2 d3 d4 d5 d6)) := by
  unfold toldD
  split
  · exact (Sz.tup (n := 7) (eff_sz s b hs) (by cases s <;> cases b <;> exact Nat.le_refl _)).mono (by decide) (by decide)
  · rename_i z hz
    have h : ∀ (ks : List (Str × Int)) (ds : List PyData), badOf ks ds = some z → z ∈ ks.map (·.1) := by
      intro ks
      induction ks with
      | nil =>
        intro ds h
        cases h
      | cons q ks ih =>
        intro ds h
        cases ds with
        | nil => cases h
        | cons d ds =>
          obtain ⟨n, l⟩ := q
          by_cases e : isFromD d l = true
          · rw [badOf, if_pos e] at h
            exact List.mem_cons_of_mem _ (ih ds h)
          · rw [badOf, if_neg e] at h
            rw [← Option.some.inj h]
            exact List.mem_cons_self ..
    have hA : ∀ n ∈ NmT, As 10 n := by
      intro n hn
      have h1 : ∀ n ∈ NmT, n.length ≤ 10 ∧ ∀ c ∈ n.cps.toList, c < 128 := by decide +kernel
      exact ⟨(h1 n hn).1, (h1 n hn).2⟩
    exact (Sz.str (hA z (h LSl _ hz))).mono (by decide) (by decide)

end
end Lw

namespace Lw
open PySem PySem.Spec PyProof.Rows L2 TP
section
variable {P : Program} {w : World} {K : PySem.W.Frag} {mg : Str → Option Value} {base : Heap}

/-- the state of the making -/
structure St3 (K : PySem.W.Frag) (w1 t nm l : Addr) (cs : List V) (n : Nat) (H : Hp) (u0 u1 u2 u3 u4 u5 u6 : V) (d0 d1 d2 d3 d4 d5 d6 : PyData) : Prop where
  ht : H t = some (.dK (kvOf u0 u1 u2 u3 u4 u5 u6))
  hd : DrAll K (hid t (hid w1 H)) [u0, u1, u2, u3, u4, u5, u6] [d0, d1, d2, d3, d4, d5, d6]
  hs : ∀ x ∈ [d0, d1, d2, d3, d4, d5, d6], Sz 300 1 x
  hw : Wl H w1 n
  hl : H l = some (.lst cs)
  hm : H nm = some (.lst (NmT.map V.str))
def StE (K : PySem.W.Frag) (w1 t nm l : Addr) (cs : List V) (n : Nat) (H : Hp) : Prop := ∃ (u0 u1 u2 u3 u4 u5 u6 : V) (d0 d1 d2 d3 d4 d5 d6 : PyData), St3 K w1 t nm l cs n H u0 u1 u2 u3 u4 u5 u6 d0 d1 d2 d3 d4 d5 d6
structure Nes (w1 t nm l : Addr) : Prop where
  tw : t ≠ w1
  lw : l ≠ w1
  mw : nm ≠ w1
  lt : l ≠ t
  mt : nm ≠ t
theorem StE.dn {K : PySem.W.Frag} {w1 t nm l : Addr} {cs : List V} {n m : Nat} {H H' : Hp} (N : Nes w1 t nm l) (h : StE K w1 t nm l cs n H) (D : Dn w1 m H H') : StE K w1 t nm l cs m H' := by
  obtain ⟨u0, u1, u2, u3, u4, u5, u6, d0, d1, d2, d3, d4, d5, d6, h⟩ := h
  exact ⟨_, _, _, _, _, _, _, _, _, _, _, _, _, _, ⟨D.k _ _ N.tw h.ht, DrAll.ex (Ex.hid D.hx) _ _ h.hd, h.hs, D.wl, D.k _ _ N.lw h.hl, D.k _ _ N.mw h.hm⟩⟩
theorem hid_put {a b : Addr} {H : Hp} {o : HO} : hid b (hid a (upd H b o)) = hid b (hid a H) := by
  funext c
  by_cases h : c = b
  · rw [h, hid_same, hid_same]
  · rw [hid_ne h, hid_ne h]
    by_cases g : c = a
    · rw [g, hid_same, hid_same]
    · rw [hid_ne g, hid_ne g, upd_ne h]
theorem StE.put {K : PySem.W.Frag} {w1 t nm l : Addr} {cs : List V} {n : Nat} {H : Hp} {v : V} {d : PyData} {z : Str} (N : Nes w1 t nm l) (h : StE K w1 t nm l cs n H) (hz : z ∈ NmT) (r : Dr K (hid t (hid w1 H)) v d) (s : Sz 300 1 d) :
    ∃ kvs, H t = some (.dK kvs) ∧ kvs.length < sizeLine ∧ StE K w1 t nm l cs n (upd H t (.dK (putK kvs (.inr z) v))) := by
  obtain ⟨u0, u1, u2, u3, u4, u5, u6, d0, d1, d2, d3, d4, d5, d6, h⟩ := h
  refine ⟨_, h.ht, (by show 7 < sizeLine; rw [sizeLine_eq]; decide), ?_⟩
  obtain ⟨w0, w1', w2, w3, w4, w5, w6, e0, e1, e2, e3, e4, e5, e6, q1, q2, q3⟩ := put_st hz h.hd h.hs r s
  rw [q1]
  refine ⟨_, _, _, _, _, _, _, _, _, _, _, _, _, _, ⟨upd_same, by rw [hid_put]; exact q2, q3, ?_, by rw [upd_ne N.lt]; exact h.hl, by rw [upd_ne N.mt]; exact h.hm⟩⟩
  obtain ⟨x, y, c, e, q⟩ := h.hw
  exact ⟨x, y, c, by rw [upd_ne (Ne.symm N.tw)]; exact e, q⟩
theorem l01 (z : Str) : lstN z = 0 ∨ lstN z = 1 := by
  unfold lstN
  split
  · exact .inr rfl
  · exact .inl rfl
theorem nm_of {v : V} (h : v ∈ NmT.map V.str) : ∃ z ∈ NmT, v = .str z := by
  obtain ⟨z, h1, h2⟩ := List.mem_map.mp h
  exact ⟨z, h1, h2.symm⟩
theorem body_law (T : TX w K mg) (base : Heap) : BodyOkG P w K mg base 8 ["_law_script", "_law_cell", "_law_well_here", "_law_names", "_law_told_here", "_law_name", "_law_k", "_law_left_here", "_law_due", "_law_rule", "_law_found"] d_law (spLaw K) := by
  intro f cdv A outer s H vs Q E hg hr h
  obtain ⟨a, ns, rfl, hS, h63, hbits, k⟩ := h
  refine ⟨_, (pss_cons (ps_for PassesOwn.never rfl (pi_list (pe_op op_cat (pe_slice sl_list (pv 0) po_none (po_some pe_int)) (pe_lst (pa_cons pe_int (pa_cons pe_int pa_nil))))) (pg_name (i := 1) sc_law.nd rfl (by first | exact Or.inl rfl | exact Or.inr rfl))
      (pss_cons (ps_set (i := 2) sc_law.nd rfl (by first | exact Or.inl rfl | exact Or.inr rfl) ((ok_well T).pe (hr.mono (by decide)) (pa_cons (pv 1) pa_nil)))
    (pss_cons (ps_set (i := 3) sc_law.nd rfl (by first | exact Or.inl rfl | exact Or.inr rfl) (pe_lst (pa_cons pe_str (pa_cons pe_str (pa_cons pe_str (pa_cons pe_str (pa_cons pe_str (pa_cons pe_str (pa_cons pe_str pa_nil)))))))))
    (pss_cons (ps_set (i := 4) sc_law.nd rfl (by first | exact Or.inl rfl | exact Or.inr rfl) (pe_callTy (call_dictP rfl) (by rfl) (f_dict T) (by decide +kernel) (pa_cons (pe_lc (own := [("_law_name", 5)]) (g := gName 5) (tt := tYes) rfl sc_law.nd (pi_list (pv 3)) (blkOk_by (N := ["_law_script", "_law_cell", "_law_well_here", "_law_names", "_law_told_here", "_law_name", "_law_k", "_law_left_here", "_law_due", "_law_rule", "_law_found"]) (sc := defScope s_law) (by decide +kernel)) (fun _ _ _ _ _ => (pg_name (i := 5) sc_law.nd rfl (by first | exact Or.inl rfl | exact Or.inr rfl))) (fun _ _ _ _ _ => pts_nil) (fun _ _ _ _ _ => (pe_tup (pa_cons (pv 5) (pa_cons ((ok_num60 T).pe (hr.mono (by decide)) (pa_cons (pv 2) (pa_cons (pe_callTy call_int1 (by rfl) (f_int T) (by decide +kernel) (pa_cons (pe_cmpR op_eq (pv 5) pe_str (nomark _)) pa_nil)) pa_nil))) pa_nil))))) pa_nil)))
    (pss_cons (ps_for PassesOwn.never rfl (pi_range1 (by rfl) (f_range T) (pa_cons ((ok_draw T).pe (hr.mono (by decide)) (pa_cons (pv 2) (pa_cons pe_int pa_nil))) pa_nil)) (pg_name (i := 6) sc_law.nd rfl (by first | exact Or.inl rfl | exact Or.inr rfl))
      (pss_cons (ps_set (i := 5) sc_law.nd rfl (by first | exact Or.inl rfl | exact Or.inr rfl) ((ok_one T).pe (hr.mono (by decide)) (pa_cons (pv 2) (pa_cons (pv 3) pa_nil))))
    (pss_one (ps_dput (hu_of hr) (pv 4) (pv 5) ((ok_law_odd T).pe (hr.mono (by decide)) (pa_cons (pv 2) (pa_cons (pe_callTy call_int1 (by rfl) (f_int T) (by decide +kernel) (pa_cons (pe_cmpR op_eq (pv 5) pe_str (nomark _)) pa_nil)) pa_nil))) rfl))))
    (pss_cons (ps_for PassesOwn.never rfl (pi_list (pe_lst (pa_cons pe_str (pa_cons pe_str pa_nil)))) (pg_name (i := 5) sc_law.nd rfl (by first | exact Or.inl rfl | exact Or.inr rfl))
      (pss_one (ps_if (pt_cmpR op_eq ((ok_draw T).pe (hr.mono (by decide)) (pa_cons (pv 2) (pa_cons pe_int pa_nil))) pe_int (nomark _))
      (pss_one (ps_dput (hu_of hr) (pv 4) (pv 5) pe_str rfl))
      pss_nil)))
    (pss_cons (ps_set (i := 7) sc_law.nd rfl (by first | exact Or.inl rfl | exact Or.inr rfl) ((ok_law_left T).pe (hr.mono (by decide)) (pa_cons (pv 4) pa_nil)))
    (pss_cons (ps_set (i := 8) sc_law.nd rfl (by first | exact Or.inl rfl | exact Or.inr rfl) ((ok_law_amiss T).pe (hr.mono (by decide)) (pa_cons (pv 7) pa_nil)))
    (pss_cons (ps_if (pt_cmpR op_isN (pv 8) pe_non (nomark _))
      (pss_one (ps_set (i := 8) sc_law.nd rfl (by first | exact Or.inl rfl | exact Or.inr rfl) (pe_callTy call_tuple_of (by rfl) (f_tuple T) (by decide +kernel) (pa_cons (pe_lc (own := [("_law_name", 5)]) (g := gName 5) (tt := tYes) rfl sc_law.nd (pi_list (pv 3)) (blkOk_by (N := ["_law_script", "_law_cell", "_law_well_here", "_law_names", "_law_told_here", "_law_name", "_law_k", "_law_left_here", "_law_due", "_law_rule", "_law_found"]) (sc := defScope s_law) (by decide +kernel)) (fun _ _ _ _ _ => (pg_name (i := 5) sc_law.nd rfl (by first | exact Or.inl rfl | exact Or.inr rfl))) (fun _ _ _ _ _ => pts_nil) (fun _ _ _ _ _ => (pe_dget2 (hu_of hr) (pv 7) (pv 5) (pe_callTy call_int1 (by rfl) (f_int T) (by decide +kernel) (pa_cons (pe_cmpR op_eq (pv 5) pe_str (nomark _)) pa_nil)) ⟨by rfl, by rfl, by rfl, by rfl⟩))) pa_nil))))
      pss_nil)
    (pss_one (ps_if (pt_cmpR op_ne (pe_callB (call_reprG (sysK T) hg hr.units) (by rfl) (f_repr T) (by decide +kernel) (pa_cons ((ok_law_told T).pe (hr.mono (by decide)) (pa_cons (pv 4) pa_nil)) pa_nil)) (pe_callB (call_reprG (sysK T) hg hr.units) (by rfl) (f_repr T) (by decide +kernel) (pa_cons (pv 8) pa_nil)) (nomark _))
      (pss_one (ps_ret pe_bl))
      pss_nil)))))))))))
    (pss_cons (ps_set (i := 9) sc_law.nd rfl (by first | exact Or.inl rfl | exact Or.inr rfl) (GtF.make0 (ok_Rule_init T).no kb_Rule_init_1 (mk_Rule T) (g_Rule T) (hr.mono (by decide)) pass0))
    (pss_cons (ps_set (i := 10) sc_law.nd rfl (by first | exact Or.inl rfl | exact Or.inr rfl) (pe_tup (pa_cons (pe_fld (pv 9) rfl) (pa_cons (pe_fld (pv 9) rfl) (pa_cons (pe_fld (pv 9) rfl) (pa_cons (pe_fld (pv 9) rfl) (pa_cons (pe_fld (pv 9) rfl) (pa_cons (pe_fld (pv 9) rfl) (pa_cons (pe_fld (pv 9) rfl) pa_nil)))))))))
    (pss_one (ps_ret (pe_cmpR op_eq (pe_callB (call_reprG (sysK T) hg hr.units) (by rfl) (f_repr T) (by decide +kernel) (pa_cons (pv 10) pa_nil)) pe_str (nomark _))))))), ?_⟩
  refine ⟨_, rfl, _, rfl, a, _, rfl, hS, fun l1 hl1 => ⟨(by show 2 ≤ sizeLine; decide), fun l2 hl2 => ?_⟩⟩
  have n12 : l1 ≠ l2 := ne_of_none upd_same hl2
  refine ⟨l1, l2, _, _, rfl, rfl, Eq.trans (upd_ne n12) upd_same, upd_same, cells_len h63, fun l hl => ?_⟩
  refine ⟨l, rfl, ⟨_, SqL.of upd_same⟩, for_list (K := K) (a := l) (xs := cutV (ns.map V.int) none (some 16) ++ [.int 0, .int 1])
    (fun i σ H' => (∃ v1 v2 v3 v4 v5 v6 v7 v8 v9 v10 : Option V, σ = [some (.ref a), v1, v2, v3, v4, v5, v6, v7, v8, v9, v10]) ∧ H' l = some (.lst (cutV (ns.map V.int) none (some 16) ++ [.int 0, .int 1])))
    ⟨⟨_, _, _, _, _, _, _, _, _, _, rfl⟩, upd_same⟩ (fun i σ H' _ q => SqL.of q.2) ?_ ?_⟩
  rotate_left
  · rintro σ H' ⟨⟨v1, v2, v3, v4, v5, v6, v7, v8, v9, v10, rfl⟩, hl'⟩
    refine fun x dx hx hdx ndx => ⟨x, dx, _, _, _, _, _, _, _, [.int 0, .int 0, .int 1, .int 0, .int 0, .int 0, .int 0], rfl, .cons (.int _) (.cons (.int _) (.cons (.int _) (.cons (.int _) (.cons (.int _) (.cons (.int _) (.cons (.int _) .nil)))))), upd_same, fun _ H2 wk hx2 => ⟨rfl, ?_⟩, fun z hz => ?_⟩
    · have C := cl_Rule T
      refine ⟨_, rfl, x, _, dx, _, _, rfl, hx2, C, na_Rule_since T, rfl, _, rfl, x, _, dx, _, _, rfl, hx2, C, na_Rule_base T, rfl, _, rfl, x, _, dx, _, _, rfl, hx2, C, na_Rule_step T, rfl, _, rfl, x, _, dx, _, _, rfl, hx2, C, na_Rule_more T, rfl, _, rfl, x, _, dx, _, _, rfl, hx2, C, na_Rule_leg T, rfl, _, rfl, x, _, dx, _, _, rfl, hx2, C, na_Rule_kept T, rfl, _, rfl, x, _, dx, _, _, rfl, hx2, C, na_Rule_back T, rfl, (by show 7 ≤ sizeLine; decide), fun p hp => ?_⟩
      generalize hH_ : upd H2 p _ = H3
      have x3 : Evl.Ex H2 H3 := (by rw [← hH_]; exact Evl.Ex.new hp)
      have g3 := (congrFun hH_ p).symm
      rw [upd_same] at g3
      clear hH_
      refine ⟨_, rfl, _, .tuple [.int 0, .int 0, .int 1, .int 0, .int 0, .int 0, .int 0], rfl, .tup (SqT.of g3) (.cons (.int _) (.cons (.int _) (.cons (.int _) (.cons (.int _) (.cons (.int _) (.cons (.int _) (.cons (.int _) .nil))))))), by decide +kernel, by decide +kernel, by rw [sizeLine_eq]; decide +kernel, rfl, ?_⟩
      have e : decide (V.str (PyData.shown (.tuple [.int 0, .int 0, .int 1, .int 0, .int 0, .int 0, .int 0])) = V.str "(0, 0, 1, 0, 0, 0, 0)") = true := decide_eq_true (by rw [show PyData.shown (.tuple [.int 0, .int 0, .int 1, .int 0, .int 0, .int 0, .int 0]) = "(0, 0, 1, 0, 0, 0, 0)" by decide +kernel])
      rw [e]
      exact k H3
    · exfalso
      revert hz
      show badOf LSl _ = some z → False
      rw [show badOf LSl [.int 0, .int 0, .int 1, .int 0, .int 0, .int 0, .int 0] = none from rfl]
      intro hz
      cases hz
  rintro i x σ H0 hx ⟨⟨v1, v2, v3, v4, v5, v6, v7, v8, v9, v10, rfl⟩, hl0⟩
  obtain ⟨cell, rfl⟩ := cells_int hx
  generalize hcs : (cutV (ns.map V.int) none (some 16) ++ [.int 0, .int 1]) = cs at hl0 ⊢
  refine ⟨_, rfl, cell, rfl, fun w1 H1 hw1 W1 e1 => ?_⟩
  have nl : l ≠ w1 := ne_of_none hl0 hw1
  have hl1 := e1 _ _ hl0
  refine ⟨(by show 7 ≤ sizeLine; decide), fun nm hnm => ?_⟩
  have nmw : nm ≠ w1 := W1.nep hnm
  generalize hH_ : upd H1 nm _ = H2
  have x2 : Evl.Ex H1 H2 := (by rw [← hH_]; exact Evl.Ex.new hnm)
  have g2 := (congrFun hH_ nm).symm
  rw [upd_same] at g2
  clear hH_
  have gm : H2 nm = some (.lst (NmT.map V.str)) := g2
  have W2 := W1.ex x2
  first | refine nrmG (σ' := [_, _, _, _, _, _, _, _, _, _, _]) rfl ?_ | refine nrm (σ' := [_, _, _, _, _, _, _, _, _, _, _]) rfl ?_
  refine ⟨_, rfl, nm, rfl, ⟨_, SqL.of gm⟩, fun D hD => ?_⟩
  have nD : D ≠ w1 := W2.nep hD
  refine lc_acc (walk_list (K := K) (a := nm) (xs := NmT.map V.str)) (fun i acc H' => Dn w1 (2 * i) H2 H' ∧ ∃ qs : List (Addr × Int), acc = qs.map (fun q => V.ref q.1) ∧ qs.length = i ∧ ∀ j q n, qs[j]? = some q → NmT[j]? = some n → q.1 ≠ w1 ∧ H' q.1 = some (.tup [.str n, .int q.2]) ∧ 0 ≤ q.2 ∧ q.2 < 10 ^ 60)
    hD (by decide) (fun i acc H' q => by obtain ⟨_, qs, rfl, h, _⟩ := q; rw [List.length_map]; omega) ⟨⟨W2, Wk.refl _ _⟩, [], rfl, rfl, fun (j : Nat) q n h _ => nil_at h⟩ (fun i acc H' h1 q => SqL.of (hid_ex _ _ (q.1.k _ _ nmw gm))) (fun i x H3 H4 acc C N hi hD3 hI hy hc _ => ?_) (fun H3 acc hD3 hI => ?_)
  · obtain ⟨rfl, hv⟩ := hy
    obtain ⟨D3, qs, rfl, hql, hq⟩ := hI
    obtain ⟨n, hn, rfl⟩ : ∃ n, NmT[i]? = some n ∧ x = .str n := by
      rw [List.getElem?_map] at hv
      cases e : NmT[i]? with
      | none =>
        rw [e] at hv
        cases hv
      | some n =>
        rw [e] at hv
        exact ⟨n, rfl, (Option.some.inj hv).symm⟩
    have hi7 : i < 7 := hi
    refine ⟨rfl, yes_ok ?_⟩
    refine ⟨_, rfl, _, rfl, _, rfl, rfl, .inr ⟨_, rfl, w1, 2 * i, lstN n, rfl, Ex.wl hid_ex D3.wl, by omega, fun d H5 d0 d1 D5 => ?_⟩⟩
    refine ⟨(by show 2 ≤ sizeLine; decide), fun p hp => ?_⟩
    have np : p ≠ w1 := D5.wl.nep hp
    have hD5 := D5.k _ _ nD hD3
    have npD : p ≠ D := fun z => by
      rw [z, hD5] at hp
      cases hp
    generalize hH_ : upd H5 p _ = H6
    have x6 : Evl.Ex H5 H6 := (by rw [← hH_]; exact Evl.Ex.new hp)
    have g6 := (congrFun hH_ p).symm
    rw [upd_same] at g6
    clear hH_
    have l1 := l01 n
    have wk : Wk w1 (hid D H4) (hid D H6) := Wk.hid (D5.k.trans (Ex.wk w1 x6))
    refine hc _ _ (x6 _ _ hD5) ⟨⟨((D5.wl.ex x6).hid (Ne.symm nD)).mono (by omega), D3.k.trans wk⟩, qs ++ [(p, lstN n + d)], by rw [List.map_append]; rfl, by rw [List.length_append, hql]; rfl, fun j q n' h1 h2 => ?_⟩
    rcases snoc_at h1 with h | ⟨h, rfl⟩
    · obtain ⟨q1, q2, q3⟩ := hq j q n' h h2
      exact ⟨q1, wk _ _ q1 q2, q3⟩
    · have hj : j = i := by omega
      rw [hj, hn] at h2
      obtain rfl := Option.some.inj h2
      exact ⟨np, by rw [hid_ne npD]; exact g6, by show 0 ≤ lstN n + d; omega, by show lstN n + d < 10 ^ 60; omega⟩
  obtain ⟨D3, qs, rfl, hql, hq⟩ := hI
  obtain ⟨q0, q1, q2, q3, q4, q5, q6, rfl⟩ : ∃ q0 q1 q2 q3 q4 q5 q6, qs = [q0, q1, q2, q3, q4, q5, q6] := by
    have hq7 : qs.length = 7 := hql
    match qs, hq7 with
    | [a0, a1, a2, a3, a4, a5, a6], _ => exact ⟨a0, a1, a2, a3, a4, a5, a6, rfl⟩
  have p0 := hq 0 q0 _ rfl rfl
  have p1 := hq 1 q1 _ rfl rfl
  have p2 := hq 2 q2 _ rfl rfl
  have p3 := hq 3 q3 _ rfl rfl
  have p4 := hq 4 q4 _ rfl rfl
  have p5 := hq 5 q5 _ rfl rfl
  have p6 := hq 6 q6 _ rfl rfl
  refine ⟨D, [q0.1, q1.1, q2.1, q3.1, q4.1, q5.1, q6.1], kvOf (.int q0.2) (.int q1.2) (.int q2.2) (.int q3.2) (.int q4.2) (.int q5.2) (.int q6.2), rfl, SqL.of hD3, .cons (SqT.of (hid_ex _ _ p0.2.1)) (.cons (SqT.of (hid_ex _ _ p1.2.1)) (.cons (SqT.of (hid_ex _ _ p2.2.1)) (.cons (SqT.of (hid_ex _ _ p3.2.1)) (.cons (SqT.of (hid_ex _ _ p4.2.1)) (.cons (SqT.of (hid_ex _ _ p5.2.1)) (.cons (SqT.of (hid_ex _ _ p6.2.1)) .nil)))))), fun t ht => ?_⟩
  rw [kv_nodup]
  have W3 : Wl H3 w1 (2 * 7) := Ex.wl hid_ex D3.wl
  have hl3 : H3 l = some (.lst cs) := hid_ex _ _ (D3.k _ _ nl (x2 _ _ hl1))
  have hm3 : H3 nm = some (.lst (NmT.map V.str)) := hid_ex _ _ (D3.k _ _ nmw gm)
  have N : Nes w1 t nm l := ⟨W3.nep ht, nl, nmw, ne_of_none hl3 ht, ne_of_none hm3 ht⟩
  generalize hH_ : upd H3 t _ = H7
  have x7 : Evl.Ex H3 H7 := (by rw [← hH_]; exact Evl.Ex.new ht)
  have g7 := (congrFun hH_ t).symm
  rw [upd_same] at g7
  clear hH_
  have S7 : StE K w1 t nm l cs 14 H7 := ⟨_, _, _, _, _, _, _, .int q0.2, .int q1.2, .int q2.2, .int q3.2, .int q4.2, .int q5.2, .int q6.2, ⟨g7, .cons (.int _) (.cons (.int _) (.cons (.int _) (.cons (.int _) (.cons (.int _) (.cons (.int _) (.cons (.int _) .nil)))))), fun x hx => by
    have hz : ∀ {z : Int}, 0 ≤ z → z < 10 ^ 60 → Sz 300 1 (.int z) := fun h1 h2 => (Sz.int (by omega)).mono (by decide) (by decide)
    simp only [List.mem_cons, List.not_mem_nil, or_false] at hx
    rcases hx with rfl | rfl | rfl | rfl | rfl | rfl | rfl
    · exact hz p0.2.2.1 p0.2.2.2
    · exact hz p1.2.2.1 p1.2.2.2
    · exact hz p2.2.2.1 p2.2.2.2
    · exact hz p3.2.2.1 p3.2.2.2
    · exact hz p4.2.2.1 p4.2.2.2
    · exact hz p5.2.2.1 p5.2.2.2
    · exact hz p6.2.2.1 p6.2.2.2, W3.ex x7, x7 _ _ hl3, x7 _ _ hm3⟩⟩
  clear p0 p1 p2 p3 p4 p5 p6 hq D3 hD3 hl3 hm3 W3 g7 x7 ht
  first | refine nrmG (σ' := [_, _, _, _, _, _, _, _, _, _, _]) rfl ?_ | refine nrm (σ' := [_, _, _, _, _, _, _, _, _, _, _]) rfl ?_
  -- odd ones
  have W7 : Wl H7 w1 14 := by
    obtain ⟨_, _, _, _, _, _, _, _, _, _, _, _, _, _, h⟩ := S7
    exact h.hw
  refine ⟨_, rfl, w1, 14, 4, rfl, W7, by omega, by decide, by decide +kernel, fun d8 H8 d80 d81 D8 => ?_⟩
  refine ⟨_, rfl, (by show -(2 ^ 62) ≤ d8; omega), (by show d8 < 2 ^ 62; omega), for_range (lo := 0) (n := d8.toNat) (fun j σ H' => (∃ v5 v6 v7 v8 v9 v10 : Option V, σ = [some (.ref a), some (.int cell), some (.ref w1), some (.ref nm), some (.ref t), v5, v6, v7, v8, v9, v10]) ∧ StE K w1 t nm l cs (15 + 2 * j) H') ⟨⟨_, _, _, _, _, _, rfl⟩, S7.dn N D8⟩ ?_ ?_⟩
  · rintro j σ H9 hj ⟨⟨v5, v6, v7, v8, v9, v10, rfl⟩, S9⟩
    have hj4 : j < 4 := by omega
    have ⟨W9, m9⟩ : Wl H9 w1 (15 + 2 * j) ∧ H9 nm = some (.lst (NmT.map V.str)) := by
      obtain ⟨_, _, _, _, _, _, _, _, _, _, _, _, _, _, h⟩ := S9
      exact ⟨h.hw, h.hm⟩
    refine ⟨_, rfl, _, rfl, w1, nm, 15 + 2 * j, _, rfl, W9, by omega, SqL.of m9, nmw, (by show 0 < 7; decide), (by show 7 ≤ 1000000; decide), fun v HA hv DA => ?_⟩
    obtain ⟨z, hz, rfl⟩ := nm_of hv
    have SA := S9.dn N DA
    refine ⟨_, rfl, _, rfl, rfl, .inr ⟨_, rfl, w1, _, lstN z, rfl, DA.wl, by omega, l01 z, fun u d HB rB sB DB => ?_⟩⟩
    have SB := SA.dn N DB
    have htA : ∃ o, HA t = some o := by
      obtain ⟨_, _, _, _, _, _, _, _, _, _, _, _, _, _, h⟩ := SA
      exact ⟨_, h.ht⟩
    obtain ⟨ot, htA⟩ := htA
    obtain ⟨ow, hwA⟩ := DA.wl.some
    have rB' : Dr K (hid t (hid w1 HB)) u d := Dr.ex (nw_hid (nw_hid nw_ex hwA) htA) _ _ rB
    obtain ⟨kvs, k1, k2, k3⟩ := SB.put N hz rB' sB
    refine ⟨_, rfl, _, rfl, t, _, rfl, DPut.k (k := .inr z) k1 k2, ⟨_, _, _, _, _, _, rfl⟩, ?_⟩
    exact k3
  rintro σ H9 ⟨⟨v5, v6, v7, v8, v9, v10, rfl⟩, S9⟩
  have hd8 : d8.toNat ≤ 4 := by omega
  -- left out
  refine ⟨(by show 2 ≤ sizeLine; decide), fun lo hlo => ?_⟩
  have ⟨low, lot⟩ : lo ≠ w1 ∧ lo ≠ t := by
    obtain ⟨_, _, _, _, _, _, _, _, _, _, _, _, _, _, h⟩ := S9
    exact ⟨h.hw.nep hlo, Ne.symm (ne_of_none h.ht hlo)⟩
  have S9' : StE K w1 t nm l cs 23 (upd H9 lo (.lst [.str "since", .str "back"])) := S9.dn N ⟨by
    obtain ⟨_, _, _, _, _, _, _, _, _, _, _, _, _, _, h⟩ := S9
    exact (h.hw.new hlo).mono (by omega), Wk.new (Wk.refl _ _) hlo⟩
  refine ⟨lo, rfl, ⟨_, SqL.of upd_same⟩, for_list (K := K) (a := lo) (xs := [.str "since", .str "back"]) (fun j σ H' => (∃ v5 v6 v7 v8 v9 v10 : Option V, σ = [some (.ref a), some (.int cell), some (.ref w1), some (.ref nm), some (.ref t), v5, v6, v7, v8, v9, v10]) ∧ StE K w1 t nm l cs (23 + j) H' ∧ H' lo = some (.lst [.str "since", .str "back"])) ⟨⟨_, _, _, _, _, _, rfl⟩, S9', upd_same⟩ (fun j σ H' _ q => SqL.of q.2.2) ?_ ?_⟩
  · rintro j y σ HA hy ⟨⟨v5, v6, v7, v8, v9, v10, rfl⟩, SA, hlA⟩
    obtain ⟨z, hz, rfl⟩ : ∃ z ∈ NmT, y = .str z := by
      have h := List.mem_of_getElem? hy
      simp only [List.mem_cons, List.not_mem_nil, or_false] at h
      rcases h with rfl | rfl
      · exact ⟨_, by decide +kernel, rfl⟩
      · exact ⟨_, by decide +kernel, rfl⟩
    have hj2 : j < 2 := (List.getElem?_eq_some_iff.mp hy).1
    have WA : Wl HA w1 (23 + j) := by
      obtain ⟨_, _, _, _, _, _, _, _, _, _, _, _, _, _, h⟩ := SA
      exact h.hw
    refine ⟨_, rfl, w1, 23 + j, 3, rfl, WA, by omega, by decide, by decide +kernel, fun d9 HB d90 d91 DB => ⟨rfl, _, rfl, ite2 (fun b => ?_) (fun b => ?_)⟩⟩
    · have SB := SA.dn N DB
      obtain ⟨kvs, k1, k2, k3⟩ := SB.put N hz (v := .str "out") (.str _) ((Sz.str (B := 10) ⟨by decide +kernel, by decide +kernel⟩).mono (by decide) (by decide))
      refine ⟨_, rfl, _, rfl, t, _, rfl, DPut.k (k := .inr z) k1 k2, ⟨_, _, _, _, _, _, rfl⟩, k3, ?_⟩
      rw [upd_ne lot]
      exact DB.k _ _ low hlA
    · exact ⟨⟨_, _, _, _, _, _, rfl⟩, SA.dn N DB, DB.k _ _ low hlA⟩
  rintro σ HA ⟨⟨v5, v6, v7, v8, v9, v10, rfl⟩, SA, _⟩
  obtain ⟨u0, u1, u2, u3, u4, u5, u6, d0, d1, d2, d3, d4, d5, d6, SA⟩ := SA
  have dA : DrAll K HA [u0, u1, u2, u3, u4, u5, u6] [d0, d1, d2, d3, d4, d5, d6] := DrAll.ex hid_hid_ex _ _ SA.hd
  have r0 : Dr K HA u0 d0 := by
    cases dA with | cons x _ => exact x
  have r6 : Dr K HA u6 d6 := by
    obtain ⟨d, h1, h2⟩ := DrAll.at (i := 6) dA rfl
    obtain rfl : d6 = d := Option.some.inj h1
    exact h2
  refine ⟨_, rfl, t, u0, u1, u2, u3, u4, u5, u6, d0, d6, rfl, SA.ht, r0, r6, fun lf HB exB hlf hlB => ?_⟩
  generalize hs : isTx d0 "out" = s at hlB
  generalize hb : isTx d6 "out" = b at hlB
  have kvE : ((effN s b).map fun n => ((Sum.inr n : Key), (valV (kvOf u0 u1 u2 u3 u4 u5 u6) (.inr n)).getD .non)) = kvS ((effN s b).map fun n => (n, leftW u0 u1 u2 u3 u4 u5 u6 n)) := by
    unfold kvS
    rw [List.map_map]
    rfl
  have hlB' : HB lf = some (.dK (kvS ((effN s b).map fun n => (n, leftW u0 u1 u2 u3 u4 u5 u6 n)))) := by rw [← kvE]; exact hlB
  have dB : DrAll K (hid lf HB) (((effN s b).map fun n => (n, leftW u0 u1 u2 u3 u4 u5 u6 n)).map (·.2)) (leftD s b d0 d1 d2 d3 d4 d5 d6) := by
    rw [List.map_map]
    show DrAll K _ ((effN s b).map (leftW u0 u1 u2 u3 u4 u5 u6)) _
    rw [left_vals]
    refine left_dr s b (DrAll.ex (fun c o hc => ?_) _ _ dA)
    rw [hid_ne (ne_of_none hc hlf)]
    exact exB _ _ hc
  refine ⟨_, rfl, lf, _, _, rfl, hlB', by rw [List.length_map]; exact (effN_sub s b).2.2, dB, fun HC exC => ?_⟩
  have bdE : badOf (((effN s b).map fun n => (n, leftW u0 u1 u2 u3 u4 u5 u6 n)).map fun q => (q.1, lstN q.1)) (leftD s b d0 d1 d2 d3 d4 d5 d6) = badOf LSl (eff (.int 0) (.int 1) s b d0 d1 d2 d3 d4 d5 d6) := by
    rw [← left_bad, List.map_map]
    rfl
  rw [bdE]
  have eAC := exB.trans exC
  have hlC := exC _ _ hlB
  have sz := told_sz s b SA.hs
  have rp := sz.rp
  have fin : ∀ (v : V) (HD : Hp) (σ : L2.St), Evl.Ex HC HD → Dr K HD v (toldD (eff (.int 0) (.int 1) s b d0 d1 d2 d3 d4 d5 d6)) → True := fun _ _ _ _ _ => trivial
  cases hbad : badOf LSl (eff (.int 0) (.int 1) s b d0 d1 d2 d3 d4 d5 d6) with
  | some z =>
    refine ⟨_, rfl, rfl, _, rfl, iteF ?_⟩
    refine ⟨_, rfl, t, u0, u1, u2, u3, u4, u5, u6, d0, d1, d2, d3, d4, d5, d6, rfl, eAC _ _ SA.ht, DrAll.ex eAC _ _ dA, fun v HD exD rD => ?_⟩
    rw [hs, hb] at rD
    refine ⟨_, _, rfl, rD, rp.1, rp.2.1, rp.2.2, ?_⟩
    refine ⟨_, rfl, _, .str z, rfl, .str z, ?_⟩
    have e1 : toldD (eff (.int 0) (.int 1) s b d0 d1 d2 d3 d4 d5 d6) = .str z := by unfold toldD; rw [hbad]
    rw [e1] at rp ⊢
    refine ⟨rp.1, rp.2.1, rp.2.2, rfl, _, rfl, iteNS rfl ?_⟩
    exact ⟨⟨_, _, _, _, _, _, _, _, _, _, rfl⟩, exD _ _ (eAC _ _ SA.hl)⟩
  | none =>
    refine ⟨_, rfl, rfl, _, rfl, iteT ?_⟩
    have e1 : toldD (eff (.int 0) (.int 1) s b d0 d1 d2 d3 d4 d5 d6) = .tuple (eff (.int 0) (.int 1) s b d0 d1 d2 d3 d4 d5 d6) := by unfold toldD; rw [hbad]
    have mC := eAC _ _ SA.hm
    let G : Str → V := fun n => (valV ((effN s b).map fun n => ((Sum.inr n : Key), leftW u0 u1 u2 u3 u4 u5 u6 n)) (.inr n)).getD (.int (lstN n))
    let F : Nat → V := fun i => G (NmT.getD i "")
    refine ⟨_, rfl, nm, rfl, ⟨_, SqL.of mC⟩, fun D2 hD2 => lc_fm (walk_list (K := K) (a := nm) (xs := NmT.map V.str)) (fun _ => true) F hD2 (by decide) (fun H' he => SqL.of (he _ _ mC)) (fun i v H2 H3 C N' hi he hy hc _ => ?_) (fun HD he hD2' => ?_)⟩
    · obtain ⟨rfl, hv⟩ := hy
      obtain ⟨n, hn, rfl⟩ : ∃ n, NmT[i]? = some n ∧ v = .str n := by
        rw [List.getElem?_map] at hv
        cases e : NmT[i]? with
        | none =>
          rw [e] at hv
          cases hv
        | some n =>
          rw [e] at hv
          exact ⟨n, rfl, (Option.some.inj hv).symm⟩
      refine ⟨rfl, yes_ok ?_⟩
      have hlC' := he _ _ hlC
      have hF : F i = (valV ((effN s b).map fun n => ((Sum.inr n : Key), leftW u0 u1 u2 u3 u4 u5 u6 n)) (.inr n)).getD (.int (lstN n)) := by
        show G (NmT.getD i "") = _
        rw [List.getD_eq_getElem?_getD, hn]
        rfl
      refine ⟨_, rfl, lf, rfl, (.inl ⟨_, .inl hlC'⟩), _, rfl, _, rfl, rfl, .inr ⟨_, rfl, _, DGet.k (k := .inr n) hlC', ?_⟩⟩
      have q := hc rfl _ (Evl.Ex.refl _)
      rw [hF] at q
      exact q
    rw [filter_yes] at hD2'
    have hmap : (List.range (NmT.map V.str).length).map F = eff (.int 0) (.int 1) s b u0 u1 u2 u3 u4 u5 u6 := by
      rw [← left_get, List.length_map]
      exact range_map_get G "" NmT
    rw [hmap] at hD2'
    refine ⟨D2, _, rfl, .inl ⟨SqL.of hD2', fun tp htp => ?_⟩⟩
    generalize hH_ : upd HD tp _ = HE
    have xE : Evl.Ex HD HE := (by rw [← hH_]; exact Evl.Ex.new htp)
    have gE := (congrFun hH_ tp).symm
    rw [upd_same] at gE
    clear hH_
    have eAE := eAC.trans (he.trans xE)
    have dE : Dr K HE (.ref tp) (.tuple (eff (.int 0) (.int 1) s b d0 d1 d2 d3 d4 d5 d6)) := .tup (SqT.of gE) (eff_dr s b (DrAll.ex eAE _ _ dA))
    refine ⟨_, rfl, t, u0, u1, u2, u3, u4, u5, u6, d0, d1, d2, d3, d4, d5, d6, rfl, eAE _ _ SA.ht, DrAll.ex eAE _ _ dA, fun v HF exF rF => ?_⟩
    rw [hs, hb] at rF
    refine ⟨_, _, rfl, rF, rp.1, rp.2.1, rp.2.2, ?_⟩
    rw [e1] at rp ⊢
    refine ⟨_, rfl, _, _, rfl, Dr.ex exF _ _ dE, rp.1, rp.2.1, rp.2.2, rfl, _, rfl, iteNS rfl ?_⟩
    exact ⟨⟨_, _, _, _, _, _, _, _, _, _, rfl⟩, exF _ _ (eAE _ _ SA.hl)⟩
end
theorem law_ok (w : World) (mg : Str → Option Value) (K : PySem.W.Frag) (T : TX w K mg) : ∃ fd : FuncData, mg "law" = some (.ref (He.ga K "law")) ∧ (∀ (s : Shared) (u : Value), BindsTo s fd ⟨[u], []⟩ [("_law_script", u)]) ∧
    ∀ base : Heap, FnG PySem.Challenge.pw_trailpost_k03_rules_made_and_refused w K mg base CX0 (8 + 1) (He.ga K "law") fd ["_law_script"] (spLaw K) := by
  obtain ⟨fd, hb, hF⟩ := law_fd (P := PySem.Challenge.pw_trailpost_k03_rules_made_and_refused) (w := w) (mg := mg) (sp := spLaw K) (x := "_law_script") (D_law T) sc_law rfl (fun _ _ _ _ _ _ us hl => match us, hl with | [_], _ => rfl) (fun vs H Q E h => by obtain ⟨a, ns, rfl, _⟩ := h; rfl) (fun base => body_law T base)
  exact ⟨fd, g_law T, hb, hF⟩
end Lw
open PySem PySem.W PySem.Calls PyProof.Rows
theorem PySem.Challenge.cw_trailpost_k03_rules_made_and_refused_holds : PySem.Challenge.rw_trailpost_k03_rules_made_and_refused.Holds := by
  w_on; o_law
  refine HandSHeadRun.head_any (r := OpenLaw.row PySem.Challenge.rw_trailpost_k03_rules_made_and_refused) (q := view (OpenLaw.row PySem.Challenge.rw_trailpost_k03_rules_made_and_refused).prog [22]) (H := Lw.hk) (ob := Lw.ob) (M := 6000) (loose := Lw.loose) (d := HandSHeadRun.topDef (OpenLaw.row PySem.Challenge.rw_trailpost_k03_rules_made_and_refused).prog 22) (kwd := []) Lw.ob_eq
    (by kernel_rfl) (fun s => by kernel_rfl) Lw.run (by kernel_rfl) (by kernel_rfl) (by kernel_rfl) (by rfl) (by first | assumption | decide +kernel) (by decide +kernel) ⟨rfl, rfl, rfl, rfl, rfl, by decide +kernel⟩ ?hw ?hc
  case hw => w_witness2
  case hc => exact TP.walkM (l := PySem.Challenge.rw_trailpost_k03_rules_made_and_refused) (x := "_law_script") rfl (by kernel_rfl) ⟨rfl, by decide, by decide⟩ (by kernel_rfl) (fun w mg K T => Lw.law_ok w mg K T)
