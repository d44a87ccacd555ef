import PyProof.Rows.All
import Wide.All
import OpenK.AllK
import Wide.FinOn
import HandS.Base
import HandS.Call
import HandS.List
import HandS.Comp
import HandS.Ends
import HandS.EndBits
import HandS.Dict
import HandS.Iter
import HandS.Text
import HandS.Words
import HandS.Defaults
import HandS.Wide
import HandS.HeadHook1
import HandS.HeadHook2
import PyProof.ReprRoads
import PyProof.ReprLen
import PyProof.ReprBulk
import HandS.Head2
import HandS.HeadEnd
import HandS.HeadHook3
import HandS.IsInst
import HandS.TupLe
import HandS.TupAny
import HandS.Evl
import HandS.Steps
import HandS.WordsList
import HandS.WordsDict
import HandS.Exc
import HandS.WordsExc
import PyProof.StrBlock2
import PyProof.StrLawsRepr
import HandS.Walk
import KE.GoesZip
import KE.GoesMore
import KE.KDictWalk
import HandS.MakeKwOnly
import HandS.More
import HandS.NoneIn
import HandS.Flow
import PySem.Challenge.RW_trailpost_k05_whole_fees_grow_by_parts
set_option Elab.async false
set_option linter.all false
set_option maxRecDepth 100000
set_option maxHeartbeats 4000000
namespace TP
open PySem PySem.Spec PyProof.Rows L2

/-! ### defs that are called where no repr is under way -/
structure FnG (P : Program) (w : World) (K : PySem.W.Frag) (mg : Str → Option Value) (base : Heap) (CX : CXT) (k : Nat) (f : Addr) (fd : FuncData) (ps : List Str) (sp : Sp) : Prop where
  len : ∀ vs H Q E, sp vs H Q E → vs.length = ps.length
  run : ∀ (A : Around) (outer : List Env) (s : Shared) (H : Hp) (args : Args) (us : List Value) (vs : List V) (Q : VK) (E : XK), A.guards = some [] → Room k A →
    Env0 P w K mg base A outer s H → BindsTo s fd args (ps.zip us) → Vals vs us → sp vs H Q E → codeAny (model P w) A (.call (.ref f) args) (CR CX outer P w H s Q E) s
theorem FnG.of {P : Program} {w : World} {K : PySem.W.Frag} {mg : Str → Option Value} {base : Heap} {CX : CXT} {k : Nat} {f : Addr} {fd : FuncData} {ps : List Str} {sp : Sp}
    (F : FnOk P w K mg base CX k f fd ps sp) : FnG P w K mg base CX k f fd ps sp :=
  ⟨F.len, fun A outer s H args us vs Q E _ hr => F.run A outer s H args us vs Q E hr⟩

section
variable {P : Program} {w : World} {K : PySem.W.Frag} {mg : Str → Option Value} {base : Heap} {CX : CXT}
/-- a def by its body, called where no repr is under way -/
theorem fnG_of {k : Nat} {f : Addr} {name qual : Str} {params : Arguments} {body : List Stmt} {scope : Scope} {dV kV doc pm cdv ct oc : Value} {an od : Option Addr} {osl : Array (Option Value)} {N ps : List Str} {sp : Sp}
    (lk : K.lookup f = some ⟨oc, od, .func (PySem.W.fnOf name qual params body scope dV kV doc pm an cdv ct), osl⟩)
    (hcd : PySem.W.codeIn K cdv qual = true) (S : FnScope N ps scope) (len : ∀ vs H Q E, sp vs H Q E → vs.length = ps.length)
    (hbody : ∀ (A : Around) (outer : List Env) (s : Shared) (H : Hp) (vs : List V) (Q : VK) (E : XK), A.guards = some [] → Room k (A.deeper (envOfC qual scope s.heap.objs.size f cdv)) → sp vs H Q E →
      ∃ t, PSs (cxOf CX P w K mg base N qual scope f cdv A outer s H E) body t ∧ t { nx := fun _ H' => Q .non H', rt := Q } (start N vs) H) :
    FnG P w K mg base CX (k + 1) f (PySem.W.fnOf name qual params body scope dV kV doc pm an cdv ct) ps sp := by
  refine ⟨len, fun A outer s H args us vs Q E hgd hr e0 hb r hsp => ?_⟩
  have hlen := len _ _ _ _ hsp
  have kx : K.In s.heap := e0.mod.kin.keeps fun b o e => (e0.bs b o e).1
  have lim := e0.mod.nolimit.keeps (h' := s.heap) fun b o e => (e0.bs b o e).1
  have kinds : ∀ y ∈ ps.zip us, scope.names.lookup y.1 = some .local ∨ (scope.names.lookup y.1 = some .cell ∧
      ((cellsFrom (s.heap.objs.size + 1) scope.names []).lookup y.1).isSome = true) := fun ⟨n, v⟩ hy => by
    rcases S.par n (List.of_mem_zip hy).1 with q | q
    · exact .inl q
    · exact .inr ⟨q, PySem.W.cellsFrom_some _ _ _ (.inl q)⟩
  refine codeAny_call_function hr.depth (kx _ _ lk) rfl S.co S.gen rfl (PySem.W.codeRec_of kx hcd) (hb _ _ _ _ ?_)
  refine wpAny_newFunctionEnv_cells S.kind kinds fun env he s1 x => ?_
  subst he
  refine ⟨lim.keeps x.toInCall.keep, codeAny_func ?_⟩
  obtain ⟨t, ht, hq⟩ := hbody A outer s H vs Q E hgd (hr.deeper _) hsp
  have I : Inv (cxOf CX P w K mg base N qual scope f cdv A outer s H E) [] (start N vs) H s1 := inv_start S hr.hd e0 hlen r x
  refine wpAny_mono (ht.run [] s1 (start N vs) H _ I hq) (fun fl s' hs => ?_) fun e s' hs => hs
  cases fl with
  | ret u =>
    obtain ⟨v, σ', H', J, rv, q⟩ := hs
    exact ⟨v, H', J.os, J.bare, J.base, J.hok, rv, q⟩
  | next =>
    obtain ⟨σ', H', J, q⟩ := hs
    exact ⟨V.non, H', J.os, J.bare, J.base, J.hok, rfl, q⟩
  | brk =>
    obtain ⟨_, _, _, q⟩ := hs
    exact q.elim
  | cont =>
    obtain ⟨_, _, _, q⟩ := hs
    exact q.elim
end

section
variable {X : Cx} {CX : CXT} {k : Nat} {f : Addr} {fd : FuncData} {ps : List Str} {sp : Sp} {E : XK} {x : Str} {p pos : Pos} {e : Expr} {es : List Expr} {t : TA}
theorem pe_callG (F : FnG X.prog X.w X.K X.mg X.base CX k f fd ps sp) (hgd : X.A.guards = some []) (hr : Room k X.A) (hg : Gl X x) (hm : X.mg x = some (.ref f))
    (hk : PySem.W.keepIn X.K (.ref f) = true) (hb : Binds X.K fd ps []) (hx : Passes CX X E) (ha : PA X (e :: es) t) (hdb : (x == ("__debug__" : Str)) = false := by decide)
    (he : starEach (e :: es) X.env = (false, eval e X.env) :: starEach es X.env := by rfl) (hpl : (backTo pos (starEach es X.env)).any (·.1) = false := by rfl) :
    PE X (.Call (.Name x p) (e :: es) [] pos) (tCall sp [] E t) := by
  refine ⟨fun pins s σ H Q I h => wpAny_Call_Name_kw (ld_glob I hg hm ?_ hdb)⟩
  refine PySem.W.callWith_K (h₀ := X.base) I.ok.mod.kin hk (thn (ha.run pos pins s σ H _ I h) fun us s1 ⟨vs, H1, I1, r, q⟩ => ⟨I1.kIn, ?_⟩) he hpl
  have q' : sp vs H1 Q E := by
    have q0 : sp (vs ++ []) H1 Q E := q
    rw [List.append_nil] at q0
    exact q0
  have hl : (us ++ []).length = ps.length := by
    rw [List.append_nil, ← r.length]
    exact F.len _ _ _ _ q'
  have hbt := hb s1 us I1.kIn hl
  rw [List.append_nil] at hbt
  refine wpAny_call (codeAny_mono (F.run X.A X.stack s1 H1 ⟨us, []⟩ us vs Q E hgd hr I1.env0 hbt r q') fun r s' hq => ?_)
  cases r with
  | error e => exact hx pins σ H1 s1 e s' I1 hq
  | ok fl =>
    cases fl with
    | ret u => exact I1.after hq
    | next => exact hq.elim
    | brk => exact hq.elim
    | cont => exact hq.elim
end
end TP

namespace TP
open PySem PySem.Spec PyProof.Rows L2

/-! ### data with dicts: what a value shows -/
def kD : Key → PyData
  | .inl i => .int i
  | .inr x => .str x
mutual
inductive Dr (K : PySem.W.Frag) (H : Hp) : V → PyData → Prop
  | non : Dr K H .non .none
  | bl (b : Bool) : Dr K H (.bl b) (.bool b)
  | int (i : Int) : Dr K H (.int i) (.int i)
  | str (x : Str) : Dr K H (.str x) (.str x)
  | lst {a : Addr} {xs : List V} {ds : List PyData} : SqL K H a xs → DrAll K H xs ds → Dr K H (.ref a) (.list ds)
  | tup {a : Addr} {xs : List V} {ds : List PyData} : SqT K H a xs → DrAll K H xs ds → Dr K H (.ref a) (.tuple ds)
  | dct {a : Addr} {kvs : List (Key × V)} {ds : List (PyData × PyData)} : H a = some (.dK kvs) → DrKv K H kvs ds → Dr K H (.ref a) (.dict ds)
inductive DrAll (K : PySem.W.Frag) (H : Hp) : List V → List PyData → Prop
  | nil : DrAll K H [] []
  | cons {v : V} {vs : List V} {d : PyData} {ds : List PyData} : Dr K H v d → DrAll K H vs ds → DrAll K H (v :: vs) (d :: ds)
inductive DrKv (K : PySem.W.Frag) (H : Hp) : List (Key × V) → List (PyData × PyData) → Prop
  | nil : DrKv K H [] []
  | cons {k : Key} {v : V} {vs : List (Key × V)} {d : PyData} {ds : List (PyData × PyData)} : Dr K H v d → DrKv K H vs ds → DrKv K H ((k, v) :: vs) ((kD k, d) :: ds)
end
/-- the modules' dict is known -/
def SysK (K : PySem.W.Frag) : Prop := ∃ o, K.lookup sysModules = some o ∧ o.cls = .type "dict"
theorem keyReads {h : Heap} {k : Key} {u : Value} (e : keyIs k u = true) : Reads h u (kD k) [] := by
  rcases keyIs_shape e with ⟨i, t, rfl, rfl⟩ | ⟨x, t, rfl, rfl⟩
  · exact Reads.int i t
  · exact Reads.str x t
section
variable {X : Cx} {pins : List (Addr × Obj)} {σ : L2.St} {H : Hp} {s : Shared}
theorem sys_ne (hS : SysK X.K) (I : Inv X pins σ H s) {a : Addr} {o : Obj} (ho : s.heap.get? a = some o) (hc : o.cls ≠ .type "dict") : a ≠ sysModules := fun z => by
  obtain ⟨od, hl, hd⟩ := hS
  have q := I.kIn _ _ hl
  rw [← z, ho] at q
  cases q
  exact hc hd
mutual
theorem Dr.reads (hS : SysK X.K) (I : Inv X pins σ H s) : ∀ (d : PyData) (v : V) (u : Value), Dr X.K H v d → RelV v u → ∃ as, Reads s.heap u d as ∧ sysModules ∉ as
  | .none, _, _, h, r => by
    cases h
    cases r
    exact ⟨_, Reads.none, List.not_mem_nil⟩
  | .bool b, _, _, h, r => by
    cases h
    cases r
    exact ⟨_, Reads.bool b, List.not_mem_nil⟩
  | .int i, _, _, h, r => by
    cases h
    obtain ⟨t, rfl⟩ := r
    exact ⟨_, Reads.int i t, List.not_mem_nil⟩
  | .str x, _, _, h, r => by
    cases h
    obtain ⟨t, rfl⟩ := r
    exact ⟨_, Reads.str x t, List.not_mem_nil⟩
  | .list ds, _, _, h, r => by
    cases h with
    | lst hs ha =>
      cases r
      obtain ⟨its, rv, ⟨o, n, ho, hc, _, hd⟩, _⟩ := I.list hs
      obtain ⟨as, hr, hn⟩ := DrAll.reads hS I ds _ its ha rv
      refine ⟨_, Reads.list ho hc hd hr, fun z => ?_⟩
      rcases List.mem_cons.mp z with e | e
      · exact sys_ne hS I ho (by rw [hc]; decide) e.symm
      · exact hn e
  | .tuple ds, _, _, h, r => by
    cases h with
    | tup hs ha =>
      cases r
      obtain ⟨its, rv, ⟨o, ho, hc, n, hd⟩, _⟩ := I.tuple hs
      obtain ⟨as, hr, hn⟩ := DrAll.reads hS I ds _ its ha rv
      exact ⟨_, Reads.tuple ho hc hd hr, hn⟩
  | .dict ds, _, _, h, r => by
    cases h with
    | dct hs ha =>
      cases r
      obtain ⟨_, hy, vs, rel, o, es, ep, ho, hx, hd, _, hp, _⟩ := dk_of I.hok hs
      obtain ⟨bs, h1, h2, hn⟩ := DrKv.reads hS I ds _ vs es.toList ha rel hp
      refine ⟨_, Reads.dict ho hx.1 hd h1 h2, fun z => ?_⟩
      rcases List.mem_cons.mp (show sysModules ∈ _ :: _ from z) with e | e
      · rw [← e] at hy
        exact absurd hy (by decide)
      · exact hn e
theorem DrAll.reads (hS : SysK X.K) (I : Inv X pins σ H s) : ∀ (ds : List PyData) (vs : List V) (us : List Value), DrAll X.K H vs ds → Vals vs us → ∃ as, ReadsAll s.heap us ds as ∧ sysModules ∉ as
  | [], _, _, h, r => by
    cases h
    cases r
    exact ⟨_, ReadsAll.nil, List.not_mem_nil⟩
  | d :: ds, _, _, h, r => by
    cases h with
    | cons h1 h2 =>
      cases r with
      | cons r1 r2 =>
        obtain ⟨as, a1, n1⟩ := Dr.reads hS I d _ _ h1 r1
        obtain ⟨bs, a2, n2⟩ := DrAll.reads hS I ds _ _ h2 r2
        exact ⟨_, ReadsAll.cons a1 a2, fun z => (List.mem_append.mp z).elim n1 n2⟩
theorem DrKv.reads (hS : SysK X.K) (I : Inv X pins σ H s) : ∀ (ds : List (PyData × PyData)) (kvs : List (Key × V)) (vs : List (Key × Value)) (es : List DictEntry), DrKv X.K H kvs ds → KV kvs vs → Pairs (mixKind X.prog X.w) es vs →
    ∃ bs, ReadsAll s.heap (es.map (·.key)) (ds.map (·.1)) [] ∧ ReadsAll s.heap (es.map (·.val)) (ds.map (·.2)) bs ∧ sysModules ∉ bs
  | [], _, _, _, h, r, p => by
    cases h
    cases r
    cases p
    exact ⟨_, ReadsAll.nil, ReadsAll.nil, List.not_mem_nil⟩
  | (a, d) :: ds, _, _, _, h, r, p => by
    cases h with
    | cons h1 h2 =>
      cases r with
      | cons r1 r2 =>
        cases p with
        | cons p1 p2 p3 =>
          obtain ⟨bs, b1, b2, n2⟩ := DrKv.reads hS I ds _ _ _ h2 r2 p3
          obtain ⟨as, a1, n1⟩ := Dr.reads hS I d _ _ h1 r1.2
          refine ⟨as ++ bs, ReadsAll.cons (as := []) (bs := []) (keyReads (by have e := r1.1; dsimp only at e; rw [e]; exact p1)) b1, ReadsAll.cons (by dsimp only; rw [p2]; exact a1) b2, fun z => (List.mem_append.mp z).elim n1 n2⟩
end
/-- repr(x) of data -/
def rRepr (K : PySem.W.Frag) : List V → Hp → VK → Prop := fun xs H Q => ∃ (x : V) (d : PyData), xs = [x] ∧ Dr K H x d ∧ d.showable = true ∧ d.depth ≤ 50 ∧ d.shown.length ≤ sizeLine ∧ Q (.str d.shown) H
theorem call_reprG (hS : SysK X.K) (hg : X.A.guards = some []) (hu : X.A.units + 64 < cLine) : CallR X (.builtin "repr") (rRepr X.K) := by
  intro pins s σ H xs us Q I r h
  obtain ⟨x, d, rfl, hd, sh, dp, sz, q⟩ := h
  obtain ⟨u, rfl, rx⟩ := vals1 r
  cases hd with
  | non =>
    cases rx
    refine PySem.P.repr_of_none ⟨.str _, H, I.tok _, ⟨_, rfl⟩, ?_⟩
    exact q
  | bl b =>
    cases rx
    refine PySem.P.repr_of_bool ⟨.str _, H, I.tok _, ⟨_, rfl⟩, ?_⟩
    rw [PyData.shown_bool] at q
    exact q
  | int i =>
    obtain ⟨t, rfl⟩ := rx
    refine PySem.P.repr_of_int (of_decide_eq_true sh) ⟨.str _, H, I.tok _, ⟨_, rfl⟩, ?_⟩
    rw [PyData.shown_int] at q
    exact q
  | str z =>
    obtain ⟨t, rfl⟩ := rx
    rw [PyData.shown_str] at q sz
    exact PySem.P.repr_of_str ⟨.str _, H, I.tok _, ⟨_, rfl⟩, q⟩ sz
  | lst a b =>
    cases rx
    obtain ⟨as, hr, hn⟩ := Dr.reads hS I _ _ _ (Dr.lst a b) rfl
    exact repr_of_reads' hr sh (fun _ => hn) hg (by omega) (fun _ _ e => e) (fun h' u tk hk => ⟨.str _, H, I.kept (t' := tk) hk, ⟨_, rfl⟩, q⟩) sz
  | tup a b =>
    cases rx
    obtain ⟨as, hr, hn⟩ := Dr.reads hS I _ _ _ (Dr.tup a b) rfl
    exact repr_of_reads' hr sh (fun _ => hn) hg (by omega) (fun _ _ e => e) (fun h' u tk hk => ⟨.str _, H, I.kept (t' := tk) hk, ⟨_, rfl⟩, q⟩) sz
  | dct a b =>
    cases rx
    obtain ⟨as, hr, hn⟩ := Dr.reads hS I _ _ _ (Dr.dct a b) rfl
    exact repr_of_reads' hr sh (fun _ => hn) hg (by omega) (fun _ _ e => e) (fun h' u tk hk => ⟨.str _, H, I.kept (t' := tk) hk, ⟨_, rfl⟩, q⟩) sz
end
end TP

namespace TP
open PySem PySem.Spec PyProof.Rows L2

/-! ### the head: facts by names, one more Bool, the modules' dict among what is known -/
def asM (g : Addr → Option Obj) (n : Nat) : List Addr := sysModules :: He.asD g n
abbrev AlM : Type := He.AlT × Bool
def obsM (n : Nat) (fa : List He.Fa) (fn : List He.DefD) (ts : List He.Tab) (ex : PySem.W.Frag → Bool) (g : Addr → Option Obj) : AlM :=
  (He.obsT fa fn ts (He.frG g (asM g n)), ex (He.frG g (asM g n)))
def hookM (n : Nat) (fa : List He.Fa) (fn : List He.DefD) (ts : List He.Tab) (ex : PySem.W.Frag → Bool) : PySem.W.Hook where
  α := AlM
  obs := fun s => obsM n fa fn ts ex s.heap.get?
  val := fun w => (He.valT fn ts w, true)
  says := fun w h => ∃ K : PySem.W.Frag, K.In h ∧ He.SaysT fa fn ts w K ∧ ex K = true
  of := fun _ _ e => ⟨_, He.frG_in, congrArg (fun z : AlM => z.1) e, congrArg (fun z : AlM => z.2) e⟩
  keeps := fun _ _ _ ⟨K, hK, c⟩ k => ⟨K, PySem.W.Frag.In.keeps hK k, c⟩
theorem obsM_eq {n : Nat} {fa : List He.Fa} {fn : List He.DefD} {ts : List He.Tab} {ex : PySem.W.Frag → Bool} {g : Addr → Option Obj} {s : Shared} (h : ∀ a, g a = s.heap.get? a) :
    obsM n fa fn ts ex g = (hookM n fa fn ts ex).obs s := by
  have e : g = s.heap.get? := funext h
  rw [e] <;> rfl
/-- what is known of the text behind the top -/
structure Tx (fa : List He.Fa) (fn : List He.DefD) (ts : List He.Tab) (ex : PySem.W.Frag → Bool) (w : World) (K : PySem.W.Frag) (mg : Str → Option Value) : Prop where
  t : He.SaysT fa fn ts w K
  ex : ex K = true
  m : ∃ h : Heap, K.In h ∧ h.Ns mainGlobals mg
section
variable {fa : List He.Fa} {fn : List He.DefD} {ts : List He.Tab} {ex : PySem.W.Frag → Bool} {w : World} {K : PySem.W.Frag} {mg : Str → Option Value}
theorem Tx.c (T : Tx fa fn ts ex w K mg) : He.SaysD fa fn K := T.t.d
theorem Tx.glo (T : Tx fa fn ts ex w K mg) {x : Str} (i : Nat) (h : fa[i]? = some (.glo x) := by rfl) : mg x = some (.ref (He.ga K x)) := by
  obtain ⟨_, hk, g⟩ := T.m
  exact He.glo_ok hk g (T.c.fact i h)
theorem Tx.free (T : Tx fa fn ts ex w K mg) {x : Str} (i : Nat) (h : fa[i]? = some (.free x) := by rfl) : mg x = none := by
  obtain ⟨_, hk, g⟩ := T.m
  exact He.free_ok hk g (T.c.fact i h)
theorem Tx.int (T : Tx fa fn ts ex w K mg) {x : Str} {z : Int} (i : Nat) (h : fa[i]? = some (.int x z) := by rfl) : ∃ t, mg x = some (.int z t) := by
  obtain ⟨_, hk, g⟩ := T.m
  exact He.int_ok hk g (T.c.fact i h)
theorem Tx.str (T : Tx fa fn ts ex w K mg) {x z : Str} (i : Nat) (h : fa[i]? = some (.str x z) := by rfl) : ∃ t, mg x = some (.str z t) := by
  obtain ⟨_, hk, g⟩ := T.m
  exact He.str_ok hk g (T.c.fact i h)
/-- a table of the top: its entries, the keys in order -/
theorem Tx.tab (T : Tx fa fn ts ex w K mg) (i : Nat) {t : He.Tab} (h : ts[i]? = some t := by rfl) : ∃ es n, KDict K w (t.1 K) es n ∧ es.toList.map He.keyOf = He.keysIn w.params t.2 := by
  have e : ts.map (fun t => He.dicW K (t.1 K)) = ts.map fun t => some (He.keysIn w.params t.2) := congrArg (fun z : He.AlT => z.2) T.t
  have e2 : (ts.map fun t => He.dicW K (t.1 K))[i]? = (ts.map fun t => some (He.keysIn w.params t.2))[i]? := by rw [e]
  rw [List.getElem?_map, List.getElem?_map, h] at e2
  have e3 : He.dicW K (t.1 K) = some (He.keysIn w.params t.2) := Option.some.inj e2
  obtain ⟨es, n, D⟩ := He.dicW_ok e3
  refine ⟨es, n, D, ?_⟩
  unfold He.dicW at e3
  rw [D.at_] at e3
  have low := D.low
  simp only [low, decide_true, Array.isEmpty_empty, Bool.not_false, Bool.and_true] at e3
  exact Option.some.inj e3
end
def sysB (K : PySem.W.Frag) : Bool := match K.lookup sysModules with
  | some o => decide (o.cls = .type "dict")
  | none => false
theorem sysB_ok {K : PySem.W.Frag} (h : sysB K = true) : SysK K := by
  unfold sysB at h
  cases q : K.lookup sysModules with
  | none =>
    rw [q] at h
    cases h
  | some o =>
    rw [q] at h
    exact ⟨o, q, of_decide_eq_true h⟩

/-! ### the end -/
theorem law_callG {P : Program} {w : World} {K : PySem.W.Frag} {mg mb : Str → Option Value} {CX : CXT} {k : Nat} {fa a : Addr} {fd : FuncData} {x : Str} {sp : Sp} {s₁ : Shared} {vs : List Value} {ns : List Int}
    (KX : K.In s₁.heap) (hns : s₁.heap.Ns mainGlobals mg) (hb : s₁.heap.Ns builtinsNs mb) (hbb : ∀ x : Str, x ≠ "__name__" → mb x = bootBuiltins x) (hlim : s₁.heap.NoLimit) (hg : s₁.gens = #[])
    (ha : s₁.heap.get? a = some { cls := .type "list", data := .seq vs.toArray }) (hi : IntsAre vs ns) (hl : ns.length ≤ sizeLine) (hr : Room k callerA)
    (F : ∀ base : Heap, K.In base → base.Ns mainGlobals mg → FnG P w K mg base CX k fa fd [x] sp)
    (hbind : ∀ (s : Shared) (u : Value), BindsTo s fd ⟨[u], []⟩ [(x, u)])
    (hsp : ∀ H : Hp, Only H → SqL K H a (ns.map V.int) → sp [.ref a] H (fun v _ => v = .bl true) fun _ _ _ => False)
    (hCX : ∀ H e s', CX [] H s₁ (fun _ _ _ => False) e s' → False) :
    codeAny (model P w) callerA (.call (.ref fa) ⟨[.ref a], []⟩) (fun r s' => r = .ok (.ret (.bool true)) ∧ OldK s₁.heap s'.heap ∧ s'.os = s₁.os ∧ AllBare s'.gens) s₁ := by
  have rv := vals_ints hi
  have lv := hi.length
  have core : ∀ H : Hp, Only H → SqL K H a (ns.map V.int) → HOk P w H s₁.heap → (∀ b, H b ≠ none → b = a) → (H a ≠ none → K.lookup a = none) →
      codeAny (model P w) callerA (.call (.ref fa) ⟨[.ref a], []⟩) (fun r s' => r = .ok (.ret (.bool true)) ∧ OldK s₁.heap s'.heap ∧ s'.os = s₁.os ∧ AllBare s'.gens) s₁ := by
    intro H hO hS hok hA hK
    have keepN : ∀ {b : Addr} {o : Obj} {es : Array DictEntry} {ep : Nat}, s₁.heap.get? b = some o → o.data = .dict es ep → H b = none := fun {b o es ep} e d => by
      cases q : H b with
      | none => rfl
      | some u =>
        obtain rfl : b = a := hA b (by rw [q]; simp)
        rw [ha] at e
        cases e
        cases (show Data.seq vs.toArray _ = Data.dict es ep from d)
    have nsK : ∀ {b : Addr} {m : Str → Option Value}, s₁.heap.Ns b m → (hidT s₁.heap H).Ns b m :=
      fun {b m} ⟨o, es, ep, e, d, r⟩ => ⟨o, es, ep, hidT_get e (keepN e d), d, r⟩
    have kb : K.In (hidT s₁.heap H) := fun b o e => hidT_get (KX b o e) (by
      cases q : H b with
      | none => rfl
      | some u =>
        obtain rfl : b = a := hA b (by rw [q]; simp)
        rw [hK (by rw [q]; simp)] at e
        cases e)
    have md : Mod K mg (hidT s₁.heap H) := ⟨kb, nsK hns, ⟨mb, nsK hb, hbb⟩, let ⟨mc, h1, h2⟩ := hlim; ⟨mc, nsK h1, h2⟩⟩
    have e0 : Env0 P w K mg (hidT s₁.heap H) callerA [] s₁ H :=
      ⟨rfl, md, fun b o e => of_hidT e, Nat.le_of_eq (hidT_size _ _), trivial, fun b hb => absurd (show b ∈ ([] : List Addr) from hb) (by simp), hok, .of_eq hg⟩
    refine codeAny_mono ((F _ kb (nsK hns)).run callerA [] s₁ H ⟨[.ref a], []⟩ [.ref a] [.ref a] _ _ rfl hr e0 (hbind s₁ (.ref a)) (.cons rfl .nil) (hsp H hO hS)) fun r s' h => ?_
    cases r with
    | error e => exact (hCX H e s' h).elim
    | ok fl =>
      cases fl with
      | next => exact h.elim
      | brk => exact h.elim
      | cont => exact h.elim
      | ret u =>
        obtain ⟨v, H', os, bare, un, hok', r', q⟩ := h
        obtain rfl : v = .bl true := q
        obtain rfl : u = Value.bool true := r'
        refine ⟨rfl, OldK.of_keep fun b o e => ?_, os, bare⟩
        cases q : H b with
        | none => exact un.keep b o e q (fun z => absurd (show b ∈ ([] : List Addr) from z) (by simp)) (by simp)
        | some u =>
          rcases hO b with z | ⟨ob, xs, z⟩
          · rw [q] at z
            cases z
          · obtain ⟨e1, _⟩ := hok b _ z
            obtain ⟨e2, _⟩ := hok' b _ (un.frzs b ob _ z)
            rw [e] at e1
            cases e1
            exact e2
  cases hk : K.lookup a with
  | some o =>
    have e := KX a o hk
    rw [ha] at e
    cases e
    exact core (fun _ => none) (fun _ => .inl rfl) (.inr ⟨_, vs.toArray, _, hk, rfl, rfl, rfl, by rw [List.size_toArray, lv]; exact hl, by simpa using rv⟩)
      (fun b u z => nomatch (show (none : Option HO) = some u from z)) (fun b z => absurd rfl z) fun z => absurd rfl z
  | none =>
    refine core (fun b => if b = a then some (.frz { cls := .type "list", data := .seq vs.toArray } (.lst (ns.map V.int))) else none) (fun b => ?_)
      (.inl (.inr ⟨{ cls := .type "list", data := .seq vs.toArray }, if_pos rfl⟩)) (fun b u z => ?_) (fun b z => ?_) fun _ => hk
    · by_cases hb : b = a
      · exact .inr ⟨_, _, if_pos hb⟩
      · exact .inl (if_neg hb)
    · by_cases hb : b = a
      · cases (if_pos hb).symm.trans z
        subst hb
        exact ⟨ha, by rw [List.length_map]; exact hl, vs, _, rv, ha⟩
      · cases (if_neg hb).symm.trans z
    · by_cases hb : b = a
      · exact hb
      · exact absurd (if_neg hb) z
/-- the law's promise: a list of at most 63 ints, of at most 2 ^ 20 bits each; True comes back -/
def spLaw (K : PySem.W.Frag) : Sp := fun vs H Q _ => ∃ (a : Addr) (ns : List Int), vs = [.ref a] ∧ SqL K H a (ns.map V.int) ∧ ns.length ≤ 63 ∧ (∀ z ∈ ns, Builtin.Int.intBits z ≤ 1048576) ∧ ∀ H', Q (.bl true) H'
theorem walkM {l : PySem.W.OpenLaw} {k N : Nat} {q : Program} {loose : List Str} {XP : (Str → Option Value) → Heap → Prop} {d : DefRec} {x : Str}
    {fa : List He.Fa} {fn : List He.DefD} {ts : List He.Tab} {ex : PySem.W.Frag → Bool}
    (hn : l.most = some 63) (hdf : d.params.defaults = []) (hr : Room k callerA) (hnm : d.name = ("law" : Str))
    (F : ∀ (w : World) (mg : Str → Option Value) (K : PySem.W.Frag), Tx fa fn ts ex w K mg →
      ∃ fd : FuncData, mg "law" = some (.ref (He.ga K "law")) ∧ (∀ (s : Shared) (u : Value), BindsTo s fd ⟨[u], []⟩ [(x, u)]) ∧ ∀ base : Heap, FnG l.prog w K mg base CX0 k (He.ga K "law") fd [x] (spLaw K)) :
    PySem.W.WalkO q loose XP (hookM N fa fn ts ex).says l.row.toRowW d [] (fun f vs => PySem.call f vs) := by
  refine Att.attach_callB hn hdf fun w s₀ s₁ mg mb fA o pm cd doc a vs ns G Y ho hd hcd hmg hobj hints hlen hbits hg => ?_
  obtain ⟨K, KX, c, e⟩ := Y
  obtain ⟨fd, h0, hb, hF⟩ := F w mg K ⟨c, e, _, KX, G.T.g⟩
  rw [hnm, h0] at hmg
  cases hmg
  exact law_callG KX G.T.g G.T.b G.T.builtins G.T.nolimit hg hobj hints (Nat.le_trans hlen (by decide)) hr (fun base _ _ => hF base) hb
    (fun H hO hS => ⟨a, ns, rfl, hS, hlen, hbits, fun _ => rfl⟩) fun _ _ _ z => z
end TP

namespace TP
open PySem PySem.Spec PyProof.Rows L2

/-! ### a def called by its module's name -/
structure Gt (P : Program) (w : World) (K : PySem.W.Frag) (mg : Str → Option Value) (base : Heap) (CX : CXT) (k : Nat) (x : Str) (ps : List Str) (sp : Sp) : Prop where
  ex : ∃ f fd, mg x = some (.ref f) ∧ PySem.W.keepIn K (.ref f) = true ∧ Binds K fd ps [] ∧ FnOk P w K mg base CX k f fd ps sp
structure GtG (P : Program) (w : World) (K : PySem.W.Frag) (mg : Str → Option Value) (base : Heap) (CX : CXT) (k : Nat) (x : Str) (ps : List Str) (sp : Sp) : Prop where
  ex : ∃ f fd, mg x = some (.ref f) ∧ PySem.W.keepIn K (.ref f) = true ∧ Binds K fd ps [] ∧ FnG P w K mg base CX k f fd ps sp
section
variable {X : Cx} {CX : CXT} {k : Nat} {ps : List Str} {sp : Sp} {E : XK} {x : Str} {p pos : Pos} {e : Expr} {es : List Expr} {t : TA}
theorem Gt.pe (G : Gt X.prog X.w X.K X.mg X.base CX0 k x ps sp) (hr : Room k X.A) (ha : PA X (e :: es) t) (hg : Gl X x := by rfl) (hdb : (x == ("__debug__" : Str)) = false := by decide)
    (he : starEach (e :: es) X.env = (false, eval e X.env) :: starEach es X.env := by rfl) (hpl : (backTo pos (starEach es X.env)).any (·.1) = false := by rfl) :
    PE X (.Call (.Name x p) (e :: es) [] pos) (tCall sp [] E0 t) := by
  obtain ⟨f, fd, hm, hk, hb, F⟩ := G.ex
  exact pe_call F hr hg hm hk hb .nil pass0 ha hdb he hpl
theorem Gt.peX (G : Gt X.prog X.w X.K X.mg X.base CX k x ps sp) (hr : Room k X.A) (hx : Passes CX X E) (ha : PA X (e :: es) t) (hg : Gl X x := by rfl) (hdb : (x == ("__debug__" : Str)) = false := by decide)
    (he : starEach (e :: es) X.env = (false, eval e X.env) :: starEach es X.env := by rfl) (hpl : (backTo pos (starEach es X.env)).any (·.1) = false := by rfl) :
    PE X (.Call (.Name x p) (e :: es) [] pos) (tCall sp [] E t) := by
  obtain ⟨f, fd, hm, hk, hb, F⟩ := G.ex
  exact pe_call F hr hg hm hk hb .nil hx ha hdb he hpl
theorem GtG.pe (G : GtG X.prog X.w X.K X.mg X.base CX0 k x ps sp) (hgd : X.A.guards = some []) (hr : Room k X.A) (ha : PA X (e :: es) t) (hg : Gl X x := by rfl) (hdb : (x == ("__debug__" : Str)) = false := by decide)
    (he : starEach (e :: es) X.env = (false, eval e X.env) :: starEach es X.env := by rfl) (hpl : (backTo pos (starEach es X.env)).any (·.1) = false := by rfl) :
    PE X (.Call (.Name x p) (e :: es) [] pos) (tCall sp [] E0 t) := by
  obtain ⟨f, fd, hm, hk, hb, F⟩ := G.ex
  exact pe_callG F hgd hr hg hm hk hb pass0 ha hdb he hpl
end
section
variable {P : Program} {w : World} {K : PySem.W.Frag} {mg : Str → Option Value} {base : Heap} {CX : CXT} {k : Nat} {x : Str} {ps : List Str} {sp sp' : Sp}
theorem Gt.mono {j : Nat} (G : Gt P w K mg base CX j x ps sp) (h : j ≤ k) : Gt P w K mg base CX k x ps sp := by
  obtain ⟨f, fd, hm, hk, hb, F⟩ := G.ex
  exact ⟨f, fd, hm, hk, hb, F.mono h⟩
theorem Gt.imp (G : Gt P w K mg base CX k x ps sp) (h : ∀ vs H Q E, sp' vs H Q E → sp vs H Q E) : Gt P w K mg base CX k x ps sp' := by
  obtain ⟨f, fd, hm, hk, hb, F⟩ := G.ex
  exact ⟨f, fd, hm, hk, hb, F.imp h⟩
/-- what is to be shown of a def's body -/
abbrev BodyOk (P : Program) (w : World) (K : PySem.W.Frag) (mg : Str → Option Value) (base : Heap) (k : Nat) (N : List Str) (d : He.DefD) (sp : Sp) : Prop :=
  ∀ (f : Addr) (cdv : Value) (A : Around) (outer : List Env) (s : Shared) (H : Hp) (vs : List V) (Q : VK) (E : XK), Room k (A.deeper (envOfC d.qual d.scope s.heap.objs.size f cdv)) → sp vs H Q E →
      ∃ t, PSs (cxOf CX0 P w K mg base N d.qual d.scope f cdv A outer s H E).nox d.body t ∧ t { nx := fun _ H' => Q .non H', rt := Q } (start N vs) H
abbrev BodyOkX (P : Program) (w : World) (K : PySem.W.Frag) (mg : Str → Option Value) (base : Heap) (k : Nat) (N : List Str) (d : He.DefD) (sp : Sp) : Prop :=
  ∀ (f : Addr) (cdv : Value) (A : Around) (outer : List Env) (s : Shared) (H : Hp) (vs : List V) (Q : VK) (E : XK), Room k (A.deeper (envOfC d.qual d.scope s.heap.objs.size f cdv)) → sp vs H Q E →
      ∃ t, PSs (cxOf (L2.CX P w) P w K mg base N d.qual d.scope f cdv A outer s H E) d.body t ∧ t { nx := fun _ H' => Q .non H', rt := Q } (start N vs) H
abbrev BodyOkG (P : Program) (w : World) (K : PySem.W.Frag) (mg : Str → Option Value) (base : Heap) (k : Nat) (N : List Str) (d : He.DefD) (sp : Sp) : Prop :=
  ∀ (f : Addr) (cdv : Value) (A : Around) (outer : List Env) (s : Shared) (H : Hp) (vs : List V) (Q : VK) (E : XK), A.guards = some [] → Room k (A.deeper (envOfC d.qual d.scope s.heap.objs.size f cdv)) → sp vs H Q E →
      ∃ t, PSs (cxOf CX0 P w K mg base N d.qual d.scope f cdv A outer s H E).nox d.body t ∧ t { nx := fun _ H' => Q .non H', rt := Q } (start N vs) H
abbrev IsDef (K : PySem.W.Frag) (d : He.DefD) : Prop := ∃ fd, FunD K d.name d.qual d.params d.body d.scope (d.dvs K) (d.kws K) (He.fAd K d.at_) fd
abbrev BindN (d : He.DefD) (ps : List Str) : Prop := ∀ (kV doc pm : Value) (an : Option Addr) (cdv ct : Value) (us : List Value), us.length = ps.length →
  bindArgs (PySem.W.fnOf d.name d.qual d.params d.body d.scope .none kV doc pm an cdv ct) ⟨us, []⟩ = pure (ps.zip us)
theorem fn_ok0 {N : List Str} {d : He.DefD} {f : Addr} {fd : FuncData} (F : FunD K d.name d.qual d.params d.body d.scope (d.dvs K) (d.kws K) f fd) (S : FnScope N ps d.scope)
    (len : ∀ vs H Q E, sp vs H Q E → vs.length = ps.length) (B : BodyOk P w K mg base k N d sp) : FnOk P w K mg base CX0 (k + 1) f fd ps sp :=
  F.ok S len fun cdv A outer s H vs Q E hr h => by
    obtain ⟨t, h1, h2⟩ := B f cdv A outer s H vs Q E hr h
    exact ⟨t, h1.nox, h2⟩
theorem fn_okX {N : List Str} {d : He.DefD} {f : Addr} {fd : FuncData} (F : FunD K d.name d.qual d.params d.body d.scope (d.dvs K) (d.kws K) f fd) (S : FnScope N ps d.scope)
    (len : ∀ vs H Q E, sp vs H Q E → vs.length = ps.length) (B : BodyOkX P w K mg base k N d sp) : FnOk P w K mg base (L2.CX P w) (k + 1) f fd ps sp :=
  F.ok S len fun cdv A outer s H vs Q E hr h => B f cdv A outer s H vs Q E hr h
theorem fn_okG {N : List Str} {d : He.DefD} {f : Addr} {fd : FuncData} (F : FunD K d.name d.qual d.params d.body d.scope (d.dvs K) (d.kws K) f fd) (S : FnScope N ps d.scope)
    (len : ∀ vs H Q E, sp vs H Q E → vs.length = ps.length) (B : BodyOkG P w K mg base k N d sp) : FnG P w K mg base CX0 (k + 1) f fd ps sp := by
  obtain ⟨oc, od, dV, kV, doc, pm, an, cdv, ct, osl, rfl, lk, hcd, _, _⟩ := F.ex
  exact fnG_of lk hcd S len fun A outer s H vs Q E hg hr h => by
    obtain ⟨t, h1, h2⟩ := B f cdv A outer s H vs Q E hg hr h
    exact ⟨t, h1.nox, h2⟩
theorem gt_mk {N : List Str} {d : He.DefD} (D : IsDef K d) (g : mg x = some (.ref (He.fAd K d.at_))) (S : FnScope N ps d.scope) (hd : d.dfl = []) (hb : BindN d ps)
    (len : ∀ vs H Q E, sp vs H Q E → vs.length = ps.length) (B : BodyOk P w K mg base k N d sp) : Gt P w K mg base CX0 (k + 1) x ps sp := by
  obtain ⟨fd, F⟩ := D
  refine ⟨_, fd, g, F.kp, ?_, fn_ok0 F S len B⟩
  have e : d.dvs K = [] := by unfold He.DefD.dvs; rw [hd]; rfl
  rw [e] at F
  exact F.bindsN hb
theorem gtX_mk {N : List Str} {d : He.DefD} (D : IsDef K d) (g : mg x = some (.ref (He.fAd K d.at_))) (S : FnScope N ps d.scope) (hd : d.dfl = []) (hb : BindN d ps)
    (len : ∀ vs H Q E, sp vs H Q E → vs.length = ps.length) (B : BodyOkX P w K mg base k N d sp) : Gt P w K mg base (L2.CX P w) (k + 1) x ps sp := by
  obtain ⟨fd, F⟩ := D
  refine ⟨_, fd, g, F.kp, ?_, fn_okX F S len B⟩
  have e : d.dvs K = [] := by unfold He.DefD.dvs; rw [hd]; rfl
  rw [e] at F
  exact F.bindsN hb
theorem gtG_mk {N : List Str} {d : He.DefD} (D : IsDef K d) (g : mg x = some (.ref (He.fAd K d.at_))) (S : FnScope N ps d.scope) (hd : d.dfl = []) (hb : BindN d ps)
    (len : ∀ vs H Q E, sp vs H Q E → vs.length = ps.length) (B : BodyOkG P w K mg base k N d sp) : GtG P w K mg base CX0 (k + 1) x ps sp := by
  obtain ⟨fd, F⟩ := D
  refine ⟨_, fd, g, F.kp, ?_, fn_okG F S len B⟩
  have e : d.dvs K = [] := by unfold He.DefD.dvs; rw [hd]; rfl
  rw [e] at F
  exact F.bindsN hb
/-- for walkM -/
theorem law_fd {N : List Str} {d : He.DefD} (D : IsDef K d) (S : FnScope N [x] d.scope) (hd : d.dfl = []) (hb : BindN d [x])
    (len : ∀ vs H Q E, sp vs H Q E → vs.length = [x].length) (B : ∀ base, BodyOkG P w K mg base k N d sp) :
    ∃ fd : FuncData, (∀ (s : Shared) (u : Value), BindsTo s fd ⟨[u], []⟩ [(x, u)]) ∧ ∀ base : Heap, FnG P w K mg base CX0 (k + 1) (He.fAd K d.at_) fd [x] sp := by
  obtain ⟨fd, F⟩ := D
  have F0 := F
  have e : d.dvs K = [] := by unfold He.DefD.dvs; rw [hd]; rfl
  rw [e] at F
  exact ⟨fd, fun s u => F.bindsA hb s [u] rfl, fun base => fn_okG F0 S len (B base)⟩
end

/-! ### names of the module -/
section
variable {X : Cx} {x : Str} {pos : Pos}
theorem pe_gint {i : Int} (h : ∃ t, X.mg x = some (.int i t)) (hg : Gl X x := by rfl) (hd : (x == ("__debug__" : Str)) = false := by decide) : PE X (.Name x pos) (tC (.int i)) := by
  obtain ⟨t, h⟩ := h
  exact pe_glob hg h ⟨t, rfl⟩ hd
theorem pe_gstr {z : Str} (h : ∃ t, X.mg x = some (.str z t)) (hg : Gl X x := by rfl) (hd : (x == ("__debug__" : Str)) = false := by decide) : PE X (.Name x pos) (tC (.str z)) := by
  obtain ⟨t, h⟩ := h
  exact pe_glob hg h ⟨t, rfl⟩ hd
theorem pe_gref {a : Addr} (h : X.mg x = some (.ref a)) (hg : Gl X x := by rfl) (hd : (x == ("__debug__" : Str)) = false := by decide) : PE X (.Name x pos) (tC (.ref a)) := pe_glob hg h rfl hd
theorem pe_gty {n : String} (h : X.mg x = none) (hv : bootBuiltins x = some (.type n)) (hg : Gl X x := by rfl) (hn : x ≠ "__name__" := by decide) (hd : (x == ("__debug__" : Str)) = false := by decide) : PE X (.Name x pos) (tC (.ty n)) := pe_bltn hg h hv rfl hn hd
end
/-! ### heaps: all that was told but one object stays -/
def Wk (a : Addr) (H H' : Hp) : Prop := ∀ b o, b ≠ a → H b = some o → H' b = some o
theorem Wk.refl (a : Addr) (H : Hp) : Wk a H H := fun _ _ _ h => h
theorem Wk.trans {a : Addr} {H H1 H2 : Hp} (x : Wk a H H1) (y : Wk a H1 H2) : Wk a H H2 := fun b o n h => y b o n (x b o n h)
theorem Wk.set {a : Addr} {H H' : Hp} {o : HO} (x : Wk a H H') : Wk a H (upd H' a o) := fun b u n h => by
  rw [upd_ne n]
  exact x b u n h
theorem Wk.new {a p : Addr} {H H' : Hp} {o : HO} (x : Wk a H H') (hp : H' p = none) : Wk a H (upd H' p o) := fun b u n h => by
  rw [upd_ne (ne_of_none (x b u n h) hp)]
  exact x b u n h
/-! ### the well of draws -/
def Wl (H : Hp) (a : Addr) (n : Nat) : Prop := ∃ x y c : Int, H a = some (.lst [.int x, .int y, .int c]) ∧ 0 ≤ x ∧ 0 ≤ y ∧ y < 2147483647 ∧ 0 ≤ c ∧ c ≤ n
theorem Wl.mono {H : Hp} {a : Addr} {n m : Nat} (h : Wl H a n) (l : n ≤ m) : Wl H a m := by
  obtain ⟨x, y, c, e, h1, h2, h3, h4, h5⟩ := h
  exact ⟨x, y, c, e, h1, h2, h3, h4, by omega⟩
theorem Wl.new {H : Hp} {a p : Addr} {o : HO} {n : Nat} (h : Wl H a n) (hp : H p = none) : Wl (upd H p o) a n := by
  obtain ⟨x, y, c, e, r⟩ := h
  exact ⟨x, y, c, by rw [upd_ne (ne_of_none e hp)]; exact e, r⟩
theorem Wl.some {H : Hp} {a : Addr} {n : Nat} (h : Wl H a n) : ∃ o, H a = some o := by
  obtain ⟨x, y, c, e, _⟩ := h
  exact ⟨_, e⟩
/-- a draw's end: the well a has gone on from at most n to at most m draws, all else stays -/
structure Dn (a : Addr) (m : Nat) (H H' : Hp) : Prop where
  wl : Wl H' a m
  k : Wk a H H'
theorem Dn.free {a p : Addr} {m : Nat} {H H' : Hp} (d : Dn a m H H') (h : H' p = none) : H p = none := by
  cases q : H p with
  | none => rfl
  | some o =>
    by_cases e : p = a
    · obtain ⟨u, hu⟩ := d.wl.some
      rw [e, hu] at h
      cases h
    · rw [d.k p o e q] at h
      cases h
theorem Dn.trans {a : Addr} {n m : Nat} {H H1 H2 : Hp} (x : Dn a n H H1) (y : Dn a m H1 H2) : Dn a m H H2 := ⟨y.wl, x.k.trans y.k⟩
theorem Dn.new {a p : Addr} {m : Nat} {H H' : Hp} {o : HO} (x : Dn a m H H') (hp : H' p = none) : Dn a m H (upd H' p o) := ⟨x.wl.new hp, x.k.new hp⟩
theorem Dn.mono {a : Addr} {m n : Nat} {H H' : Hp} (x : Dn a m H H') (l : m ≤ n) : Dn a n H H' := ⟨x.wl.mono l, x.k⟩
theorem Dn.at {a b : Addr} {m : Nat} {H H' : Hp} {o : HO} (d : Dn a m H H') (h : H b = some o) (n : b ≠ a) : H' b = some o := d.k b o n h
theorem Dn.rd {a b : Addr} {m : Nat} {H H' : Hp} {u : HO} (d : Dn a m H H') (h : Rd H b u) (n : b ≠ a) : Rd H' b u := by
  rcases h with h | ⟨o, h⟩
  · exact .inl (d.k b _ n h)
  · exact .inr ⟨o, d.k b _ n h⟩
theorem Dn.sql {K : PySem.W.Frag} {a b : Addr} {m : Nat} {H H' : Hp} {xs : List V} (d : Dn a m H H') (h : SqL K H b xs) (n : b ≠ a) : SqL K H' b xs := by
  rcases h with h | h
  · exact .inl (d.rd h n)
  · exact .inr h
theorem Dn.sqt {K : PySem.W.Frag} {a b : Addr} {m : Nat} {H H' : Hp} {xs : List V} (d : Dn a m H H') (h : SqT K H b xs) (n : b ≠ a) : SqT K H' b xs := by
  rcases h with h | h
  · exact .inl (d.rd h n)
  · exact .inr h
theorem log2_small_of {m : Nat} (h : m < 2 ^ 64) : m.log2 < 9000 := by
  by_cases h0 : m = 0
  · subst h0
    decide
  · exact Nat.lt_of_lt_of_le ((Nat.log2_lt h0).mpr h) (by decide)
/-- the promise of a draw -/
def spDraw : Sp := fun vs H Q _ => ∃ (a : Addr) (n : Nat) (m : Int), vs = [.ref a, .int m] ∧ Wl H a n ∧ n < 1000000 ∧ 0 < m ∧ m.natAbs.log2 < 9000 ∧
  ∀ (d : Int) (H' : Hp), 0 ≤ d → d < m → Dn a (n + 1) H H' → Q (.int d) H'
/-- the promise of a well -/
def spWell : Sp := fun vs H Q _ => ∃ z : Int, vs = [.int z] ∧ ∀ (a : Addr) (H' : Hp), H a = none → Wl H' a 0 → Evl.Ex H H' → Q (.ref a) H'
/-- one of some: the item at a drawn place -/
def spOne (K : PySem.W.Frag) : Sp := fun vs H Q _ => ∃ (a l : Addr) (n : Nat) (xs : List V), vs = [.ref a, .ref l] ∧ Wl H a n ∧ n < 1000000 ∧ SqL K H l xs ∧ l ≠ a ∧ 0 < xs.length ∧ xs.length ≤ 1000000 ∧
  ∀ (v : V) (H' : Hp), v ∈ xs → Dn a (n + 1) H H' → Q v H'
end TP

namespace TP
open PySem PySem.Spec PyProof.Rows L2

/-! ### the heap without one object -/
def hid (a : Addr) (H : Hp) : Hp := fun b => if b = a then none else H b
theorem hid_ne {a b : Addr} {H : Hp} (h : b ≠ a) : hid a H b = H b := if_neg h
theorem hid_same {a : Addr} {H : Hp} : hid a H a = none := if_pos rfl
theorem hid_ex {a : Addr} {H : Hp} : Evl.Ex (hid a H) H := fun b o h => by
  by_cases e : b = a
  · rw [e, hid_same] at h
    cases h
  · rwa [hid_ne e] at h
theorem hid_of {a b : Addr} {H : Hp} {o : HO} (h : H b = some o) (n : b ≠ a) : hid a H b = some o := by rw [hid_ne n]; exact h
theorem Wk.hx {a : Addr} {H H' : Hp} (k : Wk a H H') : Evl.Ex (hid a H) (hid a H') := fun b o h => by
  by_cases e : b = a
  · rw [e, hid_same] at h
    cases h
  · rw [hid_ne e] at h ⊢
    exact k b o e h
theorem Dn.hx {a : Addr} {m : Nat} {H H' : Hp} (d : Dn a m H H') : Evl.Ex (hid a H) (hid a H') := d.k.hx
theorem hid_new {a p : Addr} {H : Hp} {o : HO} (hp : H p = none) : Evl.Ex (hid a H) (hid a (upd H p o)) := (Wk.new (Wk.refl a H) hp).hx
theorem hid_at {a p : Addr} {H : Hp} {o : HO} (n : p ≠ a) : hid a (upd H p o) p = some o := by rw [hid_ne n, upd_same]
theorem Wl.nep {H : Hp} {a p : Addr} {n : Nat} (h : Wl H a n) (hp : H p = none) : p ≠ a := fun e => by
  obtain ⟨o, ho⟩ := h.some
  rw [e, ho] at hp
  cases hp
theorem Ex.wl {H H' : Hp} {a : Addr} {n : Nat} (e : Evl.Ex H H') (h : Wl H a n) : Wl H' a n := by
  obtain ⟨x, y, c, ea, r⟩ := h
  exact ⟨x, y, c, e _ _ ea, r⟩
theorem Ex.wk {H H' : Hp} (a : Addr) (e : Evl.Ex H H') : Wk a H H' := fun b o _ h => e b o h
theorem Ex.free {H H' : Hp} {p : Addr} (e : Evl.Ex H H') (h : H' p = none) : H p = none := by
  cases q : H p with
  | none => rfl
  | some o =>
    rw [e p o q] at h
    cases h

/-! ### things over larger heaps -/
mutual
theorem Dr.ex {K : PySem.W.Frag} {H H' : Hp} (x : Evl.Ex H H') : ∀ (d : PyData) (v : V), Dr K H v d → Dr K H' v d
  | .none, _, h => by cases h; exact .non
  | .bool _, _, h => by cases h; exact .bl _
  | .int _, _, h => by cases h; exact .int _
  | .str _, _, h => by cases h; exact .str _
  | .list ds, _, h => by
    cases h with
    | lst a b => exact .lst (Evl.ex_l x a) (DrAll.ex x ds _ b)
  | .tuple ds, _, h => by
    cases h with
    | tup a b => exact .tup (Evl.ex_t x a) (DrAll.ex x ds _ b)
  | .dict ds, _, h => by
    cases h with
    | dct a b => exact .dct (x _ _ a) (DrKv.ex x ds _ b)
theorem DrAll.ex {K : PySem.W.Frag} {H H' : Hp} (x : Evl.Ex H H') : ∀ (ds : List PyData) (vs : List V), DrAll K H vs ds → DrAll K H' vs ds
  | [], _, h => by cases h; exact .nil
  | d :: ds, _, h => by
    cases h with
    | cons a b => exact .cons (Dr.ex x d _ a) (DrAll.ex x ds _ b)
theorem DrKv.ex {K : PySem.W.Frag} {H H' : Hp} (x : Evl.Ex H H') : ∀ (ds : List (PyData × PyData)) (vs : List (Key × V)), DrKv K H vs ds → DrKv K H' vs ds
  | [], _, h => by cases h; exact .nil
  | (_, d) :: ds, _, h => by
    cases h with
    | cons a b => exact .cons (Dr.ex x d _ a) (DrKv.ex x ds _ b)
end
/-- the name of a thing's class -/
def tyN : PyData → String
  | .none => "NoneType"
  | .bool _ => "bool"
  | .int _ => "int"
  | .str _ => "str"
  | .list _ => "list"
  | .tuple _ => "tuple"
  | .dict _ => "dict"
theorem Dr.ty {K : PySem.W.Frag} {H : Hp} {v : V} {d : PyData} (h : Dr K H v d) : TyX K H v (.type (tyN d)) := by
  cases h with
  | non => exact .base .non
  | bl b => exact .base (.bl b)
  | int i => exact .base (.int i)
  | str x => exact .base (.str x)
  | lst a b =>
    rcases a with (a | ⟨o, a⟩) | a
    · exact .base (.lst a)
    · exact .base (.frz a)
    · obtain ⟨o, its, n, h1, h2, _⟩ := a
      exact .kList h1 h2
  | tup a b =>
    rcases a with (a | ⟨o, a⟩) | a
    · exact .base (.tup a)
    · exact .fTuple a
    · obtain ⟨o, its, n, h1, h2, _⟩ := a
      exact .kTuple h1 h2
  | dct a b => exact .base (.dK a)
/-- isinstance of such a thing -/
def tyNs : List String := ["NoneType", "bool", "int", "str", "list", "tuple", "dict"]
theorem tyN_mem (d : PyData) : tyN d ∈ tyNs := by cases d <;> (unfold tyN tyNs; simp)
theorem kit_tab : ∀ t ∈ tyNs, ∀ c ∈ ["str", "tuple", "list", "dict", "bool"], kitB t c = some (decide (t = c)) := by decide +kernel
theorem kit_tabI : ∀ t ∈ tyNs, kitB t "int" = some (decide (t = "int" ∨ t = "bool")) := by decide +kernel
theorem kit_thing {K : PySem.W.Frag} (d : PyData) {c : String} (hc : c ∈ ["str", "tuple", "list", "dict", "bool"] := by simp) : PySem.W.kitOne K (.type (tyN d)) (.type c) = some (decide (tyN d = c)) :=
  kit_ty (kit_tab _ (tyN_mem d) _ hc)
theorem kit_int {K : PySem.W.Frag} (d : PyData) : PySem.W.kitOne K (.type (tyN d)) (.type "int") = some (decide (tyN d = "int" ∨ tyN d = "bool")) := kit_ty (kit_tabI _ (tyN_mem d))

/-! ### how long what is shown is -/
mutual
def wt : PyData → Nat
  | .none => 4
  | .bool _ => 5
  | .int i => (PyData.shown (.int i)).length
  | .str x => (reprText x).length
  | .list xs => wtAll xs + 3
  | .tuple xs => wtAll xs + 3
  | .dict kvs => wtKv kvs + 3
def wtAll : List PyData → Nat
  | [] => 0
  | x :: xs => wt x + 2 + wtAll xs
def wtKv : List (PyData × PyData) → Nat
  | [] => 0
  | (k, v) :: r => wt k + wt v + 4 + wtKv r
end
mutual
theorem shown_wt : ∀ d : PyData, d.shown.length ≤ wt d
  | .none => by rw [PyData.shown_none, wt]; decide
  | .bool b => by rw [PyData.shown_bool, wt]; cases b <;> decide
  | .int i => by rw [wt]; exact Nat.le_refl _
  | .str x => by rw [PyData.shown_str, wt]; exact Nat.le_refl _
  | .list xs => by
    have h := shownAll_wt xs
    have e : (PyData.list xs).shown = listText (PyData.shownAll xs) := by rw [PyData.shown_list, listText_eq_join]
    have q := listText_len_le (PyData.shownAll xs)
    rw [e, wt]
    rw [PyData.shownAll_length] at q
    omega
  | .tuple xs => by
    have h := shownAll_wt xs
    have e : (PyData.tuple xs).shown = tupleText (PyData.shownAll xs) := by
      rw [PyData.shown_tuple]
      unfold tupleText
      rw [PyData.shownAll_length]
    have q := tupleText_len_le (PyData.shownAll xs)
    rw [e, wt]
    rw [PyData.shownAll_length] at q
    omega
  | .dict kvs => by
    have h := shownKv_wt kvs
    have e : (PyData.dict kvs).shown = dictText (PyData.shownKv kvs) := by rw [PyData.shown_dict]; rfl
    have q := dictText_len_le (PyData.shownKv kvs)
    rw [e, wt]
    rw [PyData.shownKv_length] at q
    omega
theorem shownAll_wt : ∀ xs : List PyData, ((PyData.shownAll xs).map (·.length)).sum + 2 * xs.length ≤ wtAll xs
  | [] => by rw [PyData.shownAll_nil]; simp [wtAll]
  | x :: xs => by
    have h1 := shown_wt x
    have h2 := shownAll_wt xs
    rw [PyData.shownAll_cons, wtAll, List.map_cons, List.sum_cons, List.length_cons]
    omega
theorem shownKv_wt : ∀ kvs : List (PyData × PyData), ((PyData.shownKv kvs).map (·.length)).sum + 2 * kvs.length ≤ wtKv kvs
  | [] => by rw [PyData.shownKv_nil]; simp [wtKv]
  | (k, v) :: r => by
    have h1 := shown_wt k
    have h2 := shown_wt v
    have h3 := shownKv_wt r
    have e : (": " : Str).length = 2 := by decide
    rw [PyData.shownKv_cons, wtKv, List.map_cons, List.sum_cons, List.length_cons, strLen_append, strLen_append, e]
    omega
end
/-- small things: shown by at most B signs, at most 20 deep -/
structure Sm (B : Nat) (d : PyData) : Prop where
  sh : d.showable = true
  wt : wt d ≤ B
  dp : d.depth ≤ 20
theorem Sm.mono {B C : Nat} {d : PyData} (h : Sm B d) (l : B ≤ C) : Sm C d := ⟨h.sh, Nat.le_trans h.wt l, h.dp⟩
theorem Sm.rp {B : Nat} {d : PyData} (h : Sm B d) (hb : B ≤ 1000000 := by decide) : d.showable = true ∧ d.depth ≤ 50 ∧ d.shown.length ≤ sizeLine :=
  ⟨h.sh, Nat.le_trans h.dp (by decide), Nat.le_trans (shown_wt d) (Nat.le_trans h.wt (Nat.le_trans hb (by decide)))⟩
theorem Sm.repr {K : PySem.W.Frag} {B : Nat} {d : PyData} {H : Hp} {v : V} {Q : VK} (h : Sm B d) (hb : B ≤ 1000000) (hd : Dr K H v d) (q : Q (.str d.shown) H) : rRepr K [v] H Q :=
  ⟨v, d, rfl, hd, h.sh, Nat.le_trans h.dp (by decide), Nat.le_trans (shown_wt d) (Nat.le_trans h.wt (Nat.le_trans hb (by decide))), q⟩

/-! ### texts -/
def rRepS : R2 := fun x y H Q => ∃ (z : Str) (n : Int), x = .str z ∧ y = .int n ∧ z.length ≤ 1000 ∧ 0 ≤ n ∧ n ≤ 1000 ∧ Q (.str (Txt.mul z n)) H
theorem op_repS {X : Cx} : OpR X (binaryOp .Mult) rRepS := by
  intro pins s σ H x y v u Q I rx ry h
  obtain ⟨z, n, rfl, rfl, hz, h0, h1, q⟩ := h
  obtain ⟨t, rfl⟩ := rx
  obtain ⟨t', rfl⟩ := ry
  refine SB.mul ⟨?_, fun a _ => ?_, fun a _ => ?_⟩ fun t' k => ⟨.str _, H, I.tok k, ⟨_, rfl⟩, q⟩
  · simp only [Bool.or_eq_false_iff, decide_eq_false_iff_not]
    omega
  · have : (1000 : Int) ≤ (2 ^ 63 - 1) / n := by
      rw [Int.le_ediv_iff_mul_le (by omega)]
      omega
    omega
  · have hm : z.length * n.toNat ≤ 1000 * 1000 := Nat.mul_le_mul hz (by omega)
    unfold Builtin.Str.tooLong
    simp only [decide_eq_false_iff_not]
    have : sizeLine = 16777216 := sizeLine_eq
    omega
end TP

namespace TP
open PySem PySem.Spec PyProof.Rows L2

/-! ### names -/
def LT : Str := "abcdefghijklmnopqrstuvwxyz"
theorem LT_list : LT.cps.toList = [97, 98, 99, 100, 101, 102, 103, 104, 105, 106, 107, 108, 109, 110, 111, 112, 113, 114, 115, 116, 117, 118, 119, 120, 121, 122] := by decide +kernel
theorem LT_mem {c : Nat} : c ∈ LT.cps.toList ↔ 97 ≤ c ∧ c ≤ 122 := by
  rw [LT_list]
  simp only [List.mem_cons, List.not_mem_nil, or_false]
  omega
def isNm (z : Str) : Bool := decide (1 ≤ z.length) && (decide (z.length ≤ 8) && z.cps.toList.all fun c => decide (c ∈ LT.cps.toList))
structure NmP (z : Str) : Prop where
  lo : 1 ≤ z.length
  hi : z.length ≤ 8
  sg : ∀ c ∈ z.cps.toList, c ∈ LT.cps.toList
theorem isNm_iff {z : Str} : isNm z = true ↔ NmP z := by
  unfold isNm
  simp only [Bool.and_eq_true, decide_eq_true_eq, List.all_eq_true]
  exact ⟨fun h => ⟨h.1, h.2.1, h.2.2⟩, fun h => ⟨h.lo, h.hi, h.sg⟩⟩
def isNmD : PyData → Bool
  | .str z => isNm z
  | _ => false
def isAdD : PyData → Bool
  | .tuple [a, b] => isNmD a && isNmD b
  | _ => false
theorem strLen (z : Str) : z.length = z.cps.toList.length := by show z.cps.size = _; simp
theorem NmP.short {z : Str} (h : NmP z) : (reprText z).length ≤ 82 := by
  have := StrLaws.reprText_len z (fun c hc => by have := LT_mem.mp (h.sg c hc); omega)
  have := h.hi
  omega
/-- the promise of a drawn name -/
def spName : Sp := fun vs H Q _ => ∃ (a : Addr) (n : Nat), vs = [.ref a] ∧ Wl H a n ∧ n < 900000 ∧ ∀ (z : Str) (H' : Hp), NmP z → Dn a (n + 20) H H' → Q (.str z) H'
/-- is_name(x), x any thing -/
def spIsName (K : PySem.W.Frag) : Sp := fun vs H Q _ => ∃ (x : V) (d : PyData), vs = [x] ∧ Dr K H x d ∧ (∀ z, d = .str z → z.length ≤ 1000000) ∧ ∀ H', Evl.Ex H H' → Q (.bl (isNmD d)) H'
def spIsAddr (K : PySem.W.Frag) : Sp := fun vs H Q _ => ∃ (x : V) (d : PyData), vs = [x] ∧ Dr K H x d ∧ (∀ ds, d = .tuple ds → ∀ e ∈ ds, ∀ z, e = .str z → z.length ≤ 1000000) ∧ ∀ H', Evl.Ex H H' → Q (.bl (isAdD d)) H'
theorem Dr.str_of {K : PySem.W.Frag} {H : Hp} {x : V} {d : PyData} (h : Dr K H x d) (e : tyN d = "str") : ∃ z, x = .str z ∧ d = .str z := by
  cases h with
  | str z => exact ⟨z, rfl, rfl⟩
  | non => exact (by simp [tyN] at e)
  | bl b => exact (by simp [tyN] at e)
  | int i => exact (by simp [tyN] at e)
  | lst a b => exact (by simp [tyN] at e)
  | tup a b => exact (by simp [tyN] at e)
  | dct a b => exact (by simp [tyN] at e)
theorem Dr.tup_of {K : PySem.W.Frag} {H : Hp} {x : V} {d : PyData} (h : Dr K H x d) (e : tyN d = "tuple") : ∃ a xs ds, x = .ref a ∧ d = .tuple ds ∧ SqT K H a xs ∧ DrAll K H xs ds := by
  cases h with
  | tup a b => exact ⟨_, _, _, rfl, rfl, a, b⟩
  | non => exact (by simp [tyN] at e)
  | bl b => exact (by simp [tyN] at e)
  | int i => exact (by simp [tyN] at e)
  | lst a b => exact (by simp [tyN] at e)
  | str z => exact (by simp [tyN] at e)
  | dct a b => exact (by simp [tyN] at e)
theorem isNmD_no {d : PyData} (h : ¬ tyN d = "str") : isNmD d = false := by
  cases d <;> first | rfl | exact absurd rfl h
theorem isAdD_no {d : PyData} (h : ¬ tyN d = "tuple") : isAdD d = false := by
  cases d <;> first | rfl | exact absurd rfl h
theorem DrAll.len {K : PySem.W.Frag} {H : Hp} : ∀ {xs : List V} {ds : List PyData}, DrAll K H xs ds → xs.length = ds.length
  | _, _, .nil => rfl
  | _, _, .cons _ h => by rw [List.length_cons, List.length_cons, DrAll.len h]
theorem DrAll.at {K : PySem.W.Frag} {H : Hp} : ∀ {xs : List V} {ds : List PyData} {i : Nat} {x : V}, DrAll K H xs ds → xs[i]? = some x → ∃ d, ds[i]? = some d ∧ Dr K H x d
  | _, _, 0, _, .cons h _, e => by
    cases e
    exact ⟨_, rfl, h⟩
  | _, _, i + 1, _, .cons _ h, e => by
    obtain ⟨d, h1, h2⟩ := DrAll.at (i := i) h (by simpa using e)
    exact ⟨d, by simpa using h1, h2⟩
theorem atC_of {cs : List Nat} {z : Int} {j : Nat} {v : Nat} (e : z = (j : Int)) (h : cs[j]? = some v) : atI cs z = some v := by
  rw [e]
  exact atI_nat h
theorem emp_codes {c : Nat} (h : c ∈ ("" : Str).cps.toList) : False := by
  have e : ("" : Str).cps.toList = [] := by decide +kernel
  rw [e] at h
  cases h
theorem app_codes (x y : Str) : (x ++ y).cps.toList = x.cps.toList ++ y.cps.toList := by
  show (x.cps ++ y.cps).toList = _
  simp
/-! ### short plain texts -/
structure As (B : Nat) (z : Str) : Prop where
  len : z.length ≤ B
  sg : ∀ c ∈ z.cps.toList, c < 128
theorem As.mono {B C : Nat} {z : Str} (h : As B z) (l : B ≤ C) : As C z := ⟨Nat.le_trans h.len l, h.sg⟩
theorem NmP.as {z : Str} (h : NmP z) : As 8 z := ⟨h.hi, fun c hc => by have := LT_mem.mp (h.sg c hc); omega⟩
theorem As.app {B C : Nat} {x y : Str} (h : As B x) (g : As C y) : As (B + C) (x ++ y) := ⟨by rw [strLen_append]; exact Nat.add_le_add h.len g.len, fun c hc => by
  rw [app_codes] at hc
  exact (List.mem_append.mp hc).elim (h.sg c) (g.sg c)⟩
theorem cutS_codes (z : Str) (lo hi : Option Int) : (cutS z lo hi).cps.toList = ((z.cps.toList.drop (HT.sIx z.length 0 lo)).take (HT.sIx z.length z.length hi - HT.sIx z.length 0 lo)) := by
  unfold cutS
  rfl
theorem As.cut {B : Nat} {z : Str} (h : As B z) (lo hi : Option Int) : As B (cutS z lo hi) := ⟨by
    have := h.len
    rw [strLen, cutS_codes, List.length_take, List.length_drop, ← strLen]
    omega, fun c hc => by
    rw [cutS_codes] at hc
    exact h.sg c (List.mem_of_mem_drop (List.mem_of_mem_take hc))⟩
theorem mul2 (z : Str) : Txt.mul z 2 = if (z.length == 0) = true then z else z ++ z := by
  unfold Txt.mul
  rw [if_neg (by decide)]
  by_cases h : (z.length == 0) = true
  · rw [if_pos (by rw [h]; rfl), if_pos h]
  · rw [if_neg (by simpa using h), if_neg h]
    show (⟨(#[] ++ z.cps) ++ z.cps⟩ : Str) = ⟨z.cps ++ z.cps⟩
    simp
theorem As.two {B : Nat} {z : Str} (h : As B z) : As (B + B) (Txt.mul z 2) := by
  rw [mul2]
  by_cases e : (z.length == 0) = true
  · rw [if_pos e]
    exact h.mono (by omega)
  · rw [if_neg e]
    exact h.app h
theorem As.size {B : Nat} {z : Str} (h : As B z) (l : B ≤ 1000000) : z.length ≤ sizeLine := Nat.le_trans (Nat.le_trans h.len l) (by decide)
theorem As.short {B : Nat} {z : Str} (h : As B z) : (reprText z).length ≤ 10 * B + 2 := by
  have := StrLaws.reprText_len z (fun c hc => Nat.lt_of_lt_of_le (h.sg c hc) (by decide))
  have := h.len
  omega
theorem As.one {c : Nat} (h : c < 128) : As 1 ⟨#[c]⟩ := ⟨Nat.le_refl _, fun d hd => by
  have : d = c := by simpa using hd
  omega⟩
/-! ### things of a law -/
def Sh (d : PyData) : Prop := ∀ z, d = .str z → As 1000000 z
def ShA (d : PyData) : Prop := ∀ ds, d = .tuple ds → ∀ e ∈ ds, Sh e
structure ThP (B : Nat) (d : PyData) : Prop where
  sm : Sm B d
  sh : Sh d
  sa : ShA d
theorem ThP.mono {B C : Nat} {d : PyData} (h : ThP B d) (l : B ≤ C) : ThP C d := ⟨h.sm.mono l, h.sh, h.sa⟩
theorem Sm.str {B : Nat} {z : Str} (h : As B z) : Sm (10 * B + 2) (.str z) := ⟨rfl, by rw [TP.wt]; exact h.short, by rw [PyData.depth]; decide⟩
theorem ThP.str {B : Nat} {z : Str} (h : As B z) (l : B ≤ 1000000) : ThP (10 * B + 2) (.str z) := ⟨Sm.str h, fun y e => by cases e; exact h.mono l, fun _ e => nomatch e⟩
theorem smallInt {i : Int} (h : i.natAbs < 2 ^ 64) : (PyData.int i).showable = true := by
  show decide (i.natAbs.log2 < 1920) = true
  refine decide_eq_true ?_
  by_cases h0 : i.natAbs = 0
  · rw [h0]
    decide
  · exact Nat.lt_of_lt_of_le ((Nat.log2_lt h0).mpr h) (by decide)
theorem dpStrs {K : PySem.W.Frag} {H : Hp} {α : Type} (g : α → Str) : ∀ l : List α, DpAll K H (l.map fun i => V.str (g i)) (l.map fun i => PyData.str (g i))
  | [] => .nil
  | _ :: l => .cons (.str _) (dpStrs g l)
theorem canStrs {α : Type} (g : α → Str) (hg : ∀ i, PyData.strOk (g i) = true) : ∀ l : List α, PyData.canLayAll0 (l.map fun i => PyData.str (g i)) = true
  | [] => rfl
  | i :: l => by
    show (PyData.canLay0 (.str (g i)) && PyData.canLayAll0 (l.map fun i => PyData.str (g i))) = true
    rw [canStrs g hg l, show PyData.canLay0 (.str (g i)) = true from hg i]
    rfl
theorem depthStrs {α : Type} (g : α → Str) : ∀ l : List α, PyData.depthAll (l.map fun i => PyData.str (g i)) = 0
  | [] => rfl
  | _ :: l => by
    show max 0 (PyData.depthAll _) = 0
    rw [depthStrs g l]
    rfl
theorem shapedStrs {α : Type} (g : α → Str) (hg : ∀ i, PyData.strOk (g i) = true) (l : List α) : SeqAt.shaped (.list (l.map fun i => PyData.str (g i))) = true := by
  unfold SeqAt.shaped
  rw [show PyData.canLay0 (.list (l.map fun i => PyData.str (g i))) = true from canStrs g hg l, show (PyData.list (l.map fun i => PyData.str (g i))).depth = PyData.depthAll (l.map fun i => PyData.str (g i)) + 1 from rfl, depthStrs]
  decide
theorem eqv_nil (l : List PyData) : PyData.eqv (.list l) (.list []) = l.isEmpty := by
  cases l <;> rfl
/-! ### comprehensions whose elements leave what was told -/
theorem range_filter_succ (p : Nat → Bool) (i : Nat) : (List.range (i + 1)).filter p = (List.range i).filter p ++ (if p i = true then [i] else []) := by
  rw [List.range_succ, List.filter_append]
  congr 1
  by_cases h : p i = true
  · rw [if_pos h]; simp [h]
  · rw [if_neg h]; simp [h]
theorem lc_fm {J : It} {n : Nat} {G : Hp → Prop} {Y : Nat → Hp → V → Hp → Prop} (w : Walk J n G Y) {g : TG} {tt : TT} {te : TE} {vs : List Nat} {σ : L2.St} {H1 : Hp} {D : Addr} {Qd : Hp → Prop} (p : Nat → Bool) (F : Nat → V)
    (hD : H1 D = none) (hn : n < 1000000) (hG : ∀ H, Evl.Ex H1 H → G H)
    (hs : ∀ (i : Nat) (x : V) (H H' : Hp) (C : V → Hp → Prop) (N : Hp → Prop), i < n → Evl.Ex H1 H → Y i H x H' → (p i = true → ∀ H4, Evl.Ex H H4 → C (F i) H4) → (p i = false → ∀ H3, Evl.Ex H H3 → N H3) →
      g x (wipe σ vs) H' fun σ2 H2 => wipe σ2 vs = wipe σ vs ∧ tt σ2 H2 fun b H3 => if b = true then te σ2 H3 C else N H3)
    (hd : ∀ H', Evl.Ex H1 H' → H' D = some (.lst (((List.range n).filter p).map F)) → Qd H') :
    ∃ W : Nat → Nat → Hp → Prop, (∃ m, W 0 m (upd H1 D (.lst []))) ∧ ∀ i m H, W i m H →
      (J.stop i H ∧ Qd H) ∨ (J.go i H ∧ ∃ Nx : Hp → Prop, (∀ H', Nx H' → ∃ m', m' < m ∧ W (i + 1) m' H') ∧ ∀ x H', J.yld i H x H' → g x (wipe σ vs) H' fun σ2 H2 => wipe σ2 vs = wipe σ vs ∧ tt σ2 H2 fun b H3 =>
        if b = true then te σ2 H3 fun y H4 => ∃ acc, H4 D = some (.lst acc) ∧ acc.length < sizeLine ∧ Nx (upd H4 D (.lst (acc ++ [y]))) else Nx H3) := by
  refine lc_it w (fun i H => Evl.Ex H1 H ∧ H D = some (.lst (((List.range i).filter p).map F))) ⟨Evl.Ex.new hD, upd_same⟩ (fun i H _ q => hG H q.1) (fun i x H H' hi q y => ?_) (fun H q => hd H q.1 q.2)
  refine hs i x H H' _ _ hi q.1 y (fun hp H4 e => ⟨_, e _ _ q.2, ?_, fun b o hb => ?_, ?_⟩) (fun hp H3 e => ⟨q.1.trans e, ?_⟩)
  · have h1 : (((List.range i).filter p).map F).length ≤ i := by
      rw [List.length_map]
      exact Nat.le_trans (List.length_filter_le _ _) (by rw [List.length_range]; exact Nat.le_refl _)
    have : sizeLine = 16777216 := sizeLine_eq
    omega
  · rw [upd_ne (ne_of_none hb hD)]
    exact e _ _ (q.1 _ _ hb)
  · rw [upd_same, range_filter_succ, if_pos hp, List.map_append]
    rfl
  · rw [e _ _ q.2, range_filter_succ, if_neg (by rw [hp]; exact Bool.false_ne_true), List.append_nil]
theorem range_map_get {α β : Type} (f : α → β) (d : α) : ∀ l : List α, (List.range l.length).map (fun i => f (l.getD i d)) = l.map f := fun l => by
  refine List.ext_getElem (by simp) fun i h1 h2 => ?_
  simp at h1
  simp [h1]
theorem none_amiss (l : List Nat) (f : Nat → Bool) : (((List.range l.length).filter fun i => !f (l.getD i 0)).isEmpty) = l.all f := by
  have e : l.all f = ((List.range l.length).map fun i => f (l.getD i 0)).all id := by rw [range_map_get, List.all_map]; rfl
  rw [e, List.all_map]
  cases h : ((List.range l.length).filter fun i => !f (l.getD i 0)) with
  | nil =>
    have h2 := List.filter_eq_nil_iff.mp h
    refine (List.all_eq_true.mpr fun i hi => ?_).symm
    have := h2 i hi
    simpa using this
  | cons j r =>
    have hj : j ∈ (List.range l.length).filter fun i => !f (l.getD i 0) := by rw [h]; exact List.mem_cons_self
    obtain ⟨h1, h2⟩ := List.mem_filter.mp hj
    symm
    refine Bool.eq_false_iff.mpr fun q => ?_
    have := List.all_eq_true.mp q j h1
    simp at h2 this
    rw [this] at h2
    cases h2
theorem cut_mem {xs : List V} {lo hi : Option Int} {x : V} (h : x ∈ cutV xs lo hi) : x ∈ xs := by
  unfold cutV at h
  exact List.mem_of_mem_drop (List.mem_of_mem_take h)
theorem cells_int {ns : List Int} {lo hi : Option Int} {i : Nat} {x : V} (h : (cutV (ns.map V.int) lo hi ++ [.int 0, .int 1])[i]? = some x) : ∃ z, x = .int z := by
  rcases List.mem_append.mp (List.mem_of_getElem? h) with q | q
  · obtain ⟨z, _, rfl⟩ := List.mem_map.mp (cut_mem q)
    exact ⟨z, rfl⟩
  · simp only [List.mem_cons, List.not_mem_nil, or_false] at q
    rcases q with rfl | rfl
    · exact ⟨0, rfl⟩
    · exact ⟨1, rfl⟩
theorem cells_len {ns : List Int} {lo hi : Option Int} (h : ns.length ≤ 63) : (cutV (ns.map V.int) lo hi).length + [V.int 0, V.int 1].length ≤ sizeLine := by
  have h1 := cutV_length (ns.map V.int) lo hi
  rw [List.length_map] at h1
  have : sizeLine = 16777216 := sizeLine_eq
  show _ + 2 ≤ _
  omega
theorem ThP.tup2 {B C : Nat} {a b : PyData} (ha : ThP B a) (hb : ThP C b) (l1 : a.depth ≤ 10) (l2 : b.depth ≤ 10) : ThP (B + C + 7) (.tuple [a, b]) := by
  refine ⟨⟨?_, ?_, ?_⟩, fun _ e => (nomatch e), fun ds e d hd => ?_⟩
  · show (a.showable && (b.showable && true)) = true
    rw [ha.sm.sh, hb.sm.sh]
    rfl
  · have h1 := ha.sm.wt
    have h2 := hb.sm.wt
    simp only [wt, wtAll]
    omega
  · simp only [PyData.depth, PyData.depthAll]
    omega
  · cases e
    simp only [List.mem_cons, List.not_mem_nil, or_false] at hd
    rcases hd with rfl | rfl
    · exact ha.sh
    · exact hb.sh
theorem filter_yes (n : Nat) : (List.range n).filter (fun _ => true) = List.range n := List.filter_eq_self.mpr fun _ _ => rfl
theorem yes_ok {σ : L2.St} {H : Hp} {te : TE} {C : V → Hp → Prop} {N : Hp → Prop} (h : te σ H C) : tYes σ H fun b H3 => if b = true then te σ H3 C else N H3 := by
  show if true = true then te σ H C else N H
  rw [if_pos rfl]
  exact h
theorem iteYes {A B : Prop} (h : A) : if true = true then A else B := by rw [if_pos rfl]; exact h
end TP

namespace TP
open PySem PySem.Spec PyProof.Rows L2

/-! ### zip of a dict's keys and a list -/
section
variable {prog : Program} {w : World} {A : Around} {E : Value → Shared → Prop} {s : Shared}
theorem nextOf_key {it d : Addr} {i ep : Nat} {es : Array DictEntry} {Q : Value → Shared → Prop} (hit : s.heap.IsKeyIter it d i es.size ep) (hm : s.heap.DictRaw d es ep) (hlt : i < es.size)
    (hQ : ∀ h', h'.IsKeyIter it d (i + 1) es.size ep → Heap.SameBut it s.heap h' → Q es[i].key { s with heap := h' }) : wpAny (model prog w) A (Builtin.SmallTypes.nextOf (.ref it)) Q E s := by
  obtain ⟨o, ho, hc, hd⟩ := id hit
  obtain ⟨od, hod, hcd, hdd⟩ := id hm
  unfold Builtin.SmallTypes.nextOf
  refine wpAny_bind (wpAny_callSpecial?_slot (name := Str.ofString "__next__") hit.typeIs F.slot_dict_keyiterator_next
    (wpAny_call_entry F.slot_dict_keyiterator_next hit.typeIs F.entry_dict_keyiterator_next ?_ (F.args_dict_keyiterator_next_1 _)))
  refine wpAny_bind (wpAny_pure ?_)
  refine wpAny_bind (wpAny_bind ?_)
  first
    | refine wpAny_bind (wpAny_typeNameOfWhole_keyiter hit.typeIs (wpAny_pure ?_))
    | refine wpAny_bind (wpAny_typeNameOf_keyiter hit.typeIs (wpAny_pure ?_))
  refine wpAny_bind (wpAny_fieldsOf ho hd ?_)
  simp only [show Builtin.Dict_items.ownsTuple "dict_keyiterator" = false by decide, Bool.false_eq_true, if_false]
  show wpAny _ _ (if (Value.ref d == Value.none) = true then _ else _) _ _ s
  rw [if_neg (show ¬ ((Value.ref d == Value.none) = true) from Bool.false_ne_true)]
  refine wpAny_bind (wpAny_pure (wpAny_bind (wpAny_dictEntries hod hdd ?_)))
  rw [if_neg (by simp)]
  refine wpAny_bind (wpAny_pure (wpAny_bind (wpAny_dictEpoch hod hdd ?_)))
  rw [if_neg (by simp)]
  refine wpAny_pure ?_
  simp only [show ¬ ((i : Int) < 0) from by omega, if_false, Int.toNat_natCast, Array.getElem?_eq_getElem hlt]
  refine wpAny_bind ?_
  first
    | refine wpAny_bind (wpAny_typeNameOfWhole_keyiter hit.typeIs (wpAny_pure ?_))
    | refine wpAny_bind (wpAny_typeNameOf_keyiter hit.typeIs (wpAny_pure ?_))
  refine wpAny_bind (wpAny_isOneOf_keyiter hit.typeIs ?_)
  show wpAny _ _ (setField (.ref it) 1 (rawInt ((i : Int) + 1)) >>= _) _ _ s
  refine wpAny_bind (wpAny_setField ho hd (by simp) ?_)
  have hit2 : (s.heap.update it (Obj.mapFields (·.setIfInBounds 1 (rawInt ((i : Int) + 1))))).IsKeyIter it d (i + 1) es.size ep :=
    ⟨_, Heap.get?_update_self _ ho (Obj.isFreed_of_fields (Obj.data_mapFields hd _)), (Obj.cls_mapFields ..).trans hc, by rw [Obj.data_mapFields hd]; simp [rawInt]⟩
  refine wpAny_bind (wpAny_holding (wpAny_bind (wpAny_isOneOf_keyiter (s := { s with heap := s.heap.update it (Obj.mapFields (·.setIfInBounds 1 (rawInt ((i : Int) + 1)))) }) hit2.typeIs ?_)))
  show wpAny _ _ (pure es[i].key) _ _ _
  exact wpAny_pure (wpAny_pure ⟨_, rfl, wpAny_pure (hQ _ hit2 (Heap.SameBut.update ..))⟩)
theorem nextOf_keyEnd {it d : Addr} {i ep : Nat} {es : Array DictEntry} {Q : Value → Shared → Prop} (hh : A.handled = none) (hit : s.heap.IsKeyIter it d i es.size ep) (hm : s.heap.DictRaw d es ep) (hge : es.size ≤ i)
    (hE : ∀ h' e, Heap.ExtBut it s.heap h' → (∃ o, h'.get? e = some o ∧ o.cls = .type "StopIteration") → E (.ref e) { s with heap := h' }) : wpAny (model prog w) A (Builtin.SmallTypes.nextOf (.ref it)) Q E s := by
  obtain ⟨o, ho, hc, hd⟩ := id hit
  obtain ⟨od, hod, hcd, hdd⟩ := id hm
  unfold Builtin.SmallTypes.nextOf
  refine wpAny_bind (wpAny_callSpecial?_slot (name := Str.ofString "__next__") hit.typeIs F.slot_dict_keyiterator_next
    (wpAny_call_entry F.slot_dict_keyiterator_next hit.typeIs F.entry_dict_keyiterator_next ?_ (F.args_dict_keyiterator_next_1 _)))
  refine wpAny_bind (wpAny_pure ?_)
  refine wpAny_bind (wpAny_bind ?_)
  first
    | refine wpAny_bind (wpAny_typeNameOfWhole_keyiter hit.typeIs (wpAny_pure ?_))
    | refine wpAny_bind (wpAny_typeNameOf_keyiter hit.typeIs (wpAny_pure ?_))
  refine wpAny_bind (wpAny_fieldsOf ho hd ?_)
  simp only [show Builtin.Dict_items.ownsTuple "dict_keyiterator" = false by decide, Bool.false_eq_true, if_false]
  show wpAny _ _ (if (Value.ref d == Value.none) = true then _ else _) _ _ s
  rw [if_neg (show ¬ ((Value.ref d == Value.none) = true) from Bool.false_ne_true)]
  refine wpAny_bind (wpAny_pure (wpAny_bind (wpAny_dictEntries hod hdd ?_)))
  rw [if_neg (by simp)]
  refine wpAny_bind (wpAny_pure (wpAny_bind (wpAny_dictEpoch hod hdd ?_)))
  rw [if_neg (by simp)]
  refine wpAny_pure ?_
  simp only [show ¬ ((i : Int) < 0) from by omega, if_false, Int.toNat_natCast, Array.getElem?_eq_none hge]
  refine wpAny_bind ?_
  first
    | refine wpAny_bind (wpAny_typeNameOfWhole_keyiter hit.typeIs (wpAny_pure ?_))
    | refine wpAny_bind (wpAny_typeNameOf_keyiter hit.typeIs (wpAny_pure ?_))
  show wpAny _ _ (setField (.ref it) 0 .none >>= _) _ _ s
  refine wpAny_bind (wpAny_setField ho hd (by simp) ?_)
  show wpAny _ _ (newExc (.type "StopIteration") [] >>= _) _ _ _
  refine wpAny_bind ?_
  simp only [newExc, newTuple]
  refine wpAny_bind (wpAny_newObj_type ?_ (by size_fits))
  refine wpAny_bind (m := firstArgMember _ _) (wpAny_of_eq (a := Value.none) (by first | rfl | (simp only [firstArgMember]; rfl)) ?_)
  refine wpAny_newObj_type ?_ (by size_fits)
  simp only [raiseNew]
  refine wpAny_bind (wpAny_handled ?_)
  rw [show A.in1.handled = none from hh]
  refine wpAny_bind (wpAny_pure (wpAny_throw ?_))
  exact hE _ _ (((Heap.SameBut.update ..).extBut.push _).push _) ⟨_, Heap.get?_push_size _ rfl, rfl⟩
end
theorem drawsKeys {prog : Program} {w : World} {A : Around} (hh : A.handled = none) (it d : Addr) (hne : d ≠ it) (es : Array DictEntry) (ep : Nat) :
    Draws prog w A it [it, d] es.size (fun i v => (es[i]?).map (fun e => e.key) = some v) (fun i h => h.IsKeyIter it d i es.size ep ∧ h.DictRaw d es ep) where
  live := fun i h st => by
    obtain ⟨⟨o, ho, _⟩, _⟩ := st
    exact ⟨o, ho⟩
  frame := fun i h h' st k => by
    obtain ⟨⟨o, ho, r⟩, y⟩ := st
    exact ⟨⟨o, k it (by simp) o ho, r⟩, y.at fun o q => k d (by simp) o q⟩
  item := fun i s Q E hi st hQ => nextOf_key st.1 st.2 hi fun h' z sb => hQ _ h' s.toks (by simp [hi]) ⟨z, st.2.at fun o q => (sb.2 _ hne).trans q⟩ sb
  done := fun s Q E st hE => nextOf_keyEnd hh st.1 st.2 (Nat.le_refl _) hE
theorem begins_dict (d : Addr) (es : Array DictEntry) (ep : Nat) (lo : (d == sysModules) = false) :
    Begins (.ref d) { cls := .type "dict_keyiterator", data := .fields #[.ref d, .int 0 0, .int es.size 0, .int ep 0] } fun h => h.DictRaw d es ep where
  iter := fun prog w A E s Q hl h => wpAny_pyIter_dict_raw lo hl h
  keeps := fun h h' x hk => x.at fun o e => hk d o e
  free := rfl

/-! ### a written table walked along with a list -/
/-- the table's keys ks, in order, in the written part -/
structure KKeys (K : PySem.W.Frag) (d : Addr) (es : Array DictEntry) (ep : Nat) (ks : List Str) : Prop where
  at_ : K.lookup d = some ⟨.type "dict", none, .dict es ep, #[]⟩
  low : (d == sysModules) = false
  size : es.size = ks.length
  key : ∀ (i : Nat) (u : Value), (es[i]?).map (fun e => e.key) = some u → ∃ (z : Str) (t : Tok), ks[i]? = some z ∧ u = Value.str z t
theorem kkeys_of {K : PySem.W.Frag} {w : World} {d : Addr} {es : Array DictEntry} {n : Nat} {ks : List Str} (D : KDict K w d es n) (e : es.toList.map He.keyOf = He.keysIn w.params ks) : KKeys K d es n ks := by
  refine ⟨D.at_, D.low, ?_, fun i u h => ?_⟩
  · have h := congrArg List.length e
    simp only [He.keysIn, List.length_map, Array.length_toList] at h
    exact h
  · have h2 : (es.toList.map He.keyOf)[i]? = (He.keysIn w.params ks)[i]? := by rw [e]
    unfold He.keysIn at h2
    rw [List.getElem?_map, List.getElem?_map, Array.getElem?_toList] at h2
    cases q : es[i]? with
    | none =>
      rw [q] at h
      cases h
    | some x =>
      rw [q] at h h2
      cases r : ks[i]? with
      | none =>
        rw [r] at h2
        cases h2
      | some z =>
        rw [r] at h2
        have h3 : He.keyOf x = some (z, PyData.keyHash w.params z) := Option.some.inj h2
        unfold He.keyOf at h3
        split at h3
        · rename_i y t hy
          have h4 := Option.some.inj h3
          injection h4 with h5 h6
          have h7 : x.key = u := Option.some.inj h
          exact ⟨z, t, rfl, by rw [← h7, hy, h5]⟩
        · cases h3
def Itkz (K : PySem.W.Frag) (ks : List Str) (b : Addr) : It :=
  ⟨fun i H => i < ks.length ∧ ∃ (ys : List V) (y : V), SqL K H b ys ∧ ys[i]? = some y,
    fun i H v H' => ∃ T z y, v = .ref T ∧ H T = none ∧ H' = upd H T (.tup [.str z, y]) ∧ ks[i]? = some z ∧ ∀ ys, SqL K H b ys → ys[i]? = some y,
    fun i H => ∃ ys : List V, SqL K H b ys ∧ i = ks.length ∧ i = ys.length⟩
theorem walk_kz {K : PySem.W.Frag} {ks : List Str} {b : Addr} {ys : List V} (hn : ks.length = ys.length) : Walk (Itkz K ks b) ks.length (fun H => SqL K H b ys) (YPair (fun i => (ks[i]?).map V.str) (fun i => ys[i]?)) := by
  refine ⟨fun i H hi q => ⟨hi, ys, ys[i]'(by omega), q, by simp [show i < ys.length by omega]⟩, fun H q => ⟨ys, q, rfl, hn⟩, fun i H v H' hi q y => ?_⟩
  obtain ⟨T, z, y, h1, h2, h3, h4, h5⟩ := y
  exact ⟨T, .str z, y, h1, h2, h3, by simp [h4], h5 ys q⟩
theorem ne_of_ne {a b : Nat} (h : a ≠ b) : (show Addr from a) ≠ (show Addr from b) := h
theorem nin2 {a b c : Nat} (h1 : a ≠ b) (h2 : a ≠ c) : (show Addr from a) ∉ [(show Addr from b), (show Addr from c)] := by
  intro h
  rcases List.mem_cons.mp h with q | q
  · exact h1 q
  · rcases List.mem_cons.mp q with q | q
    · exact h2 q
    · cases q
theorem sep_of (n d b : Nat) (hd : d < n) (hb : b < n) : ZipSep2 (n + 4) (n + 2) (n + 3) n (n + 1) [n, d] [n + 1, b] where
  TIz := ne_of_ne (by omega)
  TOz := ne_of_ne (by omega)
  TITO := ne_of_ne (by omega)
  TIi1 := ne_of_ne (by omega)
  mem1 := .head _
  zf1 := nin2 (by omega) (by omega)
  Tf1 := nin2 (by omega) (by omega)
  TIi2 := ne_of_ne (by omega)
  mem2 := .head _
  zf2 := nin2 (by omega) (by omega)
  Tf2 := nin2 (by omega) (by omega)
  sep1_2 := nin2 (by omega) (by omega)
  sep2_1 := nin2 (by omega) (by omega)
theorem turn_kz {P : Program} {w : World} {K : PySem.W.Frag} {elts : List Expr} {kk : Nat} {tpos : Pos} {d b z TI TO i1 i2 : Addr} {es : Array DictEntry} {ep : Nat} {ks : List Str} (D : KKeys K d es ep ks)
    (S : ZipSep2 z TI TO i1 i2 [i1, d] [i2, b]) (n1 : i1 ≠ d) (n2 : i2 ≠ b) :
    Turn P w K (.Tuple elts kk tpos) (Itkz K ks b) [z, TI, TO, i1, i2] z (fun i h => IsZip h z TI TO .none ∧ IsTupOf2 h TI (.ref i1) (.ref i2) ∧ (∃ x y, IsTupOf2 h TO x y) ∧ h.IsKeyIter i1 d i es.size ep ∧ h.IsListIter i2 b i) where
  mem := by simp
  obj := fun i h st c hc => by
    obtain ⟨hz, hTI, ⟨x, y, hTO⟩, ⟨o1, e1, _, d1⟩, ⟨o2, e2, _, d2⟩⟩ := st
    have e' : c = z ∨ c = TI ∨ c = TO ∨ c = i1 ∨ c = i2 := by simpa using hc
    rcases e' with q | q | q | q | q
    · rw [q]; exact ⟨_, hz, fun v q => nomatch q⟩
    · rw [q]; exact ⟨_, hTI, fun v q => nomatch q⟩
    · rw [q]; exact ⟨_, hTO, fun v q => nomatch q⟩
    · rw [q]; exact ⟨o1, e1, fun v q => by rw [d1] at q; cases q⟩
    · rw [q]; exact ⟨o2, e2, fun v q => by rw [d2] at q; cases q⟩
  keep := fun i h h' st k => by
    obtain ⟨hz, hTI, ⟨x, y, hTO⟩, ⟨o1, e1, r1⟩, h2⟩ := st
    exact ⟨k z (by simp) _ hz, k TI (by simp) _ hTI, ⟨x, y, k TO (by simp) _ hTO⟩, ⟨o1, k i1 (by simp) o1 e1, r1⟩, h2.at fun o q => k i2 (by simp) o q⟩
  item := by
    intro X hP hw hK hc i pins s σ H E I hf st hg
    subst hP hw hK
    obtain ⟨hz, hTI, ⟨x0, y0, hTO⟩, h1, h2⟩ := st
    obtain ⟨hi, ys, y, hqy, hy⟩ := hg
    obtain ⟨its2, rv2, p2, _⟩ := I.list hqy
    have hzl : z < s.heap.objs.size := Heap.lt_size hz
    have raw : s.heap.DictRaw d es ep := ⟨_, I.kIn _ _ D.at_, ⟨rfl, rfl, rfl⟩, rfl⟩
    have hl2 : i < its2.toArray.size := by
      have h := (List.getElem?_eq_some_iff.mp hy).1
      have := rv2.length
      simp
      omega
    refine wpAny_pyNext_zipD2_item S (drawsKeys (A := X.A.in1) (I.ok.hd hc) i1 d n1.symm es ep) (Draws.list (A := X.A.in1) (I.ok.hd hc) i2 b n2.symm its2.toArray) hz hTI hTO ⟨h1, raw⟩ ⟨h2, p2.isList⟩ (by rw [D.size]; exact hi) hl2 fun x1 x2 h' tk y1 y2 z' TO' h1' h2' hT hsz hk => ?_
    obtain ⟨kz, kt, hkz, rfl⟩ := D.key i x1 y1
    obtain ⟨u2, hu2, ru2⟩ := rv2.get hy
    have ex2 : x2 = u2 := by
      have q : its2.toArray[i]? = some u2 := by simpa using hu2
      rw [q] at y2
      exact (Option.some.inj y2).symm
    subst ex2
    refine ⟨_, rfl, wpAny_letOwnedTupleGo_zip (s := { s with heap := h', toks := tk }) z' fun h'' z'' sb => ?_⟩
    have hT2 : h''.get? s.heap.objs.size = some { cls := .type "tuple", data := .seq #[.str kz kt, x2] } := (sb.2 _ (Nat.ne_of_gt hzl)).trans hT
    have new : ObjOk X.prog X.w (upd H s.heap.objs.size (.tup [.str kz, y])) h'' s.heap.objs.size (.tup [.str kz, y]) :=
      ⟨by show 2 ≤ sizeLine; decide, [.str kz kt, x2], .cons ⟨kt, rfl⟩ (.cons ru2 .nil), ⟨_, hT2, rfl, _, rfl⟩⟩
    have I1 : Inv X pins σ (upd H s.heap.objs.size (.tup [.str kz, y])) { s with heap := h'', toks := tk } :=
      I.turnedNew (t' := tk) (ch := [z, TI, TO, i1, i2]) (fun c o hb q => (sb.2 c (fun q' => hb (by simp [q']))).trans (hk c o (fun q' => hb (by simp [q'])) (fun q' => hb (by simp [q'])) (fun q' => hb (by simp [q'])) (fun q' => hb (by simp [q'])) q)) hf (Nat.le_refl _) new
    refine ⟨.ref s.heap.objs.size, _, I1, rfl, ⟨_, kz, y, rfl, I.hok.fresh (Nat.le_refl _), rfl, hkz, fun l hl => by rw [I.list_inj hl hqy]; exact hy⟩, ⟨z'', ?_, ⟨.str kz kt, x2, ?_⟩, ?_, ?_⟩, fun c hcm => ?_⟩
    · exact (sb.2 _ S.TIz).trans (hk _ _ S.TIz S.TITO S.TIi1 S.TIi2 hTI)
    · exact (sb.2 _ S.TOz).trans TO'
    · obtain ⟨⟨o1, e1, r1⟩, _⟩ := h1'
      exact ⟨o1, (sb.2 _ (Ne.symm S.zi1)).trans e1, r1⟩
    · exact h2'.1.at fun o q => (sb.2 _ (Ne.symm S.zi2)).trans q
    · have hlt : c < s.heap.objs.size := by
        have e' : c = z ∨ c = TI ∨ c = TO ∨ c = i1 ∨ c = i2 := by simpa using hcm
        rcases e' with q | q | q | q | q
        · rw [q]; exact hzl
        · rw [q]; exact Heap.lt_size hTI
        · rw [q]; exact Heap.lt_size hTO
        · rw [q]; obtain ⟨_, e1, _⟩ := h1; exact Heap.lt_size e1
        · rw [q]; obtain ⟨_, e2, _⟩ := h2; exact Heap.lt_size e2
      rw [upd_ne (Nat.ne_of_lt hlt)]
      exact (hf c hcm).1
  done := by
    intro X hP hw hK hc i pins s σ H E I hf st hg
    subst hP hw hK
    obtain ⟨hz, hTI, ⟨x0, y0, hTO⟩, h1, h2⟩ := st
    obtain ⟨ys, hqy, he1, he2⟩ := hg
    obtain ⟨its2, rv2, p2, _⟩ := I.list hqy
    have raw : s.heap.DictRaw d es ep := ⟨_, I.kIn _ _ D.at_, ⟨rfl, rfl, rfl⟩, rfl⟩
    have hl2 : i = its2.toArray.size := by
      have := rv2.length
      simp
      omega
    refine wpAny_pyNext_zipD2_end S (drawsKeys (A := X.A.in1) (I.ok.hd hc) i1 d n1.symm es ep) (Draws.list (A := X.A.in1) (I.ok.hd hc) i2 b n2.symm its2.toArray) hz hTI hTO ⟨h1, raw⟩ ⟨h2, p2.isList⟩ (by rw [D.size]; omega) (by omega) (.inr hl2) fun h' tk hk => ⟨rfl, ?_⟩
    exact I.turnedL (t' := tk) (ch := [z, TI, TO, i1, i2]) (fun c o hb q => hk c o (fun q' => hb (by simp [q'])) (fun q' => hb (by simp [q'])) (fun q' => hb (by simp [q'])) (fun q' => hb (by simp [q'])) q) hf
  self := fun A i s Q E st h => wpAny_pyIter_zip st.1 h
def iKz (K : PySem.W.Frag) (d : Addr) (ks : List Str) (ta : TA) : TI := fun σ H R => ta σ H fun vs H1 => ∃ b ys, vs = [.ref d, .ref b] ∧ SqL K H1 b ys ∧ R (Itkz K ks b) H1
theorem pi_kz {X : Cx} {e e2 : Expr} {ta : TA} {p pos tpos : Pos} {elts : List Expr} {kk : Nat} {d : Addr} {es : Array DictEntry} {ep : Nat} {ks : List Str} (D : KKeys X.K d es ep ks) (hg : Gl X "zip") (hm : X.mg "zip" = none) (ha : PA X [e, e2] ta)
    (hs : starEach [e, e2] X.env = (false, eval e X.env) :: starEach [e2] X.env := by rfl) (hpl : (backTo pos (starEach [e2] X.env)).any (·.1) = false := by rfl) :
    PI X (.Tuple elts kk tpos) (.Call (.Name "zip" p) [e, e2] [] pos) (iKz X.K d ks ta) := by
  refine ⟨fun pins s σ H R I h => ?_⟩
  refine Call_ (ld_blt I hg hm PyProof.Rows.boot_zip (PyProof.Rows.callWith_type1 (thn (ha.run pos pins s σ H _ I h) fun us s1 ⟨vs, H1, I1, r1, q1⟩ => ?_) hs hpl))
  obtain ⟨b, ys, ex, hqy, q⟩ := q1
  subst ex
  cases r1 with
  | cons r rr =>
    cases rr with
    | cons r' rr =>
      cases rr
      cases r
      cases r'
      obtain ⟨its2, rv2, p2, _⟩ := I1.list hqy
      have od := I1.kIn _ _ D.at_
      have la : d < s1.heap.objs.size := Heap.lt_size od
      have lb : b < s1.heap.objs.size := p2.lt
      refine zip_begins2 (begins_dict d es ep D.low) (begins_list b its2.toArray) ⟨_, od, ⟨rfl, rfl, rfl⟩, rfl⟩ p2.isList fun h' hz hTI hTO h1 h2 hsz hk => wpAny_pyIter_zip hz ?_
      have I2 : Inv X pins σ H1 { s1 with heap := h' } := I1.kept (t' := s1.toks) hk
      refine ⟨s1.heap.objs.size + 4, [s1.heap.objs.size + 4, s1.heap.objs.size + 2, s1.heap.objs.size + 3, s1.heap.objs.size, s1.heap.objs.size + 1], _, _, H1, rfl, I2,
        turn_kz D (sep_of s1.heap.objs.size d b la lb) (Nat.ne_of_gt la) (Nat.ne_of_gt (Nat.lt_succ_of_lt lb)), ⟨hz, hTI, ⟨_, _, hTO⟩, ⟨_, h1, rfl, rfl⟩, ⟨_, h2, rfl, rfl⟩⟩, fun c hcm => ?_, q⟩
      have e' : c = s1.heap.objs.size + 4 ∨ c = s1.heap.objs.size + 2 ∨ c = s1.heap.objs.size + 3 ∨ c = s1.heap.objs.size ∨ c = s1.heap.objs.size + 1 := by simpa using hcm
      have hle : s1.heap.objs.size ≤ c := by
        rcases e' with q | q | q | q | q <;> rw [q]
        · exact Nat.le_add_right _ _
        · exact Nat.le_add_right _ _
        · exact Nat.le_add_right _ _
        · exact Nat.le_refl _
        · exact Nat.le_add_right _ _
      exact I1.fpOk hle (I1.hok.fresh hle)

/-! ### o.f as a target -/
def gAttr (K : PySem.W.Frag) (to : TE) (f : Str) : TG := fun v σ H Q => to σ H fun x H1 => ∃ a C dx fs, x = .ref a ∧ H1 a = some (.ins C dx fs) ∧ Cls K C ∧ NoAttr K C f ∧ fs.length < 1000 ∧ Q σ (upd H1 a (.ins C dx (putF f v fs)))
theorem pg_attr {X : Cx} {o : Expr} {f : Str} {pos : Pos} {to : TE} (ho : PE X o to) : PG X (.Attribute o f pos) (gAttr X.K to f) := by
  refine ⟨fun pins s σ H v u Q I r h => ?_⟩
  show wpAny _ _ (do
    let ov ← holding [u] (eval o X.env)
    standAt pos.atName
    holding [u, ov] (setAttr ov f u)
    release [u, ov] []) _ _ _
  refine wpAny_bind (wpAny_holding (thn (ho.run pins s σ H _ I h) fun ov s1 ⟨x, H1, I1, r1, a, C, dx, fs, ex, ea, c, n, l, q⟩ => ?_))
  subst ex
  obtain rfl : ov = Value.ref a := r1
  refine wpAny_bind (wpAny_standAt (wpAny_bind (wpAny_holding ?_)))
  exact setattr_ok I1 ea c n l r fun s2 I2 => wpAny_release ⟨σ, _, I2, q⟩

/-! ### o.m(k = v, ..): keyword-only parameters -/
def tMethK (C : Addr) (m : Str) (j : Nat) (sp : Sp) (gV : List V → List V → List V) (E : XK) (ta : TE) (tk : TA) : TE := fun σ H Q => ta σ H fun x H1 => ∃ a dx fs, x = .ref a ∧ H1 a = some (.ins C dx fs) ∧ fs.lookup m = none ∧
  tk σ H1 fun zs H2 => zs.length = j ∧ sp (gV [x] zs) H2 Q E
theorem pe_methK {X : Cx} {CX : CXT} {k : Nat} {f C : Addr} {fd : FuncData} {ps ks : List Str} {sp : Sp} {E : XK} {m : Str} {pos apos : Pos} {o : Expr} {kws : List Keyword} {ta : TE} {tk : TA} {g : List Value → List Value → List Value} {gV : List V → List V → List V} {pl : Sem Bool}
    (he : PE X o ta) (c : Cls X.K C) (hm : Meth X.K C m f) (F : FnOk X.prog X.w X.K X.mg X.base CX k f fd ps sp) (hr : Room k X.A) (hb : KBn X.K fd ps 1 ks g gV) (hx : Passes CX X E) (hkw : PK X kws tk)
    (hall : (backToKw pos (keywordEach kws X.env)).all (·.1.isSome) = true := by rfl) (hks : (backToKw pos (keywordEach kws X.env)).filterMap (·.1) = ks := by rfl)
    (hpl : ((backTo pos (starEach [] X.env)).any (·.1) || (backToKw pos (keywordEach kws X.env)).any (·.1.isNone)) = false := by rfl)
    (ht : eval (.Call (.Attribute o m apos) [] kws pos) X.env = (do
      let ov ← eval o X.env
      standAt apos.atName
      let (f, first) ← holding [ov] (getMethod ov m pl)
      callWith pos f first (backTo pos (starEach [] X.env)) (backToKw pos (keywordEach kws X.env))) := by rfl) :
    PE X (.Call (.Attribute o m apos) [] kws pos) (tMethK C m ks.length sp gV E ta tk) := by
  refine ⟨fun pins s σ H Q I h => PySem.W.methodCall_KW (pl := pl) (thn (he.run pins s σ H _ I h) fun u s1 ⟨x, H1, I1, rx, a, dx, fs, ex, ea, l, q⟩ => ?_) ht⟩
  subst ex
  obtain rfl : u = Value.ref a := rx
  refine getmeth_ok I1 ea c hm l ?_
  refine PySem.W.callWith_KW0 (h₀ := X.base) (first := [.ref a]) I.ok.mod.kin hm.kp hall ?_ hpl
  refine thn (hkw.run pos pins s1 σ H1 _ I1 q) fun ws s2 ⟨zs, H2, I2, rz, l2, q2⟩ => ⟨I2.kIn, ?_⟩
  rw [hks]
  exact run_fnN (us := [.ref a]) (vs := [.ref a]) F hr hb hx I2 (.cons rfl .nil) rz rfl l2 q2
end TP

namespace TP
open PySem PySem.Spec PyProof.Rows L2

/-! ### some of a list, by places -/
def pick {α : Type} : List Nat → List α → List α
  | [], _ => []
  | i :: is, l => (match l[i]? with | some x => [x] | none => []) ++ pick is l
theorem pick_vals : ∀ (is : List Nat) {vs : List V} {us : List Value}, Vals vs us → Vals (pick is vs) (pick is us)
  | [], _, _, _ => .nil
  | i :: is, vs, us, r => by
    refine Vals.append ?_ (pick_vals is r)
    cases e : vs[i]? with
    | none =>
      rw [r.none_of e]
      exact .nil
    | some x =>
      obtain ⟨u, hu, ru⟩ := r.get e
      rw [hu]
      exact .cons ru .nil
theorem pick_mem {α : Type} {x : α} : ∀ (is : List Nat) {l : List α}, x ∈ pick is l → x ∈ l
  | [], _, h => nomatch h
  | i :: is, l, h => by
    rcases List.mem_append.mp h with h | h
    · cases e : l[i]? with
      | none =>
        rw [e] at h
        cases h
      | some y =>
        rw [e] at h
        have : x = y := by simpa using h
        rw [this]
        exact List.mem_of_getElem? e
    · exact pick_mem is h

/-! ### a def as it stands, and what it keeps -/
structure GtF (P : Program) (w : World) (K : PySem.W.Frag) (mg : Str → Option Value) (base : Heap) (CX : CXT) (k : Nat) (d : He.DefD) (ps : List Str) (sp : Sp) : Prop where
  ex : ∃ fd, FunD K d.name d.qual d.params d.body d.scope (d.dvs K) (d.kws K) (He.fAd K d.at_) fd ∧ FnOk P w K mg base CX k (He.fAd K d.at_) fd ps sp
/-- keywords ks told, n values by place; js: the places of the keyword-only parameters that lack; is: the order -/
structure Kb (d : He.DefD) (ps : List Str) (n : Nat) (ks : List Str) (js is : List Nat) : Prop where
  df : d.dfl = []
  kn : d.kwd ≠ []
  ch : ∀ (K : PySem.W.Frag) (D : Addr) (doc pm : Value) (an : Option Addr) (cdv ct : Value) (us mv ws : List Value), us.length = n → mv.length = (pick js (d.kws K)).length → ws.length = ks.length →
    KwChain D (((pick js (d.kws K)).map (·.1)).zip mv) (bindArgs (PySem.W.fnOf d.name d.qual d.params d.body d.scope .none (.ref D) doc pm an cdv ct) ⟨us, ks.zip ws⟩) (ps.zip (us ++ pick is (mv ++ ws)))
abbrev gK (d : He.DefD) (js is : List Nat) (K : PySem.W.Frag) : List V → List V → List V := fun vs zs => vs ++ pick is ((pick js (d.kws K)).map (·.2) ++ zs)
structure Kb0 (d : He.DefD) (ps : List Str) (n : Nat) : Prop where
  df : d.dfl = []
  kn : d.kwd ≠ []
  nn : n + d.kwd.length = ps.length
  ch : ∀ (K : PySem.W.Frag) (D : Addr) (doc pm : Value) (an : Option Addr) (cdv ct : Value) (us ks : List Value), us.length = n → ks.length = (d.kws K).length →
      KwChain D (((d.kws K).map (·.1)).zip ks) (bindArgs (PySem.W.fnOf d.name d.qual d.params d.body d.scope .none (.ref D) doc pm an cdv ct) ⟨us, []⟩) (ps.zip (us ++ ks))
section
variable {P : Program} {w : World} {K : PySem.W.Frag} {mg : Str → Option Value} {base : Heap} {CX : CXT} {k : Nat} {d : He.DefD} {ps ks : List Str} {sp : Sp} {n : Nat} {js is : List Nat}
theorem dvs0 (h : d.dfl = []) : d.dvs K = [] := by unfold He.DefD.dvs; rw [h]; rfl
theorem kws0 (h : d.kwd ≠ []) : d.kws K ≠ [] := by
  unfold He.DefD.kws
  intro e
  exact h (List.map_eq_nil_iff.mp e)
theorem GtF.kbn (G : GtF P w K mg base CX k d ps sp) (B : Kb d ps n ks js is) : ∃ fd mv, FnOk P w K mg base CX k (He.fAd K d.at_) fd ps sp ∧ KBn K fd ps n ks (fun us ws => us ++ pick is (mv ++ ws)) (gK d js is K) := by
  obtain ⟨fd, F, ok⟩ := G.ex
  rw [dvs0 B.df] at F
  obtain ⟨mv, h⟩ := F.kbinds0 (ps := ps) n ks (pick js (d.kws K)) (fun {α} us mv ws => us ++ pick is (mv ++ ws)) (kws0 B.kn) (fun q hq => pick_mem js hq) (fun r1 r2 r3 => r1.append (pick_vals is (r2.append r3))) (fun D doc pm an cdv ct us mv ws h1 h2 h3 => B.ch K D doc pm an cdv ct us mv ws h1 h2 h3)
  exact ⟨fd, mv, ok, h⟩
theorem GtF.kb0 (G : GtF P w K mg base CX k d ps sp) (B : Kb0 d ps n) : ∃ fd ds, FnOk P w K mg base CX k (He.fAd K d.at_) fd ps sp ∧ Vals ((d.kws K).map (·.2)) ds ∧ Binds K fd ps ds := by
  obtain ⟨fd, F, ok⟩ := G.ex
  rw [dvs0 B.df] at F
  obtain ⟨ds, h1, h2⟩ := F.binds0 (ps := ps) n (kws0 B.kn) (by have := B.nn; unfold He.DefD.kws; rw [List.length_map]; exact this) (fun D doc pm an cdv ct us ks h1 h2 => B.ch K D doc pm an cdv ct us ks h1 h2)
  exact ⟨fd, ds, ok, h1, h2⟩
theorem GtF.bn (G : GtF P w K mg base CX k d ps sp) (hd : d.dfl = []) (hb : BindN d ps) : ∃ fd, FnOk P w K mg base CX k (He.fAd K d.at_) fd ps sp ∧ Binds K fd ps [] := by
  obtain ⟨fd, F, ok⟩ := G.ex
  rw [dvs0 hd] at F
  exact ⟨fd, ok, F.bindsN hb⟩
theorem GtF.imp {sp' : Sp} (G : GtF P w K mg base CX k d ps sp) (h : ∀ vs H Q E, sp' vs H Q E → sp vs H Q E) : GtF P w K mg base CX k d ps sp' := by
  obtain ⟨fd, F, ok⟩ := G.ex
  exact ⟨fd, F, ok.imp h⟩
theorem gtF_mk {N : List Str} (D : IsDef K d) (S : FnScope N ps d.scope) (len : ∀ vs H Q E, sp vs H Q E → vs.length = ps.length) (B : BodyOk P w K mg base k N d sp) : GtF P w K mg base CX0 (k + 1) d ps sp := by
  obtain ⟨fd, F⟩ := D
  exact ⟨fd, F, fn_ok0 F S len B⟩
theorem gtFX_mk {N : List Str} (D : IsDef K d) (S : FnScope N ps d.scope) (len : ∀ vs H Q E, sp vs H Q E → vs.length = ps.length) (B : BodyOkX P w K mg base k N d sp) : GtF P w K mg base (L2.CX P w) (k + 1) d ps sp := by
  obtain ⟨fd, F⟩ := D
  exact ⟨fd, F, fn_okX F S len B⟩
end
section
variable {X : Cx} {CX : CXT} {k n : Nat} {d : He.DefD} {C : Addr} {ps ks : List Str} {sp : Sp} {E : XK} {x m : Str} {p pos apos : Pos} {o e : Expr} {es : List Expr} {kws : List Keyword} {t tk : TA} {ta : TE} {js is : List Nat}
/-- C(k = v, ..) -/
theorem GtF.makeK0 (G : GtF X.prog X.w X.K X.mg X.base CX k d ps sp) (B : Kb d ps 1 ks js is) (M : Mk X.K C (He.fAd X.K d.at_)) (hm : X.mg x = some (.ref C)) (hr : Room (k + 1) X.A) (hx : Passes CX X E) (hkw : PK X kws tk) (hg : Gl X x := by rfl)
    (hall : (backToKw pos (keywordEach kws X.env)).all (·.1.isSome) = true := by rfl) (hks : (backToKw pos (keywordEach kws X.env)).filterMap (·.1) = ks := by rfl) (hdb : (x == ("__debug__" : Str)) = false := by decide)
    (hpl : ((backTo pos (starEach [] X.env)).any (·.1) || (backToKw pos (keywordEach kws X.env)).any (·.1.isNone)) = false := by rfl) :
    PE X (.Call (.Name x p) [] kws pos) (tMakeK C 0 ks.length sp (gK d js is X.K) E tNil tk) := by
  obtain ⟨fd, mv, F, hb⟩ := G.kbn B
  exact pe_makeK0 M F hr hg hm hb hx hkw hall hks hdb hpl
theorem GtF.makeK (G : GtF X.prog X.w X.K X.mg X.base CX k d ps sp) (B : Kb d ps (n + 1) ks js is) (M : Mk X.K C (He.fAd X.K d.at_)) (hm : X.mg x = some (.ref C)) (hr : Room (k + 1) X.A) (hx : Passes CX X E) (ha : PA X (e :: es) t) (hkw : PK X kws tk) (hg : Gl X x := by rfl)
    (hall : (backToKw pos (keywordEach kws X.env)).all (·.1.isSome) = true := by rfl) (hks : (backToKw pos (keywordEach kws X.env)).filterMap (·.1) = ks := by rfl) (hdb : (x == ("__debug__" : Str)) = false := by decide)
    (he : starEach (e :: es) X.env = (false, eval e X.env) :: starEach es X.env := by rfl) (hpl : ((backTo pos (starEach (e :: es) X.env)).any (·.1) || (backToKw pos (keywordEach kws X.env)).any (·.1.isNone)) = false := by rfl) :
    PE X (.Call (.Name x p) (e :: es) kws pos) (tMakeK C n ks.length sp (gK d js is X.K) E t tk) := by
  obtain ⟨fd, mv, F, hb⟩ := G.kbn B
  exact pe_makeK M F hr hg hm hb hx ha hkw hall hks hdb he hpl
/-- C(), all keyword-only parameters left out -/
theorem GtF.make0 (G : GtF X.prog X.w X.K X.mg X.base CX k d ps sp) (B : Kb0 d ps 1) (M : Mk X.K C (He.fAd X.K d.at_)) (hm : X.mg x = some (.ref C)) (hr : Room (k + 1) X.A) (hx : Passes CX X E) (hg : Gl X x := by rfl)
    (hdb : (x == ("__debug__" : Str)) = false := by decide) : PE X (.Call (.Name x p) [] [] pos) (tMake C sp ((d.kws X.K).map (·.2)) E tNil) := by
  obtain ⟨fd, ds, F, hd, hb⟩ := G.kb0 B
  exact pe_make0 M F hr hg hm hb hd hx hdb
/-- C(e, ..), all keyword-only parameters left out -/
theorem GtF.makeD (G : GtF X.prog X.w X.K X.mg X.base CX k d ps sp) (B : Kb0 d ps (n + 1)) (M : Mk X.K C (He.fAd X.K d.at_)) (hm : X.mg x = some (.ref C)) (hr : Room (k + 1) X.A) (hx : Passes CX X E) (ha : PA X (e :: es) t) (hg : Gl X x := by rfl)
    (hdb : (x == ("__debug__" : Str)) = false := by decide) (he : starEach (e :: es) X.env = (false, eval e X.env) :: starEach es X.env := by rfl) (hpl : (backTo pos (starEach es X.env)).any (·.1) = false := by rfl) :
    PE X (.Call (.Name x p) (e :: es) [] pos) (tMake C sp ((d.kws X.K).map (·.2)) E t) := by
  obtain ⟨fd, ds, F, hd, hb⟩ := G.kb0 B
  exact pe_make M F hr hg hm hb hd hx ha hdb he hpl
/-- C(e, ..) -/
theorem GtF.make (G : GtF X.prog X.w X.K X.mg X.base CX k d ps sp) (hd : d.dfl = []) (hb : BindN d ps) (M : Mk X.K C (He.fAd X.K d.at_)) (hm : X.mg x = some (.ref C)) (hr : Room (k + 1) X.A) (hx : Passes CX X E) (ha : PA X (e :: es) t) (hg : Gl X x := by rfl)
    (hdb : (x == ("__debug__" : Str)) = false := by decide) (he : starEach (e :: es) X.env = (false, eval e X.env) :: starEach es X.env := by rfl) (hpl : (backTo pos (starEach es X.env)).any (·.1) = false := by rfl) :
    PE X (.Call (.Name x p) (e :: es) [] pos) (tMake C sp [] E t) := by
  obtain ⟨fd, F, hb⟩ := G.bn hd hb
  exact pe_make M F hr hg hm hb .nil hx ha hdb he hpl
/-- o.m(k = v, ..) -/
theorem GtF.methK (G : GtF X.prog X.w X.K X.mg X.base CX k d ps sp) (B : Kb d ps 1 ks js is) (c : Cls X.K C) (hm : Meth X.K C m (He.fAd X.K d.at_)) (hr : Room k X.A) (hx : Passes CX X E) (he : PE X o ta) (hkw : PK X kws tk) {pl : Sem Bool}
    (hall : (backToKw pos (keywordEach kws X.env)).all (·.1.isSome) = true := by rfl) (hks : (backToKw pos (keywordEach kws X.env)).filterMap (·.1) = ks := by rfl)
    (hpl : ((backTo pos (starEach [] X.env)).any (·.1) || (backToKw pos (keywordEach kws X.env)).any (·.1.isNone)) = false := by rfl)
    (ht : eval (.Call (.Attribute o m apos) [] kws pos) X.env = (do
      let ov ← eval o X.env
      standAt apos.atName
      let (f, first) ← holding [ov] (getMethod ov m pl)
      callWith pos f first (backTo pos (starEach [] X.env)) (backToKw pos (keywordEach kws X.env))) := by rfl) :
    PE X (.Call (.Attribute o m apos) [] kws pos) (tMethK C m ks.length sp (gK d js is X.K) E ta tk) := by
  obtain ⟨fd, mv, F, hb⟩ := G.kbn B
  exact pe_methK (pl := pl) he c hm F hr hb hx hkw hall hks hpl ht
/-- o.m(), all keyword-only parameters left out -/
theorem GtF.meth0 (G : GtF X.prog X.w X.K X.mg X.base CX k d ps sp) (B : Kb0 d ps 1) (c : Cls X.K C) (hm : Meth X.K C m (He.fAd X.K d.at_)) (hr : Room k X.A) (hx : Passes CX X E) (he : PE X o ta) {pl : Sem Bool}
    (ht : eval (.Call (.Attribute o m apos) [] [] pos) X.env = (do
      let ov ← eval o X.env
      standAt apos.atName
      let (f, first) ← holding [ov] (getMethod ov m pl)
      callWith pos f first (backTo pos (starEach [] X.env)) (backToKw pos (keywordEach [] X.env))) := by rfl) :
    PE X (.Call (.Attribute o m apos) [] [] pos) (tMeth C m sp ((d.kws X.K).map (·.2)) E ta tNil) := by
  obtain ⟨fd, ds, F, hd, hb⟩ := G.kb0 B
  exact pe_meth0 (pl := pl) he c hm F hr hb hd hx ht
/-- o.m(e, ..) -/
theorem GtF.meth (G : GtF X.prog X.w X.K X.mg X.base CX k d ps sp) (hd : d.dfl = []) (hb : BindN d ps) (c : Cls X.K C) (hm : Meth X.K C m (He.fAd X.K d.at_)) (hr : Room k X.A) (hx : Passes CX X E) (he : PE X o ta) (ha : PA X (e :: es) t) {pl : Sem Bool}
    (hst : starEach (e :: es) X.env = (false, eval e X.env) :: starEach es X.env := by rfl) (hpl : (backTo pos (starEach es X.env)).any (·.1) = false := by rfl)
    (ht : eval (.Call (.Attribute o m apos) (e :: es) [] pos) X.env = (do
      let ov ← eval o X.env
      standAt apos.atName
      let (f, first) ← holding [ov] (getMethod ov m pl)
      callWith pos f first (backTo pos (starEach (e :: es) X.env)) (backToKw pos (keywordEach [] X.env))) := by rfl) :
    PE X (.Call (.Attribute o m apos) (e :: es) [] pos) (tMeth C m sp [] E ta t) := by
  obtain ⟨fd, F, hb⟩ := G.bn hd hb
  exact pe_meth (pl := pl) he c hm F hr hb .nil hx ha hst hpl ht
/-- o.m() -/
theorem GtF.methN (G : GtF X.prog X.w X.K X.mg X.base CX k d ps sp) (hd : d.dfl = []) (hb : BindN d ps) (c : Cls X.K C) (hm : Meth X.K C m (He.fAd X.K d.at_)) (hr : Room k X.A) (hx : Passes CX X E) (he : PE X o ta) {pl : Sem Bool}
    (ht : eval (.Call (.Attribute o m apos) [] [] pos) X.env = (do
      let ov ← eval o X.env
      standAt apos.atName
      let (f, first) ← holding [ov] (getMethod ov m pl)
      callWith pos f first (backTo pos (starEach [] X.env)) (backToKw pos (keywordEach [] X.env))) := by rfl) :
    PE X (.Call (.Attribute o m apos) [] [] pos) (tMeth C m sp [] E ta tNil) := by
  obtain ⟨fd, F, hb⟩ := G.bn hd hb
  exact pe_meth0 (pl := pl) he c hm F hr hb .nil hx ht
end

/-! ### more of the head: Bools by place -/
theorem exs_at {exs : List (PySem.W.Frag → Bool)} {K : PySem.W.Frag} (h : (exs.all fun f => f K) = true) (i : Nat) {f : PySem.W.Frag → Bool} (e : exs[i]? = some f := by rfl) : f K = true :=
  List.all_eq_true.mp h f (List.mem_of_getElem? e)
/-- a written table read by a key -/
theorem kdct_of {K : PySem.W.Frag} {w : World} {a : Addr} {es : Array DictEntry} {n : Nat} {kvs : List (Str × He.Dv)} (D : KDict K w a es n) (h : He.valsB K a kvs = true) {q : Str × He.Dv} (hq : q ∈ kvs) : KDct K w a q.1 (q.2.v K) := by
  obtain ⟨u, hu, ru⟩ := He.valsB_ok h hq
  exact ⟨es, n, u, D.at_, D.lit, hu, ru⟩
end TP

namespace Lw
open PySem PySem.Spec PyProof.Rows L2 TP
/-! ### the text by places (written by gen.py) -/
def top (i : Nat) : Stmt := PySem.Challenge.pw_trailpost_k05_whole_fees_grow_by_parts.main.body.getD i (.Pass ⟨0, 0, 0, 0⟩)
abbrev s_NoRule_init : Stmt := (inClass (top 2) 0)
abbrev s_is_whole : Stmt := (top 4)
abbrev s_is_from : Stmt := (top 5)
abbrev s_Rule_init : Stmt := (inClass (top 8) 0)
abbrev s_Rule_fee : Stmt := (inClass (top 8) 1)
abbrev s_well : Stmt := (top 10)
abbrev s_draw : Stmt := (top 11)
abbrev s_one : Stmt := (top 12)
abbrev s_num60 : Stmt := (top 13)
abbrev s_law_parts : Stmt := (top 14)
abbrev s_law_steps_right : Stmt := (top 15)
abbrev s_law : Stmt := (top 16)
/-! ### what each def is -/
def d_NoRule_init : He.DefD := ⟨("NoRule", some "__init__"), "__init__", "NoRule.__init__", defArgs s_NoRule_init, defBody s_NoRule_init, defScope s_NoRule_init, [], []⟩
def d_is_whole : He.DefD := ⟨("is_whole", none), "is_whole", "is_whole", defArgs s_is_whole, defBody s_is_whole, defScope s_is_whole, [], []⟩
def d_is_from : He.DefD := ⟨("is_from", none), "is_from", "is_from", defArgs s_is_from, defBody s_is_from, defScope s_is_from, [], []⟩
def d_Rule_init : He.DefD := ⟨("Rule", some "__init__"), "__init__", "Rule.__init__", defArgs s_Rule_init, defBody s_Rule_init, defScope s_Rule_init, [], [("since", .int 0), ("base", .int 0), ("step", .int 1), ("more", .int 0), ("leg", .int 0), ("kept", .int 0), ("back", .int 0)]⟩
def d_Rule_fee : He.DefD := ⟨("Rule", some "fee"), "fee", "Rule.fee", defArgs s_Rule_fee, defBody s_Rule_fee, defScope s_Rule_fee, [], [("weight", .int 1), ("legs", .int 0), ("kept", .bl false)]⟩
def d_well : He.DefD := ⟨("_law_well", none), "_law_well", "_law_well", defArgs s_well, defBody s_well, defScope s_well, [], []⟩
def d_draw : He.DefD := ⟨("_law_draw", none), "_law_draw", "_law_draw", defArgs s_draw, defBody s_draw, defScope s_draw, [], []⟩
def d_one : He.DefD := ⟨("_law_one", none), "_law_one", "_law_one", defArgs s_one, defBody s_one, defScope s_one, [], []⟩
def d_num60 : He.DefD := ⟨("_law_number", none), "_law_number", "_law_number", defArgs s_num60, defBody s_num60, defScope s_num60, [], []⟩
def d_law_parts : He.DefD := ⟨("_law_parts", none), "_law_parts", "_law_parts", defArgs s_law_parts, defBody s_law_parts, defScope s_law_parts, [], []⟩
def d_law_steps_right : He.DefD := ⟨("_law_steps_right", none), "_law_steps_right", "_law_steps_right", defArgs s_law_steps_right, defBody s_law_steps_right, defScope s_law_steps_right, [], []⟩
def d_law : He.DefD := ⟨("law", none), "law", "law", defArgs s_law, defBody s_law, defScope s_law, [], []⟩
def fn : List He.DefD := [d_NoRule_init, d_is_whole, d_is_from, d_Rule_init, d_Rule_fee, d_well, d_draw, d_one, d_num60, d_law_parts, d_law_steps_right, d_law]
def fa : List He.Fa := [.glo "is_whole", .glo "is_from", .glo "_law_well", .glo "_law_draw", .glo "_law_one", .glo "_law_number", .glo "_law_parts", .glo "_law_steps_right", .glo "law", .free "ValueError", .free "bool", .free "int", .free "isinstance", .free "len", .free "range", .free "sum", .free "zip", .glo "LEASTS", .glo "PostError", .glo "NoRule", .glo "Rule", .cls "Rule", .mkr "Rule", .meth "Rule" "fee", .noat "Rule" "since", .noat "Rule" "base", .noat "Rule" "step", .noat "Rule" "more", .noat "Rule" "leg", .noat "Rule" "kept", .noat "Rule" "back"]
def exs : List (PySem.W.Frag → Bool) := [sysB, fun K => He.valsB K (He.ga K "LEASTS") [("since", .int 0), ("base", .int 0), ("step", .int 1), ("more", .int 0), ("leg", .int 0), ("kept", .int 0), ("back", .int 0)]]
def ex (K : PySem.W.Frag) : Bool := exs.all fun f => f K
def ts : List He.Tab := [(fun K => He.ga K "LEASTS", ["since", "base", "step", "more", "leg", "kept", "back"])]
abbrev TX (w : World) (K : PySem.W.Frag) (mg : Str → Option Value) : Prop := Tx fa fn ts ex w K mg
section
variable {w : World} {K : PySem.W.Frag} {mg : Str → Option Value} (T : TX w K mg)
include T
theorem g_is_whole : mg "is_whole" = some (.ref (He.ga K "is_whole")) := Tx.glo T 0
theorem g_is_from : mg "is_from" = some (.ref (He.ga K "is_from")) := Tx.glo T 1
theorem g_well : mg "_law_well" = some (.ref (He.ga K "_law_well")) := Tx.glo T 2
theorem g_draw : mg "_law_draw" = some (.ref (He.ga K "_law_draw")) := Tx.glo T 3
theorem g_one : mg "_law_one" = some (.ref (He.ga K "_law_one")) := Tx.glo T 4
theorem g_num60 : mg "_law_number" = some (.ref (He.ga K "_law_number")) := Tx.glo T 5
theorem g_law_parts : mg "_law_parts" = some (.ref (He.ga K "_law_parts")) := Tx.glo T 6
theorem g_law_steps_right : mg "_law_steps_right" = some (.ref (He.ga K "_law_steps_right")) := Tx.glo T 7
theorem g_law : mg "law" = some (.ref (He.ga K "law")) := Tx.glo T 8
theorem f_ValueError : mg "ValueError" = none := Tx.free T 9
theorem f_bool : mg "bool" = none := Tx.free T 10
theorem f_int : mg "int" = none := Tx.free T 11
theorem f_isinstance : mg "isinstance" = none := Tx.free T 12
theorem f_len : mg "len" = none := Tx.free T 13
theorem f_range : mg "range" = none := Tx.free T 14
theorem f_sum : mg "sum" = none := Tx.free T 15
theorem f_zip : mg "zip" = none := Tx.free T 16
theorem g_LEASTS : mg "LEASTS" = some (.ref (He.ga K "LEASTS")) := Tx.glo T 17
theorem g_PostError : mg "PostError" = some (.ref (He.ga K "PostError")) := Tx.glo T 18
theorem g_NoRule : mg "NoRule" = some (.ref (He.ga K "NoRule")) := Tx.glo T 19
theorem g_Rule : mg "Rule" = some (.ref (He.ga K "Rule")) := Tx.glo T 20
theorem cl_Rule : Cls K (He.ga K "Rule") := He.cls_ok (T.c.fact 21 rfl)
theorem mk_Rule : Mk K (He.ga K "Rule") (He.fAd K ("Rule", some "__init__")) := He.mkr_ok (T.c.fact 22 rfl)
theorem m_Rule_fee : Meth K (He.ga K "Rule") "fee" (He.fAd K ("Rule", some "fee")) := He.meth_ok (T.c.fact 23 rfl)
theorem na_Rule_since : NoAttr K (He.ga K "Rule") "since" := He.noat_ok (T.c.fact 24 rfl)
theorem na_Rule_base : NoAttr K (He.ga K "Rule") "base" := He.noat_ok (T.c.fact 25 rfl)
theorem na_Rule_step : NoAttr K (He.ga K "Rule") "step" := He.noat_ok (T.c.fact 26 rfl)
theorem na_Rule_more : NoAttr K (He.ga K "Rule") "more" := He.noat_ok (T.c.fact 27 rfl)
theorem na_Rule_leg : NoAttr K (He.ga K "Rule") "leg" := He.noat_ok (T.c.fact 28 rfl)
theorem na_Rule_kept : NoAttr K (He.ga K "Rule") "kept" := He.noat_ok (T.c.fact 29 rfl)
theorem na_Rule_back : NoAttr K (He.ga K "Rule") "back" := He.noat_ok (T.c.fact 30 rfl)
theorem D_NoRule_init : ∃ fd, FunD K d_NoRule_init.name d_NoRule_init.qual d_NoRule_init.params d_NoRule_init.body d_NoRule_init.scope (d_NoRule_init.dvs K) (d_NoRule_init.kws K) (He.fAd K d_NoRule_init.at_) fd := T.c.def_ 0 (d := d_NoRule_init)
theorem D_is_whole : ∃ fd, FunD K d_is_whole.name d_is_whole.qual d_is_whole.params d_is_whole.body d_is_whole.scope (d_is_whole.dvs K) (d_is_whole.kws K) (He.fAd K d_is_whole.at_) fd := T.c.def_ 1 (d := d_is_whole)
theorem D_is_from : ∃ fd, FunD K d_is_from.name d_is_from.qual d_is_from.params d_is_from.body d_is_from.scope (d_is_from.dvs K) (d_is_from.kws K) (He.fAd K d_is_from.at_) fd := T.c.def_ 2 (d := d_is_from)
theorem D_Rule_init : ∃ fd, FunD K d_Rule_init.name d_Rule_init.qual d_Rule_init.params d_Rule_init.body d_Rule_init.scope (d_Rule_init.dvs K) (d_Rule_init.kws K) (He.fAd K d_Rule_init.at_) fd := T.c.def_ 3 (d := d_Rule_init)
theorem D_Rule_fee : ∃ fd, FunD K d_Rule_fee.name d_Rule_fee.qual d_Rule_fee.params d_Rule_fee.body d_Rule_fee.scope (d_Rule_fee.dvs K) (d_Rule_fee.kws K) (He.fAd K d_Rule_fee.at_) fd := T.c.def_ 4 (d := d_Rule_fee)
theorem D_well : ∃ fd, FunD K d_well.name d_well.qual d_well.params d_well.body d_well.scope (d_well.dvs K) (d_well.kws K) (He.fAd K d_well.at_) fd := T.c.def_ 5 (d := d_well)
theorem D_draw : ∃ fd, FunD K d_draw.name d_draw.qual d_draw.params d_draw.body d_draw.scope (d_draw.dvs K) (d_draw.kws K) (He.fAd K d_draw.at_) fd := T.c.def_ 6 (d := d_draw)
theorem D_one : ∃ fd, FunD K d_one.name d_one.qual d_one.params d_one.body d_one.scope (d_one.dvs K) (d_one.kws K) (He.fAd K d_one.at_) fd := T.c.def_ 7 (d := d_one)
theorem D_num60 : ∃ fd, FunD K d_num60.name d_num60.qual d_num60.params d_num60.body d_num60.scope (d_num60.dvs K) (d_num60.kws K) (He.fAd K d_num60.at_) fd := T.c.def_ 8 (d := d_num60)
theorem D_law_parts : ∃ fd, FunD K d_law_parts.name d_law_parts.qual d_law_parts.params d_law_parts.body d_law_parts.scope (d_law_parts.dvs K) (d_law_parts.kws K) (He.fAd K d_law_parts.at_) fd := T.c.def_ 9 (d := d_law_parts)
theorem D_law_steps_right : ∃ fd, FunD K d_law_steps_right.name d_law_steps_right.qual d_law_steps_right.params d_law_steps_right.body d_law_steps_right.scope (d_law_steps_right.dvs K) (d_law_steps_right.kws K) (He.fAd K d_law_steps_right.at_) fd := T.c.def_ 10 (d := d_law_steps_right)
theorem D_law : ∃ fd, FunD K d_law.name d_law.qual d_law.params d_law.body d_law.scope (d_law.dvs K) (d_law.kws K) (He.fAd K d_law.at_) fd := T.c.def_ 11 (d := d_law)
theorem t_LEASTS : ∃ es n, KDict K w (He.ga K "LEASTS") es n ∧ es.toList.map He.keyOf = He.keysIn w.params ["since", "base", "step", "more", "leg", "kept", "back"] := T.tab 0
theorem sysK : SysK K := sysB_ok (exs_at (exs := exs) T.ex 0)
theorem v_LEASTS : He.valsB K (He.ga K "LEASTS") [("since", .int 0), ("base", .int 0), ("step", .int 1), ("more", .int 0), ("leg", .int 0), ("kept", .int 0), ("back", .int 0)] = true := exs_at (exs := exs) T.ex 1
end
/-! ### keywords of calls -/
theorem kb_Rule_fee_1_weight_legs_kept : Kb d_Rule_fee ["self", "weight", "legs", "kept"] 1 ["weight", "legs", "kept"] [] [0, 1, 2] := ⟨rfl, (by decide), fun K D _ _ _ _ _ us mv ws h1 h2 h3 => match us, mv, ws, h1, h2, h3 with | [_], [], [_, _, _], _, _, _ => rfl⟩
theorem kb_Rule_init_1_base_step : Kb d_Rule_init ["self", "since", "base", "step", "more", "leg", "kept", "back"] 1 ["base", "step"] [0, 3, 4, 5, 6] [0, 5, 6, 1, 2, 3, 4] := ⟨rfl, (by decide), fun K D _ _ _ _ _ us mv ws h1 h2 h3 => match us, mv, ws, h1, h2, h3 with | [_], [_, _, _, _, _], [_, _], _, _, _ => ⟨_, _, _, _, _, _, rfl, rfl, ⟨_, _, _, _, _, _, rfl, rfl, ⟨_, _, _, _, _, _, rfl, rfl, ⟨_, _, _, _, _, _, rfl, rfl, ⟨_, _, _, _, _, _, rfl, rfl, rfl⟩⟩⟩⟩⟩⟩
theorem kb_Rule_init_1_step_more : Kb d_Rule_init ["self", "since", "base", "step", "more", "leg", "kept", "back"] 1 ["step", "more"] [0, 1, 4, 5, 6] [0, 1, 5, 6, 2, 3, 4] := ⟨rfl, (by decide), fun K D _ _ _ _ _ us mv ws h1 h2 h3 => match us, mv, ws, h1, h2, h3 with | [_], [_, _, _, _, _], [_, _], _, _, _ => ⟨_, _, _, _, _, _, rfl, rfl, ⟨_, _, _, _, _, _, rfl, rfl, ⟨_, _, _, _, _, _, rfl, rfl, ⟨_, _, _, _, _, _, rfl, rfl, ⟨_, _, _, _, _, _, rfl, rfl, rfl⟩⟩⟩⟩⟩⟩
theorem kb_Rule_init_1_base_step_more_leg_kept : Kb d_Rule_init ["self", "since", "base", "step", "more", "leg", "kept", "back"] 1 ["base", "step", "more", "leg", "kept"] [0, 6] [0, 2, 3, 4, 5, 6, 1] := ⟨rfl, (by decide), fun K D _ _ _ _ _ us mv ws h1 h2 h3 => match us, mv, ws, h1, h2, h3 with | [_], [_, _], [_, _, _, _, _], _, _, _ => ⟨_, _, _, _, _, _, rfl, rfl, ⟨_, _, _, _, _, _, rfl, rfl, rfl⟩⟩⟩
theorem kb_Rule_init_1_since_back_base_step_more_leg_kept : Kb d_Rule_init ["self", "since", "base", "step", "more", "leg", "kept", "back"] 1 ["since", "back", "base", "step", "more", "leg", "kept"] [] [0, 2, 3, 4, 5, 6, 1] := ⟨rfl, (by decide), fun K D _ _ _ _ _ us mv ws h1 h2 h3 => match us, mv, ws, h1, h2, h3 with | [_], [], [_, _, _, _, _, _, _], _, _, _ => rfl⟩
theorem kb_Rule_init_1_step_leg : Kb d_Rule_init ["self", "since", "base", "step", "more", "leg", "kept", "back"] 1 ["step", "leg"] [0, 1, 3, 5, 6] [0, 1, 5, 2, 6, 3, 4] := ⟨rfl, (by decide), fun K D _ _ _ _ _ us mv ws h1 h2 h3 => match us, mv, ws, h1, h2, h3 with | [_], [_, _, _, _, _], [_, _], _, _, _ => ⟨_, _, _, _, _, _, rfl, rfl, ⟨_, _, _, _, _, _, rfl, rfl, ⟨_, _, _, _, _, _, rfl, rfl, ⟨_, _, _, _, _, _, rfl, rfl, ⟨_, _, _, _, _, _, rfl, rfl, rfl⟩⟩⟩⟩⟩⟩
theorem kb_Rule_init_1_step_kept : Kb d_Rule_init ["self", "since", "base", "step", "more", "leg", "kept", "back"] 1 ["step", "kept"] [0, 1, 3, 4, 6] [0, 1, 5, 2, 3, 6, 4] := ⟨rfl, (by decide), fun K D _ _ _ _ _ us mv ws h1 h2 h3 => match us, mv, ws, h1, h2, h3 with | [_], [_, _, _, _, _], [_, _], _, _, _ => ⟨_, _, _, _, _, _, rfl, rfl, ⟨_, _, _, _, _, _, rfl, rfl, ⟨_, _, _, _, _, _, rfl, rfl, ⟨_, _, _, _, _, _, rfl, rfl, ⟨_, _, _, _, _, _, rfl, rfl, rfl⟩⟩⟩⟩⟩⟩
theorem kb_Rule_fee_1_weight_legs : Kb d_Rule_fee ["self", "weight", "legs", "kept"] 1 ["weight", "legs"] [2] [1, 2, 0] := ⟨rfl, (by decide), fun K D _ _ _ _ _ us mv ws h1 h2 h3 => match us, mv, ws, h1, h2, h3 with | [_], [_], [_, _], _, _, _ => ⟨_, _, _, _, _, _, rfl, rfl, rfl⟩⟩
/-! ### the names of each def by slots -/
theorem sc_NoRule_init : FnScope ["self", "at"] ["self", "at"] (defScope s_NoRule_init) := ⟨rfl, rfl, rfl, by decide +kernel, rfl, by decide +kernel, by decide +kernel⟩
theorem sc_is_whole : FnScope ["thing"] ["thing"] (defScope s_is_whole) := ⟨rfl, rfl, rfl, by decide +kernel, rfl, by decide +kernel, by decide +kernel⟩
theorem sc_is_from : FnScope ["thing", "least"] ["thing", "least"] (defScope s_is_from) := ⟨rfl, rfl, rfl, by decide +kernel, rfl, by decide +kernel, by decide +kernel⟩
theorem sc_Rule_init : FnScope ["self", "since", "base", "step", "more", "leg", "kept", "back", "numbers", "name", "number"] ["self", "since", "base", "step", "more", "leg", "kept", "back"] (defScope s_Rule_init) := ⟨rfl, rfl, rfl, by decide +kernel, rfl, by decide +kernel, by decide +kernel⟩
theorem sc_Rule_fee : FnScope ["self", "weight", "legs", "kept", "heavy", "found"] ["self", "weight", "legs", "kept"] (defScope s_Rule_fee) := ⟨rfl, rfl, rfl, by decide +kernel, rfl, by decide +kernel, by decide +kernel⟩
theorem sc_well : FnScope ["_law_cell"] ["_law_cell"] (defScope s_well) := ⟨rfl, rfl, rfl, by decide +kernel, rfl, by decide +kernel, by decide +kernel⟩
theorem sc_draw : FnScope ["_law_well_here", "_law_many", "_law_digit", "_law_prime", "_law_number_here"] ["_law_well_here", "_law_many"] (defScope s_draw) := ⟨rfl, rfl, rfl, by decide +kernel, rfl, by decide +kernel, by decide +kernel⟩
theorem sc_one : FnScope ["_law_well_here", "_law_some"] ["_law_well_here", "_law_some"] (defScope s_one) := ⟨rfl, rfl, rfl, by decide +kernel, rfl, by decide +kernel, by decide +kernel⟩
theorem sc_num60 : FnScope ["_law_well_here", "_law_least"] ["_law_well_here", "_law_least"] (defScope s_num60) := ⟨rfl, rfl, rfl, by decide +kernel, rfl, by decide +kernel, by decide +kernel⟩
theorem sc_law_parts : FnScope ["_law_ground", "_law_stride", "_law_each", "_law_toll", "_law_care", "_law_found"] ["_law_ground", "_law_stride", "_law_each", "_law_toll", "_law_care"] (defScope s_law_parts) := ⟨rfl, rfl, rfl, by decide +kernel, rfl, by decide +kernel, by decide +kernel⟩
theorem sc_law_steps_right : FnScope ["_law_rule", "_law_stride", "_law_each", "_law_toll", "_law_heavy_one", "_law_far", "_law_cared", "_law_due", "_law_heavier", "_law_first"] ["_law_rule", "_law_stride", "_law_each", "_law_toll", "_law_heavy_one", "_law_far", "_law_cared"] (defScope s_law_steps_right) := ⟨rfl, rfl, rfl, by decide +kernel, rfl, by decide +kernel, by decide +kernel⟩
theorem sc_law : FnScope ["_law_script", "_law_cell", "_law_well_here", "_law_ground", "_law_each", "_law_toll", "_law_care", "_law_k", "_law_stride", "_law_rule", "_law_later", "_law_other", "_law_by", "_law_great", "_law_heavy_one", "_law_far", "_law_cared", "_law_due", "_law_parts_here", "_law_part"] ["_law_script"] (defScope s_law) := ⟨rfl, rfl, rfl, by decide +kernel, rfl, by decide +kernel, by decide +kernel⟩
end Lw

namespace TP
open PySem PySem.Spec PyProof.Rows L2

/-- the slots written out -/
theorem nrm {P : L2.St → Hp → Prop} {σ σ' : L2.St} {H : Hp} (e : σ = σ') (h : P σ' H) : P σ H := by
  subst e
  exact h
theorem nrmG {i : Nat} {v : V} {σ σ' : L2.St} {H : Hp} {Q : L2.St → Hp → Prop} (e : σ.set i (some v) = σ') (h : Q σ' H) : gName i v σ H Q := by
  subst e
  exact h
/-! ### whole numbers -/
def isIntD : PyData → Bool
  | .int _ => true
  | _ => false
def isFromD (d : PyData) (l : Int) : Bool := match d with
  | .int i => decide (l ≤ i)
  | _ => false
def spWhole (K : PySem.W.Frag) : Sp := fun vs H Q _ => ∃ (x : V) (d : PyData), vs = [x] ∧ Dr K H x d ∧ Q (.bl (isIntD d)) H
def spFrom (K : PySem.W.Frag) : Sp := fun vs H Q _ => ∃ (x : V) (d : PyData) (l : Int), vs = [x, .int l] ∧ Dr K H x d ∧ Q (.bl (isFromD d l)) H
/-! ### a rule: seven numbers -/
structure RN where
  s : Int
  b : Int
  st : Int
  m : Int
  l : Int
  k : Int
  bk : Int
abbrev Bd (i : Int) : Prop := 0 ≤ i ∧ i < 2 ^ 600
structure RN.ok (r : RN) : Prop where
  s : 0 ≤ r.s
  b : 0 ≤ r.b
  st : 1 ≤ r.st
  m : 0 ≤ r.m
  l : 0 ≤ r.l
  k : 0 ≤ r.k
  bk : 0 ≤ r.bk
def RN.fs (r : RN) : List (Str × V) := [("since", .int r.s), ("base", .int r.b), ("step", .int r.st), ("more", .int r.m), ("leg", .int r.l), ("kept", .int r.k), ("back", .int r.bk)]
def RN.vs (r : RN) : List V := [.int r.s, .int r.b, .int r.st, .int r.m, .int r.l, .int r.k, .int r.bk]
/-- a rule lies at a -/
def Ru (K : PySem.W.Frag) (H : Hp) (a : Addr) (r : RN) : Prop := ∃ dx, H a = some (.ins (He.ga K "Rule") dx r.fs)
def RN.fee (r : RN) (wt lg : Int) (kp : Bool) : Int := r.b + r.m * ((wt - 1) / r.st) + r.l * lg + (if kp then r.k else 0)
/-- a rule is made: all numbers are from their leasts on -/
def spRuleG (K : PySem.W.Frag) : Sp := fun vs H Q _ => ∃ (x dx : Addr) (r : RN), vs = .ref x :: r.vs ∧ H x = some (.ins (He.ga K "Rule") dx []) ∧ r.ok ∧ ∀ H', Wk x H H' → H' x = some (.ins (He.ga K "Rule") dx r.fs) → Q .non H'
def spFee (K : PySem.W.Frag) : Sp := fun vs H Q _ => ∃ (a : Addr) (r : RN) (wt lg : Int) (kp : Bool), vs = [.ref a, .int wt, .int lg, .bl kp] ∧ Ru K H a r ∧ r.ok ∧ r.st < 2 ^ 600 ∧ r.m < 2 ^ 600 ∧ r.l < 2 ^ 600 ∧ 1 ≤ wt ∧ wt < 2 ^ 600 ∧ Bd lg ∧ Q (.int (r.fee wt lg kp)) H
theorem p600 : (1 : Int) < 2 ^ 600 := by decide +kernel
theorem bd0 : Bd 0 := ⟨by decide, by decide +kernel⟩
theorem lt600 {i : Int} (h : i < 10 ^ 61) : i < 2 ^ 600 := Int.lt_trans h (by decide +kernel)
theorem mulW {i j : Int} (hi : 0 ≤ i) (hi2 : i < 2 ^ 600) (hj : 0 ≤ j) (hj2 : j < 2 ^ 600) : CMulW i j :=
  wide_mul (a := 600) (b := 600) (by omega) (by omega) (by decide) (by decide) (by decide)
theorem divW {i j : Int} (hj : 1 ≤ j) (hj2 : j < 2 ^ 600) : CDivW i j := wide_div (b := 600) (by omega) (by omega) (by decide) (by decide)
theorem fee_bd {r : RN} (ok : r.ok) (hb : r.b < 10 ^ 60) (hm : r.m < 10 ^ 60) (hl : r.l < 10 ^ 60) (hk : r.k < 10 ^ 60) {wt lg : Int} {kp : Bool} (w1 : 1 ≤ wt) (w2 : wt ≤ 1000) (l1 : 0 ≤ lg) (l2 : lg ≤ 1000) : 0 ≤ r.fee wt lg kp ∧ r.fee wt lg kp < 10 ^ 100 := by
  have h1 : 0 ≤ (wt - 1) / r.st := Int.ediv_nonneg (by omega) (by have := ok.st; omega)
  have h2 : (wt - 1) / r.st ≤ 1000 := Int.le_trans (Int.ediv_le_self _ (by omega)) (by omega)
  unfold RN.fee
  generalize (wt - 1) / r.st = hv at h1 h2 ⊢
  have a1 : 0 ≤ r.m * hv := Int.mul_nonneg ok.m h1
  have a2 : r.m * hv ≤ 10 ^ 60 * 1000 := Int.mul_le_mul (by omega) h2 h1 (by decide)
  have b1 : 0 ≤ r.l * lg := Int.mul_nonneg ok.l l1
  have b2 : r.l * lg ≤ 10 ^ 60 * 1000 := Int.mul_le_mul (by omega) l2 l1 (by decide)
  have c0 := ok.b
  have c1 := ok.k
  generalize r.m * hv = u at a1 a2 ⊢
  generalize r.l * lg = v at b1 b2 ⊢
  cases kp <;> simp <;> omega
theorem heavy_bd {wt st : Int} (h : 1 ≤ wt) (h2 : wt < 2 ^ 600) (hs : 1 ≤ st) : 0 ≤ (wt - 1) / st ∧ (wt - 1) / st < 2 ^ 600 := by
  refine ⟨Int.ediv_nonneg (by omega) (by omega), Int.lt_of_le_of_lt (Int.ediv_le_self _ (by omega)) (by omega)⟩
/-! ### rows of numbers shown -/
theorem smInt {i : Int} (h0 : 0 ≤ i) (h : i < 10 ^ 100) : Sm 100 (.int i) := by
  refine ⟨?_, ?_, by rw [PyData.depth]; decide⟩
  · show decide (i.natAbs.log2 < 1920) = true
    refine decide_eq_true ?_
    by_cases h1 : i.natAbs = 0
    · rw [h1]
      decide
    · exact Nat.lt_of_lt_of_le ((Nat.log2_lt h1).mpr (show i.natAbs < 2 ^ 400 by omega)) (by decide)
  · rw [TP.wt]
    exact PyProof.Rows.toString_length_le h0 (by decide) h
theorem drInts {K : PySem.W.Frag} {H : Hp} : ∀ l : List Int, DrAll K H (l.map V.int) (l.map PyData.int)
  | [] => .nil
  | i :: l => .cons (.int i) (drInts l)
theorem shAll {B : Nat} : ∀ {l : List PyData}, (∀ d ∈ l, Sm B d) → PyData.showableAll l = true ∧ wtAll l ≤ l.length * (B + 2) ∧ PyData.depthAll l ≤ 20
  | [], _ => ⟨rfl, Nat.zero_le _, by rw [PyData.depthAll]; decide⟩
  | d :: l, h => by
    have h1 := h d (.head _)
    obtain ⟨h2, h3, h4⟩ := shAll (l := l) fun e he => h e (.tail _ he)
    have h5 := h1.wt
    have h6 := h1.dp
    refine ⟨by rw [PyData.showableAll, h1.sh, h2]; rfl, ?_, ?_⟩
    · rw [wtAll, List.length_cons, Nat.add_mul]
      omega
    · rw [PyData.depthAll]
      omega
theorem smInts {l : List Int} (h : ∀ i ∈ l, 0 ≤ i ∧ i < 10 ^ 100) (hl : l.length ≤ 100) : (PyData.list (l.map PyData.int)).showable = true ∧ (PyData.list (l.map PyData.int)).depth ≤ 50 ∧ (PyData.list (l.map PyData.int)).shown.length ≤ sizeLine := by
  obtain ⟨h1, h2, h3⟩ := shAll (B := 100) (l := l.map PyData.int) fun d hd => by
    obtain ⟨i, hi, rfl⟩ := List.mem_map.mp hd
    exact smInt (h i hi).1 (h i hi).2
  refine ⟨h1, by rw [PyData.depth]; omega, Nat.le_trans (shown_wt _) ?_⟩
  rw [TP.wt]
  rw [List.length_map] at h2
  have : sizeLine = 16777216 := sizeLine_eq
  have : l.length * (100 + 2) ≤ 100 * 102 := Nat.mul_le_mul hl (Nat.le_refl _)
  omega
/-- a class's object is made: all else stays -/
theorem made_ex {H H' : Hp} {x dx : Addr} {o o' : HO} (hx : H x = none) (hd : H dx = none) (wk : Wk x (upd (upd H dx o') x o) H') : Evl.Ex H H' := fun b u hb => by
  refine wk b u (ne_of_none hb hx) ?_
  rw [upd_ne (ne_of_none hb hx), upd_ne (ne_of_none hb hd)]
  exact hb
theorem Wl.ex {H H' : Hp} {a : Addr} {n : Nat} (h : Wl H a n) (e : Evl.Ex H H') : Wl H' a n := by
  obtain ⟨x, y, c, q, r⟩ := h
  exact ⟨x, y, c, e _ _ q, r⟩
theorem Dn.ex {a : Addr} {n : Nat} {H H1 H' : Hp} (h : Dn a n H H1) (e : Evl.Ex H1 H') : Dn a n H H' := ⟨h.wl.ex e, fun b o nb hb => e b o (h.k b o nb hb)⟩
theorem Ru.ex {K : PySem.W.Frag} {H H' : Hp} {a : Addr} {r : RN} (h : Ru K H a r) (e : Evl.Ex H H') : Ru K H' a r := by
  obtain ⟨dx, q⟩ := h
  exact ⟨dx, e _ _ q⟩
theorem Ru.dn {K : PySem.W.Frag} {H H' : Hp} {a b : Addr} {n : Nat} {r : RN} (h : Ru K H a r) (d : Dn b n H H') (nb : a ≠ b) : Ru K H' a r := by
  obtain ⟨dx, q⟩ := h
  exact ⟨dx, d.k _ _ nb q⟩
/-! ### a comprehension that draws -/
theorem Dn.put {a D : Addr} {m : Nat} {H H' : Hp} {o : HO} (d : Dn a m H H') (hD : H D = none) (n : D ≠ a) : Dn a m H (upd H' D o) := by
  refine ⟨?_, fun b u nb h => ?_⟩
  · obtain ⟨x, y, c, e, r⟩ := d.wl
    exact ⟨x, y, c, by rw [upd_ne (Ne.symm n)]; exact e, r⟩
  · rw [upd_ne (ne_of_none h hD)]
    exact d.k b u nb h
theorem lc_dn {J : It} {n : Nat} {G : Hp → Prop} {Y : Nat → Hp → V → Hp → Prop} (w : Walk J n G Y) {g : TG} {tt : TT} {te : TE} {vs : List Nat} {σ : L2.St} {H1 : Hp} {a D : Addr} {Qd : Hp → Prop} (m0 k : Nat) (P : V → Prop)
    (hW : Wl H1 a m0) (hD : H1 D = none) (hn : n < 1000000) (hG : ∀ m H, Dn a m H1 H → G H)
    (hs : ∀ (i : Nat) (x : V) (H H' : Hp) (C : V → Hp → Prop) (N : Hp → Prop), i < n → Dn a (m0 + i * k) H1 H → Y i H x H' → (∀ v H4, P v → Dn a (m0 + (i + 1) * k) H H4 → C v H4) →
      g x (wipe σ vs) H' fun σ2 H2 => wipe σ2 vs = wipe σ vs ∧ tt σ2 H2 fun b H3 => if b = true then te σ2 H3 C else N H3)
    (hd : ∀ H' acc, Dn a (m0 + n * k) H1 H' → H' D = some (.lst acc) → acc.length = n → (∀ v ∈ acc, P v) → Qd H') :
    ∃ W : Nat → Nat → Hp → Prop, (∃ m, W 0 m (upd H1 D (.lst []))) ∧ ∀ i m H, W i m H →
      (J.stop i H ∧ Qd H) ∨ (J.go i H ∧ ∃ Nx : Hp → Prop, (∀ H', Nx H' → ∃ m', m' < m ∧ W (i + 1) m' H') ∧ ∀ x H', J.yld i H x H' → g x (wipe σ vs) H' fun σ2 H2 => wipe σ2 vs = wipe σ vs ∧ tt σ2 H2 fun b H3 =>
        if b = true then te σ2 H3 fun y H4 => ∃ acc, H4 D = some (.lst acc) ∧ acc.length < sizeLine ∧ Nx (upd H4 D (.lst (acc ++ [y]))) else Nx H3) := by
  have nD : D ≠ a := hW.nep hD
  refine lc_it w (fun i H => Dn a (m0 + i * k) H1 H ∧ ∃ acc, H D = some (.lst acc) ∧ acc.length = i ∧ ∀ v ∈ acc, P v) ⟨?_, [], upd_same, rfl, fun v h => nomatch h⟩ (fun i H _ q => hG _ H q.1) (fun i x H H' hi q y => ?_) (fun H q => ?_)
  · exact Dn.put ⟨by simpa using hW, Wk.refl _ _⟩ hD nD
  · obtain ⟨d, acc, ha, hl, hp⟩ := q
    refine hs i x H H' _ _ hi d y fun v H4 hv d4 => ⟨acc, d4.k D _ nD ha, ?_, (d.trans d4).put hD nD, acc ++ [v], upd_same, by simp [hl], fun u hu => ?_⟩
    · have : sizeLine = 16777216 := sizeLine_eq
      omega
    · rcases List.mem_append.mp hu with h | h
      · exact hp u h
      · have : u = v := by simpa using h
        rw [this]
        exact hv
  · obtain ⟨d, acc, ha, hl, hp⟩ := q
    exact hd H acc d ha hl hp
/-- a number from a least one on, of up to sixty figures -/
def spNum : Sp := fun vs H Q _ => ∃ (a : Addr) (n : Nat) (l : Int), vs = [.ref a, .int l] ∧ Wl H a n ∧ n < 900000 ∧ ∀ (d : Int) (H' : Hp), 0 ≤ d → d < 10 ^ 59 → Dn a (n + 2) H H' → Q (.int (l + d)) H'
abbrev LKs : List Str := ["since", "base", "step", "more", "leg", "kept", "back"]
abbrev LKv : List (Str × He.Dv) := [("since", .int 0), ("base", .int 0), ("step", .int 1), ("more", .int 0), ("leg", .int 0), ("kept", .int 0), ("back", .int 0)]
theorem rule_at {r : RN} (ok : r.ok) {i : Nat} {x y : V} (hi : i < 7) (h1 : (LKs[i]?).map V.str = some x) (h2 : r.vs[i]? = some y) : ∃ (z : Str) (l j : Int), x = .str z ∧ y = .int j ∧ (z, He.Dv.int l) ∈ LKv ∧ l ≤ j := by
  match i, hi with
  | 0, _ => cases h1; cases h2; exact ⟨_, _, _, rfl, rfl, .head _, ok.s⟩
  | 1, _ => cases h1; cases h2; exact ⟨_, _, _, rfl, rfl, .tail _ (.head _), ok.b⟩
  | 2, _ => cases h1; cases h2; exact ⟨_, _, _, rfl, rfl, .tail _ (.tail _ (.head _)), ok.st⟩
  | 3, _ => cases h1; cases h2; exact ⟨_, _, _, rfl, rfl, .tail _ (.tail _ (.tail _ (.head _))), ok.m⟩
  | 4, _ => cases h1; cases h2; exact ⟨_, _, _, rfl, rfl, .tail _ (.tail _ (.tail _ (.tail _ (.head _)))), ok.l⟩
  | 5, _ => cases h1; cases h2; exact ⟨_, _, _, rfl, rfl, .tail _ (.tail _ (.tail _ (.tail _ (.tail _ (.head _))))), ok.k⟩
  | 6, _ => cases h1; cases h2; exact ⟨_, _, _, rfl, rfl, .tail _ (.tail _ (.tail _ (.tail _ (.tail _ (.tail _ (.head _)))))), ok.bk⟩
end TP

namespace Lw
open PySem PySem.Spec PyProof.Rows L2 TP
section
variable {P : Program} {w : World} {K : PySem.W.Frag} {mg : Str → Option Value} {base : Heap}

theorem ok_is_whole (T : TX w K mg) : Gt P w K mg base CX0 1 "is_whole" ["thing"] (spWhole K) := by
  refine gt_mk (D_is_whole T) (g_is_whole T) sc_is_whole rfl (fun _ _ _ _ _ _ us hl => match us, hl with | [_], _ => rfl) (fun vs H Q E h => ?_) (fun f cdv A outer s H vs Q E hr h => ?_)
  · obtain ⟨x, d, rfl, _⟩ := h
    rfl
  obtain ⟨x, d, rfl, hd, k⟩ := h
  refine ⟨_, (pss_one (ps_ret (pe_and (pe_callB call_isi (by rfl) (f_isinstance T) (by decide +kernel) (pa_cons (pv 0) (pa_cons (pe_gty (n := "int") (f_int T) (by decide +kernel)) pa_nil))) (pe_one (pe_not (pe_callB call_isi (by rfl) (f_isinstance T) (by decide +kernel) (pa_cons (pv 0) (pa_cons (pe_gty (n := "bool") (f_bool T) (by decide +kernel)) pa_nil)))))))), ?_⟩
  refine ⟨_, rfl, x, _, _, _, _, rfl, .ty "int", hd.ty, kit_int d, _, rfl, ite2 (fun e => ?_) (fun e => ?_)⟩
  · refine ⟨_, rfl, x, _, _, _, _, rfl, .ty "bool", hd.ty, kit_thing d, _, rfl, ?_⟩
    cases d <;> first | exact k | exact absurd (of_decide_eq_true e) (by simp [tyN])
  · have : isIntD d = false := by
      cases d <;> first | rfl | exact absurd (decide_eq_true (Or.inl rfl)) e
    rw [this] at k
    exact k
theorem ok_is_from (T : TX w K mg) : Gt P w K mg base CX0 2 "is_from" ["thing", "least"] (spFrom K) := by
  refine gt_mk (D_is_from T) (g_is_from T) sc_is_from rfl (fun _ _ _ _ _ _ us hl => match us, hl with | [_, _], _ => rfl) (fun vs H Q E h => ?_) (fun f cdv A outer s H vs Q E hr h => ?_)
  · obtain ⟨x, d, l, rfl, _⟩ := h
    rfl
  obtain ⟨x, d, l, rfl, hd, k⟩ := h
  refine ⟨_, (pss_one (ps_ret (pe_and ((ok_is_whole T).pe (hr.mono (by decide)) (pa_cons (pv 0) pa_nil)) (pe_one (pe_cmpR op_le (pv 1) (pv 0) (nomark _)))))), ?_⟩
  refine ⟨_, rfl, x, d, rfl, hd, _, rfl, ite2 (fun e => ?_) (fun e => ?_)⟩
  · cases d with
    | int i =>
      cases hd
      exact ⟨_, rfl, _, rfl, _, _, rfl, rfl, k⟩
    | _ => cases e
  · have : isFromD d l = false := by
      cases d <;> first | rfl | exact absurd rfl e
    rw [this] at k
    exact k

theorem ok_Rule_init (T : TX w K mg) : GtF P w K mg base CX0 3 d_Rule_init ["self", "since", "base", "step", "more", "leg", "kept", "back"] (spRuleG K) := by
  refine gtF_mk (D_Rule_init T) sc_Rule_init (fun vs H Q E h => ?_) (fun f cdv A outer s H vs Q E hr h => ?_)
  · obtain ⟨x, dx, r, rfl, _⟩ := h
    rfl
  obtain ⟨x, dx, r, rfl, hx, ok, k⟩ := h
  obtain ⟨es, ep, DL, hks⟩ := t_LEASTS T
  have KK := kkeys_of DL hks
  refine ⟨_, (pss_cons (ps_set (i := 8) sc_Rule_init.nd rfl (by first | exact Or.inl rfl | exact Or.inr rfl) (pe_lst (pa_cons (pv 1) (pa_cons (pv 2) (pa_cons (pv 3) (pa_cons (pv 4) (pa_cons (pv 5) (pa_cons (pv 6) (pa_cons (pv 7) pa_nil)))))))))
    (pss_cons (ps_for PassesOwn.never rfl (pi_kz KK (by rfl) (f_zip T) (pa_cons (pe_gref (g_LEASTS T)) (pa_cons (pv 8) pa_nil))) (pg_tup (by rfl) (pgs_cons (pg_name (i := 9) sc_Rule_init.nd rfl (by first | exact Or.inl rfl | exact Or.inr rfl)) (pgs_cons (pg_name (i := 10) sc_Rule_init.nd rfl (by first | exact Or.inl rfl | exact Or.inr rfl)) pgs_nil)))
      (pss_one (ps_if (pt_not (pt_val ((ok_is_from T).pe (hr.mono (by decide)) (pa_cons (pv 10) (pa_cons (pe_ix ix_kdict (pe_gref (g_LEASTS T)) (pv 9) (fun _ _ => rfl)) pa_nil)))))
      (pss_one ps_never)
      pss_nil)))
    (pss_one (ps_asg (pv 8) (pg_unl (by rfl) (pgs_cons (pg_attr (pv 0)) (pgs_cons (pg_attr (pv 0)) (pgs_cons (pg_attr (pv 0)) (pgs_cons (pg_attr (pv 0)) (pgs_cons (pg_attr (pv 0)) (pgs_cons (pg_attr (pv 0)) (pgs_cons (pg_attr (pv 0)) pgs_nil)))))))))))), ?_⟩
  refine ⟨_, rfl, _, rfl, _, rfl, _, rfl, _, rfl, _, rfl, _, rfl, (by show 7 ≤ sizeLine; decide), fun n hn => ?_⟩
  have nx : x ≠ n := ne_of_none hx hn
  refine ⟨_, rfl, n, r.vs, rfl, SqL.of upd_same, for_it (walk_kz (ks := LKs) (ys := r.vs) rfl) (fun i σ H' => (∃ u9 u10 : Option V, σ = [some (.ref x), some (.int r.s), some (.int r.b), some (.int r.st), some (.int r.m), some (.int r.l), some (.int r.k), some (.int r.bk), some (.ref n), u9, u10]) ∧ Evl.Ex (upd H n (.lst r.vs)) H')
    ⟨⟨_, _, rfl⟩, Evl.Ex.refl _⟩ (fun i σ H' _ q => SqL.of (q.2 _ _ upd_same)) ?_ ?_⟩
  · rintro i v σ H1 H2 hi ⟨⟨u9, u10, rfl⟩, e1⟩ ⟨T', y1, y2, rfl, hT, rfl, hy1, hy2⟩
    obtain ⟨z, l, j, rfl, rfl, hm, hle⟩ := rule_at ok hi hy1 hy2
    refine ⟨T', _, rfl, SqT.of upd_same, rfl, _, _, rfl, _, _, rfl, rfl, ?_⟩
    refine ⟨_, rfl, _, rfl, _, _, _, rfl, rfl, kdct_of DL (v_LEASTS T) hm, _, _, _, rfl, Dr.int _, _, rfl, ?_⟩
    have hb : isFromD (.int j) l = true := decide_eq_true hle
    rw [hb]
    exact iteF ⟨⟨_, _, rfl⟩, e1.trans (Evl.Ex.new hT)⟩
  · rintro σ H1 ⟨⟨u9, u10, rfl⟩, e1⟩
    have hx1 : H1 x = some (.ins (He.ga K "Rule") dx []) := e1 x _ (by rw [upd_ne nx]; exact hx)
    have hn1 : H1 n = some (.lst r.vs) := e1 n _ upd_same
    have wk : Wk x H H1 := fun b o nb hb => e1 b o (by rw [upd_ne (ne_of_none hb hn)]; exact hb)
    refine ⟨_, rfl, n, r.vs, rfl, SqL.of hn1, rfl, _, _, rfl, _, rfl, x, _, dx, _, rfl, hx1, cl_Rule T, na_Rule_since T, (by show 0 < 1000; decide), _, _, rfl, _, rfl, x, _, dx, _, rfl, upd_same, cl_Rule T, na_Rule_base T, (by show 1 < 1000; decide), _, _, rfl, _, rfl, x, _, dx, _, rfl, upd_same, cl_Rule T, na_Rule_step T, (by show 2 < 1000; decide), _, _, rfl, _, rfl, x, _, dx, _, rfl, upd_same, cl_Rule T, na_Rule_more T, (by show 3 < 1000; decide), _, _, rfl, _, rfl, x, _, dx, _, rfl, upd_same, cl_Rule T, na_Rule_leg T, (by show 4 < 1000; decide), _, _, rfl, _, rfl, x, _, dx, _, rfl, upd_same, cl_Rule T, na_Rule_kept T, (by show 5 < 1000; decide), _, _, rfl, _, rfl, x, _, dx, _, rfl, upd_same, cl_Rule T, na_Rule_back T, (by show 6 < 1000; decide), rfl, k _ ?_ ?_⟩
    · exact Wk.set (Wk.set (Wk.set (Wk.set (Wk.set (Wk.set (Wk.set wk))))))
    · exact upd_same
theorem ok_Rule_fee (T : TX w K mg) : GtF P w K mg base CX0 1 d_Rule_fee ["self", "weight", "legs", "kept"] (spFee K) := by
  refine gtF_mk (D_Rule_fee T) sc_Rule_fee (fun vs H Q E h => ?_) (fun f cdv A outer s H vs Q E hr h => ?_)
  · obtain ⟨x, r, wt, lg, kp, rfl, _⟩ := h
    rfl
  obtain ⟨a, r, wt, lg, kp, rfl, ⟨dx, ha⟩, ok, b1, b2, b3, h1, h2, h3, k⟩ := h
  refine ⟨_, (pss_cons (ps_set (i := 4) sc_Rule_fee.nd rfl (by first | exact Or.inl rfl | exact Or.inr rfl) (pe_op op_fdivW (pe_op op_sub (pv 1) pe_int) (pe_fld (pv 0) rfl)))
    (pss_cons (ps_set (i := 5) sc_Rule_fee.nd rfl (by first | exact Or.inl rfl | exact Or.inr rfl) (pe_op op_add (pe_op op_add (pe_fld (pv 0) rfl) (pe_op op_mulW (pe_fld (pv 0) rfl) (pv 4))) (pe_op op_mulW (pe_fld (pv 0) rfl) (pv 2))))
    (pss_cons (ps_if (pt_val (pv 3))
      (pss_one (ps_aug (i := 5) sc_Rule_fee.nd rfl (by first | exact Or.inl rfl | exact Or.inr rfl) (pe_fld (pv 0) rfl) ip_add))
      pss_nil)
    (pss_one (ps_ret (pv 5)))))), ?_⟩
  have hv := heavy_bd h1 h2 ok.st
  have C := cl_Rule T
  refine ⟨_, rfl, _, _, rfl, rfl, _, rfl, a, _, dx, _, _, rfl, ha, C, na_Rule_step T, rfl, _, _, rfl, rfl, divW ok.st b1, ?_⟩
  refine ⟨_, rfl, a, _, dx, _, _, rfl, ha, C, na_Rule_base T, rfl, _, rfl, a, _, dx, _, _, rfl, ha, C, na_Rule_more T, rfl, _, rfl, _, _, rfl, rfl, mulW ok.m b2 hv.1 hv.2, _, _, rfl, rfl, ?_⟩
  refine ⟨_, rfl, a, _, dx, _, _, rfl, ha, C, na_Rule_leg T, rfl, _, rfl, _, _, rfl, rfl, mulW ok.l b3 h3.1 h3.2, _, _, rfl, rfl, ?_⟩
  refine ⟨_, rfl, _, rfl, ite2 (fun e => ?_) (fun e => ?_)⟩
  · subst e
    refine ⟨_, rfl, _, rfl, a, _, dx, _, _, rfl, ha, C, na_Rule_kept T, rfl, _, _, rfl, rfl, ?_⟩
    exact ⟨_, rfl, k⟩
  · have e2 : kp = false := by simpa using e
    subst e2
    refine ⟨_, rfl, ?_⟩
    have : r.fee wt lg false = r.b + r.m * ((wt - 1) / r.st) + r.l * lg := by unfold RN.fee; simp
    rw [this] at k
    exact k

end
end Lw

namespace TP
open PySem PySem.Spec PyProof.Rows L2
section
variable {X : Cx} {CX : CXT} {k n : Nat} {d : He.DefD} {C : Addr} {ps ks : List Str} {sp : Sp} {E : XK} {x m f : Str} {p pos apos : Pos} {o e : Expr} {es : List Expr} {kws : List Keyword} {t tk : TA} {ta : TE} {js is : List Nat}
/-- o.m(k = v, ..) within a comprehension: the written part by its name -/
theorem GtF.methKL (K : PySem.W.Frag) (G : GtF X.prog X.w X.K X.mg X.base CX k d ps sp) (B : Kb d ps 1 ks js is) (c : Cls X.K C) (hm : Meth X.K C m (He.fAd X.K d.at_)) (hr : Room k X.A) (hx : Passes CX X E) (he : PE X o ta) (hkw : PK X kws tk) {pl : Sem Bool} (hK : X.K = K := by rfl)
    (hall : (backToKw pos (keywordEach kws X.env)).all (·.1.isSome) = true := by rfl) (hks : (backToKw pos (keywordEach kws X.env)).filterMap (·.1) = ks := by rfl)
    (hpl : ((backTo pos (starEach [] X.env)).any (·.1) || (backToKw pos (keywordEach kws X.env)).any (·.1.isNone)) = false := by rfl)
    (ht : eval (.Call (.Attribute o m apos) [] kws pos) X.env = (do
      let ov ← eval o X.env
      standAt apos.atName
      let (f, first) ← holding [ov] (getMethod ov m pl)
      callWith pos f first (backTo pos (starEach [] X.env)) (backToKw pos (keywordEach kws X.env))) := by rfl) :
    PE X (.Call (.Attribute o m apos) [] kws pos) (tMethK C m ks.length sp (gK d js is K) E ta tk) := by
  subst hK
  exact GtF.methK (pl := pl) G B c hm hr hx he hkw hall hks hpl ht
theorem pe_fldL (K : PySem.W.Frag) (he : PE X e ta) (hb : attributeBase e f X.env (eval e X.env) = eval e X.env) (hK : X.K = K := by rfl) : PE X (.Attribute e f pos) (tFld K ta f) := by
  subst hK
  exact pe_fld he hb
end
theorem in_two {i m : Int} (h : i = 0 ∨ i = m) : inV (.int i) [.int 0, .int m] = true := by
  rcases h with rfl | rfl <;> simp [inV, eqV]
/-! ### fees by parts -/
theorem fee_leg (r : RN) (wt lg : Int) (c : Bool) : r.fee wt (lg + 1) c = r.fee wt lg c + r.l := by
  unfold RN.fee
  rw [Int.mul_add, Int.mul_one]
  omega
theorem fee_step {r : RN} (ok : r.ok) (wt lg : Int) (c : Bool) : r.fee (wt + r.st) lg c = r.fee wt lg c + r.m := by
  unfold RN.fee
  have h := ok.st
  rw [show wt + r.st - 1 = wt - 1 + 1 * r.st by omega, Int.add_mul_ediv_right _ _ (by omega), Int.mul_add, Int.mul_one]
  omega
theorem fee_first {r : RN} (ok : r.ok) (wt lg : Int) (c : Bool) : r.fee (wt - (wt - 1) % r.st) lg c = r.fee wt lg c := by
  unfold RN.fee
  have h := ok.st
  have e : (wt - (wt - 1) % r.st - 1) / r.st = (wt - 1) / r.st := by
    have h1 := Int.emod_add_mul_ediv (wt - 1) r.st
    rw [show wt - (wt - 1) % r.st - 1 = (wt - 1) / r.st * r.st by rw [Int.mul_comm]; omega]
    exact Int.mul_ediv_cancel _ (by omega)
  rw [e]
theorem fee_next {r : RN} (ok : r.ok) (wt lg : Int) (c : Bool) : r.fee (wt + 1) lg c - r.fee wt lg c = 0 ∨ r.fee (wt + 1) lg c - r.fee wt lg c = r.m := by
  unfold RN.fee
  have h := ok.st
  have e : (wt + 1 - 1) / r.st = (wt - 1) / r.st ∨ (wt + 1 - 1) / r.st = (wt - 1) / r.st + 1 := by
    have h1 : (wt - 1) / r.st ≤ (wt + 1 - 1) / r.st := Int.ediv_le_ediv (by omega) (by omega)
    have h2 : (wt + 1 - 1) / r.st ≤ (wt - 1 + 1 * r.st) / r.st := Int.ediv_le_ediv (by omega) (by omega)
    rw [Int.add_mul_ediv_right _ _ (by omega)] at h2
    omega
  rcases e with e | e
  · left
    rw [e]
    omega
  · right
    rw [e, Int.mul_add, Int.mul_one]
    omega
theorem fee_by {r : RN} (b wt lg : Int) (c : Bool) (s bk : Int) : RN.fee ⟨s, r.b * b, r.st, r.m * b, r.l * b, r.k * b, bk⟩ wt lg c = r.fee wt lg c * b := by
  unfold RN.fee
  simp only [Int.add_mul, Int.mul_right_comm]
  cases c <;> simp
theorem fee_parts (r : RN) (wt lg : Int) (c : Bool) : RN.fee ⟨0, r.b, r.st, 0, 0, 0, 0⟩ wt lg c + (RN.fee ⟨0, 0, r.st, r.m, 0, 0, 0⟩ wt lg c + (RN.fee ⟨0, 0, r.st, 0, r.l, 0, 0⟩ wt lg c + (RN.fee ⟨0, 0, r.st, 0, 0, r.k, 0⟩ wt lg c + 0))) = r.fee wt lg c := by
  unfold RN.fee
  cases c <;> simp <;> omega
theorem fee_kept (r : RN) (wt lg : Int) : r.fee wt lg true = r.fee wt lg false + r.k := by
  unfold RN.fee
  simp
end TP

namespace Lw
open PySem PySem.Spec PyProof.Rows L2 TP
section
variable {P : Program} {w : World} {K : PySem.W.Frag} {mg : Str → Option Value} {base : Heap}

abbrev R1 (g st : Int) : RN := ⟨0, g, st, 0, 0, 0, 0⟩
abbrev R2' (st ea : Int) : RN := ⟨0, 0, st, ea, 0, 0, 0⟩
abbrev R3 (st to : Int) : RN := ⟨0, 0, st, 0, to, 0, 0⟩
abbrev R4 (st ca : Int) : RN := ⟨0, 0, st, 0, 0, ca, 0⟩
theorem zz : (0 : Int) ≤ 0 := Int.le_refl 0
def spParts (K : PySem.W.Frag) : Sp := fun vs H Q _ => ∃ g st ea to ca : Int, vs = [.int g, .int st, .int ea, .int to, .int ca] ∧ 0 ≤ g ∧ 1 ≤ st ∧ 0 ≤ ea ∧ 0 ≤ to ∧ 0 ≤ ca ∧
  ∀ l a1 a2 a3 a4 H', Evl.Ex H H' → H' l = some (.lst [.ref a1, .ref a2, .ref a3, .ref a4]) → Ru K H' a1 (R1 g st) → Ru K H' a2 (R2' st ea) → Ru K H' a3 (R3 st to) → Ru K H' a4 (R4 st ca) → Q (.ref l) H'
theorem ok_law_parts (T : TX w K mg) : Gt P w K mg base CX0 5 "_law_parts" ["_law_ground", "_law_stride", "_law_each", "_law_toll", "_law_care"] (spParts K) := by
  refine gt_mk (D_law_parts T) (g_law_parts T) sc_law_parts rfl (fun _ _ _ _ _ _ us hl => match us, hl with | [_, _, _, _, _], _ => rfl) (fun vs H Q E h => ?_) (fun f cdv A outer s H vs Q E hr h => ?_)
  · obtain ⟨g, st, ea, to, ca, rfl, _⟩ := h
    rfl
  obtain ⟨g, st, ea, to, ca, rfl, g0, st1, ea0, to0, ca0, k⟩ := h
  refine ⟨_, (pss_cons (ps_set (i := 5) sc_law_parts.nd rfl (by first | exact Or.inl rfl | exact Or.inr rfl) (pe_lst (pa_cons (GtF.makeK0 (ok_Rule_init T) kb_Rule_init_1_base_step (mk_Rule T) (g_Rule T) (hr.mono (by decide)) pass0 (pk_cons (pv 0) (pk_cons (pv 1) pk_nil))) (pa_cons (GtF.makeK0 (ok_Rule_init T) kb_Rule_init_1_step_more (mk_Rule T) (g_Rule T) (hr.mono (by decide)) pass0 (pk_cons (pv 1) (pk_cons (pv 2) pk_nil))) pa_nil))))
    (pss_one (ps_ret (pe_op op_cat (pv 5) (pe_lst (pa_cons (GtF.makeK0 (ok_Rule_init T) kb_Rule_init_1_step_leg (mk_Rule T) (g_Rule T) (hr.mono (by decide)) pass0 (pk_cons (pv 1) (pk_cons (pv 3) pk_nil))) (pa_cons (GtF.makeK0 (ok_Rule_init T) kb_Rule_init_1_step_kept (mk_Rule T) (g_Rule T) (hr.mono (by decide)) pass0 (pk_cons (pv 1) (pk_cons (pv 4) pk_nil))) pa_nil))))))), ?_⟩
  refine ⟨_, rfl, _, rfl, rfl, rfl, fun x1 y1 hx1 hy1 n1 => ⟨x1, y1, R1 g st, rfl, upd_same, ⟨zz, g0, st1, zz, zz, zz, zz⟩, fun H1 wk1 h1 => ⟨rfl, ?_⟩⟩⟩
  have e1 := made_ex hx1 hy1 wk1
  refine ⟨_, rfl, _, rfl, rfl, rfl, fun x2 y2 hx2 hy2 n2 => ⟨x2, y2, R2' st ea, rfl, upd_same, ⟨zz, zz, st1, ea0, zz, zz, zz⟩, fun H2 wk2 h2 => ⟨rfl, ?_⟩⟩⟩
  have e2 := made_ex hx2 hy2 wk2
  refine ⟨(by show 2 ≤ sizeLine; decide), fun q1 hq1 => ?_⟩
  generalize hH_ : upd H2 q1 _ = H3
  have e3 : Evl.Ex H2 H3 := (by rw [← hH_]; exact Evl.Ex.new hq1)
  have f1 := (congrFun hH_ q1).symm
  rw [upd_same] at f1
  clear hH_
  refine ⟨_, rfl, _, rfl, _, rfl, rfl, rfl, fun x3 y3 hx3 hy3 n3 => ⟨x3, y3, R3 st to, rfl, upd_same, ⟨zz, zz, st1, zz, to0, zz, zz⟩, fun H4 wk4 h4 => ⟨rfl, ?_⟩⟩⟩
  have e4 := made_ex hx3 hy3 wk4
  refine ⟨_, rfl, _, rfl, rfl, rfl, fun x4 y4 hx4 hy4 n4 => ⟨x4, y4, R4 st ca, rfl, upd_same, ⟨zz, zz, st1, zz, zz, ca0, zz⟩, fun H5 wk5 h5 => ⟨rfl, ?_⟩⟩⟩
  have e5 := made_ex hx4 hy4 wk5
  refine ⟨(by show 2 ≤ sizeLine; decide), fun q2 hq2 => ?_⟩
  generalize hH_ : upd H5 q2 _ = H6
  have e6 : Evl.Ex H5 H6 := (by rw [← hH_]; exact Evl.Ex.new hq2)
  have f2 := (congrFun hH_ q2).symm
  rw [upd_same] at f2
  clear hH_
  refine ⟨q1, q2, _, _, rfl, rfl, (e4.trans (e5.trans e6)) q1 _ f1, f2, (by show 2 + 2 ≤ sizeLine; decide), fun q3 hq3 => ?_⟩
  generalize hH_ : upd H6 q3 _ = H7
  have e7 : Evl.Ex H6 H7 := (by rw [← hH_]; exact Evl.Ex.new hq3)
  have f3 := (congrFun hH_ q3).symm
  rw [upd_same] at f3
  clear hH_
  have k5 := e6.trans e7
  have k4 := e5.trans k5
  have k2 := e3.trans (e4.trans k4)
  have k1 := e2.trans k2
  exact k q3 x1 x2 x3 x4 H7 (e1.trans k1) f3 ⟨y1, k1 _ _ h1⟩ ⟨y2, k2 _ _ h2⟩ ⟨y3, k4 _ _ h4⟩ ⟨y4, k5 _ _ h5⟩
def spSteps (K : PySem.W.Frag) : Sp := fun vs H Q _ => ∃ (a : Addr) (r : RN) (wt lg : Int) (kp : Bool), vs = [.ref a, .int r.st, .int r.m, .int r.l, .int wt, .int lg, .bl kp] ∧ Ru K H a r ∧ r.ok ∧ r.st < 2 ^ 600 ∧ r.m < 2 ^ 600 ∧ r.l < 2 ^ 600 ∧ 1 ≤ wt ∧ wt ≤ 99 ∧ 0 ≤ lg ∧ lg ≤ 100 ∧
  ∀ H', Evl.Ex H H' → Q (.bl true) H'
theorem ok_law_steps_right (T : TX w K mg) : Gt P w K mg base CX0 2 "_law_steps_right" ["_law_rule", "_law_stride", "_law_each", "_law_toll", "_law_heavy_one", "_law_far", "_law_cared"] (spSteps K) := by
  refine gt_mk (D_law_steps_right T) (g_law_steps_right T) sc_law_steps_right rfl (fun _ _ _ _ _ _ us hl => match us, hl with | [_, _, _, _, _, _, _], _ => rfl) (fun vs H Q E h => ?_) (fun f cdv A outer s H vs Q E hr h => ?_)
  · obtain ⟨a, r, wt, lg, kp, rfl, _⟩ := h
    rfl
  obtain ⟨a, r, wt, lg, kp, rfl, ru, ok, b1, b2, b3, h1, h2, h3, h4, k⟩ := h
  obtain ⟨dx, ha⟩ := ru
  have ru : Ru K H a r := ⟨dx, ha⟩
  refine ⟨_, (pss_cons (ps_set (i := 7) sc_law_steps_right.nd rfl (by first | exact Or.inl rfl | exact Or.inr rfl) (GtF.methK (ok_Rule_fee T) kb_Rule_fee_1_weight_legs_kept (cl_Rule T) (m_Rule_fee T) (hr.mono (by decide)) pass0 (pv 0) (pk_cons (pv 4) (pk_cons (pv 5) (pk_cons (pv 6) pk_nil)))))
    (pss_cons (ps_if (pt_cmpR op_ne (GtF.methK (ok_Rule_fee T) kb_Rule_fee_1_weight_legs_kept (cl_Rule T) (m_Rule_fee T) (hr.mono (by decide)) pass0 (pv 0) (pk_cons (pv 4) (pk_cons (pe_op op_add (pv 5) pe_int) (pk_cons (pv 6) pk_nil)))) (pe_op op_add (pv 7) (pv 3)) (nomark _))
      (pss_one (ps_ret pe_bl))
      pss_nil)
    (pss_cons (ps_set (i := 8) sc_law_steps_right.nd rfl (by first | exact Or.inl rfl | exact Or.inr rfl) (pe_op op_add (pv 4) (pv 1)))
    (pss_cons (ps_if (PW.pt (pw_and (pt_cmpR op_le (pv 8) pe_int (nomark _)) (pw_and1 (pt_cmpR op_ne (GtF.methK (ok_Rule_fee T) kb_Rule_fee_1_weight_legs_kept (cl_Rule T) (m_Rule_fee T) (hr.mono (by decide)) pass0 (pv 0) (pk_cons (pv 8) (pk_cons (pv 5) (pk_cons (pv 6) pk_nil)))) (pe_op op_add (pv 7) (pv 2)) (nomark _)))))
      (pss_one (ps_ret pe_bl))
      pss_nil)
    (pss_cons (ps_set (i := 9) sc_law_steps_right.nd rfl (by first | exact Or.inl rfl | exact Or.inr rfl) (pe_op op_sub (pv 4) (pe_op op_mod (pe_callTy call_int1 (by rfl) (f_int T) (by decide +kernel) (pa_cons (pe_op op_sub (pv 4) pe_int) pa_nil)) (pv 1))))
    (pss_cons (ps_if (pt_cmpR op_ne (GtF.methK (ok_Rule_fee T) kb_Rule_fee_1_weight_legs_kept (cl_Rule T) (m_Rule_fee T) (hr.mono (by decide)) pass0 (pv 0) (pk_cons (pv 9) (pk_cons (pv 5) (pk_cons (pv 6) pk_nil)))) (pv 7) (nomark _))
      (pss_one (ps_ret pe_bl))
      pss_nil)
    (pss_one (ps_ret (pe_or (pe_cmpR op_eq (pv 4) pe_int (nomark _)) (pe_one (pe_cmpR op_in_seq (pe_op op_sub (GtF.methK (ok_Rule_fee T) kb_Rule_fee_1_weight_legs_kept (cl_Rule T) (m_Rule_fee T) (hr.mono (by decide)) pass0 (pv 0) (pk_cons (pe_op op_add (pv 4) pe_int) (pk_cons (pv 5) (pk_cons (pv 6) pk_nil)))) (pv 7)) (pe_tup (pa_cons pe_int (pa_cons (pv 2) pa_nil))) (by rfl)))))))))))), ?_⟩
  have st := ok.st
  refine ⟨_, rfl, a, dx, _, rfl, ha, rfl, _, rfl, _, rfl, _, rfl, rfl, a, r, wt, lg, kp, rfl, ru, ok, b1, b2, b3, h1, lt600 (by omega), ⟨h3, lt600 (by omega)⟩, ?_⟩
  refine ⟨_, rfl, a, dx, _, rfl, ha, rfl, _, rfl, _, rfl, _, _, rfl, rfl, _, rfl, rfl, a, r, wt, (lg + 1), kp, rfl, ru, ok, b1, b2, b3, h1, lt600 (by omega), ⟨by omega, lt600 (by omega)⟩, _, rfl, _, rfl, _, _, rfl, rfl, rfl, _, rfl, iteNS (by rw [fee_leg]) ?_⟩
  refine ⟨_, rfl, _, rfl, _, _, rfl, rfl, ?_⟩
  have hm : 0 ≤ (wt - 1) % r.st ∧ (wt - 1) % r.st ≤ wt - 1 := by
    have q1 := Int.emod_nonneg (wt - 1) (show r.st ≠ 0 by omega)
    have q2 := Int.emod_add_mul_ediv (wt - 1) r.st
    have q3 : 0 ≤ r.st * ((wt - 1) / r.st) := Int.mul_nonneg (by omega) (Int.ediv_nonneg (by omega) (by omega))
    omega
  refine ⟨_, rfl, _, _, rfl, rfl, _, rfl, ite2 (fun e => ?_) (fun e => ?_)⟩
  · have e := of_decide_eq_true e
    refine ⟨_, rfl, a, dx, _, rfl, ha, rfl, _, rfl, _, rfl, _, rfl, rfl, a, r, (wt + r.st), lg, kp, rfl, ru, ok, b1, b2, b3, (by omega), lt600 (by omega), ⟨by omega, lt600 (by omega)⟩, _, rfl, _, rfl, _, _, rfl, rfl, rfl, _, rfl, iteNS (by rw [fee_step ok]) ?_⟩
    refine ⟨_, rfl, _, rfl, _, _, rfl, rfl, .inl ⟨_, rfl, _, rfl, _, _, rfl, rfl, by omega, _, _, rfl, rfl, ?_⟩⟩
    refine ⟨_, rfl, a, dx, _, rfl, ha, rfl, _, rfl, _, rfl, _, rfl, rfl, a, r, (wt - (wt - 1) % r.st), lg, kp, rfl, ru, ok, b1, b2, b3, (by omega), lt600 (by omega), ⟨by omega, lt600 (by omega)⟩, _, rfl, rfl, _, rfl, iteNS (by rw [fee_first ok]) ?_⟩
    refine ⟨_, rfl, rfl, _, rfl, ite2 (fun e3 => ?_) (fun e3 => ?_)⟩
    · exact k H (Evl.Ex.refl H)
    · refine ⟨_, rfl, a, dx, _, rfl, ha, rfl, _, rfl, _, _, rfl, rfl, _, rfl, _, rfl, rfl, a, r, (wt + 1), lg, kp, rfl, ru, ok, b1, b2, b3, (by omega), lt600 (by omega), ⟨by omega, lt600 (by omega)⟩, _, rfl, _, _, rfl, rfl, _, rfl, (by show 2 ≤ sizeLine; decide), fun p hp => ⟨p, _, rfl, .inr (SqT.of upd_same), rfl, rfl, ?_⟩⟩
      have hin : inV (.int (r.fee (wt + 1) lg kp - r.fee wt lg kp)) [.int 0, .int r.m] = true := in_two (fee_next ok wt lg kp)
      have := k _ (Evl.Ex.new (o := .tup [.int 0, .int r.m]) hp)
      rw [← hin] at this
      exact this
  · refine iteF ?_
    refine ⟨_, rfl, _, rfl, _, _, rfl, rfl, .inl ⟨_, rfl, _, rfl, _, _, rfl, rfl, by omega, _, _, rfl, rfl, ?_⟩⟩
    refine ⟨_, rfl, a, dx, _, rfl, ha, rfl, _, rfl, _, rfl, _, rfl, rfl, a, r, (wt - (wt - 1) % r.st), lg, kp, rfl, ru, ok, b1, b2, b3, (by omega), lt600 (by omega), ⟨by omega, lt600 (by omega)⟩, _, rfl, rfl, _, rfl, iteNS (by rw [fee_first ok]) ?_⟩
    refine ⟨_, rfl, rfl, _, rfl, ite2 (fun e3 => ?_) (fun e3 => ?_)⟩
    · exact k H (Evl.Ex.refl H)
    · refine ⟨_, rfl, a, dx, _, rfl, ha, rfl, _, rfl, _, _, rfl, rfl, _, rfl, _, rfl, rfl, a, r, (wt + 1), lg, kp, rfl, ru, ok, b1, b2, b3, (by omega), lt600 (by omega), ⟨by omega, lt600 (by omega)⟩, _, rfl, _, _, rfl, rfl, _, rfl, (by show 2 ≤ sizeLine; decide), fun p hp => ⟨p, _, rfl, .inr (SqT.of upd_same), rfl, rfl, ?_⟩⟩
      have hin : inV (.int (r.fee (wt + 1) lg kp - r.fee wt lg kp)) [.int 0, .int r.m] = true := in_two (fee_next ok wt lg kp)
      have := k _ (Evl.Ex.new (o := .tup [.int 0, .int r.m]) hp)
      rw [← hin] at this
      exact this

end
end Lw

namespace Lw
open PySem PySem.Spec PyProof.Rows L2 TP
section
variable {P : Program} {w : World} {K : PySem.W.Frag} {mg : Str → Option Value} {base : Heap}

theorem ok_well (T : TX w K mg) : Gt P w K mg base CX0 1 "_law_well" ["_law_cell"] spWell := by
  refine gt_mk (D_well T) (g_well T) sc_well rfl (fun _ _ _ _ _ _ us hl => match us, hl with | [_], _ => rfl) (fun vs H Q E h => ?_) (fun f cdv A outer s H vs Q E hr h => ?_)
  · obtain ⟨z, rfl, _⟩ := h
    rfl
  obtain ⟨z, rfl, k⟩ := h
  refine ⟨_, (pss_one (ps_ret (pe_lst (pa_cons (pe_op op_mul (pv 0) (pe_callTy call_int1 (by rfl) (f_int T) (by decide +kernel) (pa_cons (pe_cmpR op_ge (pv 0) (pe_op op_pow pe_int pe_int) (nomark _)) pa_nil))) (pa_cons (pe_op op_mod (pe_callTy call_int1 (by rfl) (f_int T) (by decide +kernel) (pa_cons (pv 0) pa_nil)) pe_int) (pa_cons pe_int pa_nil)))))), ?_⟩
  refine ⟨_, rfl, _, rfl, _, _, rfl, rfl, ⟨by decide, by decide, by decide⟩, _, _, rfl, rfl, .inr ⟨_, rfl, ?_⟩⟩
  refine ⟨_, _, rfl, rfl, .inr ?_, _, rfl, .inl ⟨_, rfl, _, _, rfl, rfl, (by show (0 : Int) < 2147483647; decide), ?_⟩⟩
  · split <;> exact ⟨by decide, by decide⟩
  refine ⟨(by show 3 ≤ sizeLine; decide), fun p hp => k p _ hp ?_ (Evl.Ex.new hp)⟩
  refine ⟨_, _, _, upd_same, ?_, Int.emod_nonneg z (by decide), Int.emod_lt_of_pos z (by decide), by decide, by decide⟩
  show 0 ≤ z * (if decide ((10 : Int) ^ (18 : Int).toNat ≤ z) = true then 1 else 0)
  split
  · rename_i h
    have := of_decide_eq_true h
    have e : (10 : Int) ^ (18 : Int).toNat = 1000000000000000000 := by decide
    omega
  · omega

theorem ok_draw (T : TX w K mg) : Gt P w K mg base CX0 1 "_law_draw" ["_law_well_here", "_law_many"] spDraw := by
  refine gt_mk (D_draw T) (g_draw T) sc_draw rfl (fun _ _ _ _ _ _ us hl => match us, hl with | [_, _], _ => rfl) (fun vs H Q E h => ?_) (fun f cdv A outer s H vs Q E hr h => ?_)
  · obtain ⟨a, n, m, rfl, _⟩ := h
    rfl
  obtain ⟨a, n, m, rfl, ⟨x, y, c, ea, hx, hy, hy2, hc, hcn⟩, hn, hm, hm9, k⟩ := h
  refine ⟨_, (pss_cons (ps_if (pt_cmpR op_gt (pe_ix ix_list (pv 0) pe_int (fun _ _ => rfl)) pe_int (nomark _))
      (pss_cons (ps_set (i := 2) sc_draw.nd rfl (by first | exact Or.inl rfl | exact Or.inr rfl) (pe_op op_mod (pe_callTy call_int1 (by rfl) (f_int T) (by decide +kernel) (pa_cons (pe_ix ix_list (pv 0) pe_int (fun _ _ => rfl)) pa_nil)) (pv 1)))
    (pss_cons (ps_asg (pe_op op_fdivW (pe_ix ix_list (pv 0) pe_int (fun _ _ => rfl)) (pv 1)) (pg_sub (pv 0) pe_int set_list))
    (pss_one (ps_ret (pv 2)))))
      pss_nil)
    (pss_cons (ps_asg (pe_op op_add (pe_ix ix_list (pv 0) pe_int (fun _ _ => rfl)) pe_int) (pg_sub (pv 0) pe_int set_list))
    (pss_cons (ps_set (i := 3) sc_draw.nd rfl (by first | exact Or.inl rfl | exact Or.inr rfl) (pe_ix ix_list (pe_lst (pa_cons pe_int (pa_cons pe_int (pa_cons pe_int (pa_cons pe_int (pa_cons pe_int (pa_cons pe_int (pa_cons pe_int pa_nil)))))))) (pe_op op_mod (pe_callTy call_int1 (by rfl) (f_int T) (by decide +kernel) (pa_cons (pe_ix ix_list (pv 0) pe_int (fun _ _ => rfl)) pa_nil)) pe_int) (fun _ _ => rfl)))
    (pss_cons (ps_set (i := 4) sc_draw.nd rfl (by first | exact Or.inl rfl | exact Or.inr rfl) (pe_op op_mod (pe_callTy call_int1 (by rfl) (f_int T) (by decide +kernel) (pa_cons (pe_op op_pow (pe_op op_add (pe_op op_add (pe_ix ix_list (pv 0) pe_int (fun _ _ => rfl)) (pe_op op_mul pe_int (pe_ix ix_list (pv 0) pe_int (fun _ _ => rfl)))) pe_int) pe_int) pa_nil)) (pv 3)))
    (pss_cons (ps_set (i := 4) sc_draw.nd rfl (by first | exact Or.inl rfl | exact Or.inr rfl) (pe_op op_mod (pe_callTy call_int1 (by rfl) (f_int T) (by decide +kernel) (pa_cons (pe_op op_mul (pe_op op_add (pv 4) (pe_ix ix_list (pv 0) pe_int (fun _ _ => rfl))) (pe_op op_add (pe_op op_fdivW (pv 4) pe_int) pe_int)) pa_nil)) (pv 3)))
    (pss_one (ps_ret (pe_op op_mod (pe_callTy call_int1 (by rfl) (f_int T) (by decide +kernel) (pa_cons (pe_op op_fdivW (pv 4) pe_int) pa_nil)) (pv 1))))))))), ?_⟩
  refine ⟨_, rfl, a, _, _, _, rfl, rfl, SqL.of ea, atI_nat (j := 0) rfl, _, _, rfl, rfl, _, rfl, ?_⟩
  refine ite2 (fun h0 => ?_) (fun h0 => ?_)
  · refine ⟨_, rfl, a, _, _, _, rfl, rfl, SqL.of ea, atI_nat (j := 0) rfl, .inl ⟨_, rfl, _, rfl, _, _, rfl, rfl, hm, ?_⟩⟩
    refine ⟨_, rfl, a, _, _, _, rfl, rfl, SqL.of ea, atI_nat (j := 0) rfl, _, rfl, _, _, rfl, rfl, ⟨hm, hm9⟩, ?_⟩
    refine ⟨_, rfl, a, _, _, 0, rfl, rfl, ea, rfl, ?_⟩
    refine ⟨_, rfl, k _ _ (Int.emod_nonneg _ (by omega)) (Int.emod_lt_of_pos _ hm) ⟨⟨_, y, c, upd_same, Int.ediv_nonneg hx (by omega), hy, hy2, hc, by omega⟩, (Wk.refl a H).set⟩⟩
  · refine ⟨_, rfl, a, _, _, _, rfl, rfl, SqL.of ea, atI_nat (j := 2) rfl, _, _, rfl, rfl, ?_⟩
    refine ⟨_, rfl, a, _, _, 2, rfl, rfl, ea, rfl, ?_⟩
    refine ⟨(by show 7 ≤ sizeLine; decide), fun p hp => ?_⟩
    have npa : a ≠ p := ne_of_none upd_same hp
    have ea2 : (upd (upd H a (.lst [.int x, .int y, .int (c + 1)])) p (.lst [.int 2147483647, .int 2147483629, .int 2147483587, .int 2147483579, .int 2147483563, .int 2147483549, .int 2147483543])) a = some (.lst [.int x, .int y, .int (c + 1)]) := by
      rw [upd_ne npa, upd_same]
    have hpr : ∃ q : Int, atI [V.int 2147483647, .int 2147483629, .int 2147483587, .int 2147483579, .int 2147483563, .int 2147483549, .int 2147483543] ((c + 1) % 7) = some (.int q) ∧ 2147483543 ≤ q ∧ q ≤ 2147483647 := by
      have h7 : (c + 1) % 7 = 0 ∨ (c + 1) % 7 = 1 ∨ (c + 1) % 7 = 2 ∨ (c + 1) % 7 = 3 ∨ (c + 1) % 7 = 4 ∨ (c + 1) % 7 = 5 ∨ (c + 1) % 7 = 6 := by omega
      rcases h7 with e | e | e | e | e | e | e <;> rw [e] <;> exact ⟨_, rfl, by decide, by decide⟩
    obtain ⟨q, hq, q1, q2⟩ := hpr
    refine ⟨_, rfl, a, _, _, _, rfl, rfl, SqL.of ea2, atI_nat (j := 2) rfl, .inl ⟨_, rfl, _, _, rfl, rfl, (by show (0 : Int) < 7; decide), ?_⟩⟩
    refine ⟨p, _, _, _, rfl, rfl, SqL.of upd_same, hq, ?_⟩
    refine ⟨_, rfl, a, _, _, _, rfl, rfl, SqL.of ea2, atI_nat (j := 1) rfl, _, rfl, a, _, _, _, rfl, rfl, SqL.of ea2, atI_nat (j := 2) rfl, _, _, rfl, rfl, .inl ⟨by decide, by decide⟩, _, _, rfl, rfl, _, _, rfl, rfl, _, _, rfl, rfl, ⟨by decide, by decide, ?_⟩, .inl ⟨_, rfl, ?_⟩⟩
    · show (y + 7919 * (c + 1) + 1).natAbs < 2 ^ 64
      omega
    refine ⟨_, rfl, _, _, rfl, rfl, (by show (0 : Int) < q; omega), ?_⟩
    have hz1 := Int.emod_nonneg ((y + 7919 * (c + 1) + 1) ^ (5 : Int).toNat) (show q ≠ 0 by omega)
    have hz2 := Int.emod_lt_of_pos ((y + 7919 * (c + 1) + 1) ^ (5 : Int).toNat) (show 0 < q by omega)
    generalize hzz : (y + 7919 * (c + 1) + 1) ^ (5 : Int).toNat % q = z at hz1 hz2
    refine ⟨_, rfl, _, rfl, a, _, _, _, rfl, rfl, SqL.of ea2, atI_nat (j := 2) rfl, _, _, rfl, rfl, _, rfl, _, _, rfl, rfl, ⟨by decide, by decide +kernel⟩, _, _, rfl, rfl, _, _, rfl, rfl, .inl ?_, .inl ⟨_, rfl, ?_⟩⟩
    · show -(2 ^ 64) < _ + (c + 1) ∧ _ + (c + 1) < 2 ^ 64
      rw [hzz]
      omega
    refine ⟨_, rfl, _, _, rfl, rfl, (by show (0 : Int) < q; omega), ?_⟩
    refine ⟨_, rfl, _, _, rfl, rfl, ⟨by decide, by decide +kernel⟩, .inl ⟨_, rfl, _, rfl, _, _, rfl, rfl, hm, ?_⟩⟩
    exact k _ _ (Int.emod_nonneg _ (by omega)) (Int.emod_lt_of_pos _ hm) ⟨⟨x, y, c + 1, ea2, hx, hy, hy2, by omega, by omega⟩, ((Wk.refl a H).set).new hp⟩

theorem ok_one (T : TX w K mg) : Gt P w K mg base CX0 2 "_law_one" ["_law_well_here", "_law_some"] (spOne K) := by
  refine gt_mk (D_one T) (g_one T) sc_one rfl (fun _ _ _ _ _ _ us hl => match us, hl with | [_, _], _ => rfl) (fun vs H Q E h => ?_) (fun f cdv A outer s H vs Q E hr h => ?_)
  · obtain ⟨a, l, n, xs, rfl, _⟩ := h
    rfl
  obtain ⟨a, l, n, xs, rfl, wl, hn, hs, nla, h0, hz, k⟩ := h
  refine ⟨_, (pss_one (ps_ret (pe_ix ix_list (pv 1) ((ok_draw T).pe (hr.mono (by decide)) (pa_cons (pv 0) (pa_cons (pe_callB call_len_seq (by rfl) (f_len T) (by decide +kernel) (pa_cons (pv 1) pa_nil)) pa_nil))) (fun _ _ => rfl)))), ?_⟩
  refine ⟨_, rfl, _, rfl, _, rfl, l, xs, rfl, .inl hs, a, n, _, rfl, wl, hn, (by show (0 : Int) < (xs.length : Int); omega), ?_, fun d H' d0 d1 dn => ?_⟩
  · exact log2_small_of (show ((xs.length : Nat) : Int).natAbs < 2 ^ 64 by omega)
  have hd : d.toNat < xs.length := by
    have : d < (xs.length : Int) := d1
    omega
  have e : atI xs d = some xs[d.toNat] := at_of (j := d.toNat) (by omega) (by simp [hd])
  exact ⟨l, xs, d, _, rfl, rfl, dn.sql hs nla, e, k _ H' (List.getElem_mem hd) dn⟩

theorem ok_num60 (T : TX w K mg) : Gt P w K mg base CX0 3 "_law_number" ["_law_well_here", "_law_least"] spNum := by
  refine gt_mk (D_num60 T) (g_num60 T) sc_num60 rfl (fun _ _ _ _ _ _ us hl => match us, hl with | [_, _], _ => rfl) (fun vs H Q E h => ?_) (fun f cdv A outer s H vs Q E hr h => ?_)
  · obtain ⟨a, n, l, rfl, _⟩ := h
    rfl
  obtain ⟨a, n, l, rfl, wl, hn, k⟩ := h
  refine ⟨_, (pss_one (ps_ret (pe_op op_add (pv 1) ((ok_draw T).pe (hr.mono (by decide)) (pa_cons (pv 0) (pa_cons ((ok_one T).pe (hr.mono (by decide)) (pa_cons (pv 0) (pa_cons (pe_lst (pa_cons pe_int (pa_cons pe_int (pa_cons pe_int (pa_cons pe_int (pa_cons (pe_op op_pow pe_int pe_int) (pa_cons (pe_op op_pow pe_int pe_int) pa_nil))))))) pa_nil))) pa_nil)))))), ?_⟩
  refine ⟨_, rfl, _, rfl, _, rfl, _, _, rfl, rfl, ⟨by decide, by decide, by decide⟩, _, _, rfl, rfl, ⟨by decide, by decide, by decide⟩, (by show 6 ≤ sizeLine; decide), fun p hp => ?_⟩
  refine ⟨a, p, n, _, rfl, wl.new hp, by omega, SqL.of upd_same, wl.nep hp, (by show 0 < 6; decide), (by show 6 ≤ 1000000; decide), fun v H1 hv D1 => ?_⟩
  have hm : ∃ m : Int, v = .int m ∧ 0 < m ∧ m ≤ 10 ^ 59 := by
    simp only [List.mem_cons, List.not_mem_nil, or_false] at hv
    rcases hv with rfl | rfl | rfl | rfl | rfl | rfl
    · exact ⟨_, rfl, by decide, by decide⟩
    · exact ⟨_, rfl, by decide, by decide⟩
    · exact ⟨_, rfl, by decide, by decide⟩
    · exact ⟨_, rfl, by decide, by decide⟩
    · exact ⟨_, rfl, by decide, by decide⟩
    · exact ⟨_, rfl, by decide, by decide⟩
  obtain ⟨m, rfl, m1, m2⟩ := hm
  refine ⟨a, n + 1, m, rfl, D1.wl, by omega, m1, ?_, fun d H2 d0 dm D2 => ⟨_, _, rfl, rfl, k d H2 d0 (by omega) ⟨D2.wl, ((Wk.refl a H).new hp).trans (D1.k.trans D2.k)⟩⟩⟩
  exact Nat.lt_of_lt_of_le ((Nat.log2_lt (by omega)).mpr (show m.natAbs < 2 ^ 200 by omega)) (by decide)

end
end Lw

namespace Lw
open PySem PySem.Spec PyProof.Rows L2 TP
section
variable {P : Program} {w : World} {K : PySem.W.Frag} {mg : Str → Option Value} {base : Heap}

end
abbrev Rw : PySem.W.OpenRow := PySem.W.OpenLaw.row PySem.Challenge.rw_trailpost_k05_whole_fees_grow_by_parts
def loose0 : List Str := ["PostError", "NoRule", "is_whole", "is_from", "LEASTS", "Rule", "_law_well", "_law_draw", "_law_one", "_law_number", "_law_parts", "_law_steps_right"]
def loose : List Str := loose0
abbrev hk : PySem.W.Hook := hookM 6 fa fn ts ex
def ob (s : PySem.W.SharedT) : AlM := obsM 6 fa fn ts ex (HandSHeadRun.getT s)
theorem ob_eq (s : PySem.W.SharedT) : ob s = hk.obs s.abs := obsM_eq (HandSHeadRun.getT_eq s)
theorem run0 (b : Bool) (w : World) : HandSHeadRun.RunEq Rw (PySem.W.view Rw.prog [16]) hk ob 6000 loose (w.withFollow "special-get-raises" b) := by
  cases b <;> (intro os; kernel_rfl)
theorem run (w : World) : HandSHeadRun.RunEq Rw (PySem.W.view Rw.prog [16]) hk ob 6000 loose w := by
  have h := run0 (w.params.followText "special-get-raises") w
  rwa [World.withFollow_self] at h
end Lw

namespace Lw
open PySem PySem.Spec PyProof.Rows L2 TP
section
variable {P : Program} {w : World} {K : PySem.W.Frag} {mg : Str → Option Value} {base : Heap}

theorem body_law (T : TX w K mg) (base : Heap) : BodyOkG P w K mg base 6 ["_law_script", "_law_cell", "_law_well_here", "_law_ground", "_law_each", "_law_toll", "_law_care", "_law_k", "_law_stride", "_law_rule", "_law_later", "_law_other", "_law_by", "_law_great", "_law_heavy_one", "_law_far", "_law_cared", "_law_due", "_law_parts_here", "_law_part"] d_law (spLaw K) := by
  intro f cdv A outer s H vs Q E hg hr h
  obtain ⟨a, ns, rfl, hS, h63, hbits, k⟩ := h
  refine ⟨_, (pss_cons (ps_for PassesOwn.never rfl (pi_list (pe_op op_cat (pe_slice sl_list (pv 0) po_none (po_some pe_int)) (pe_lst (pa_cons pe_int (pa_cons pe_int pa_nil))))) (pg_name (i := 1) sc_law.nd rfl (by first | exact Or.inl rfl | exact Or.inr rfl))
      (pss_cons (ps_set (i := 2) sc_law.nd rfl (by first | exact Or.inl rfl | exact Or.inr rfl) ((ok_well T).pe (hr.mono (by decide)) (pa_cons (pv 1) pa_nil)))
    (pss_cons (ps_asg (pe_lc (own := [("_law_k", 7)]) (g := gName 7) (tt := tYes) rfl sc_law.nd (pi_range1 (by rfl) (f_range T) (pa_cons pe_int pa_nil)) (blkOk_by (N := ["_law_script", "_law_cell", "_law_well_here", "_law_ground", "_law_each", "_law_toll", "_law_care", "_law_k", "_law_stride", "_law_rule", "_law_later", "_law_other", "_law_by", "_law_great", "_law_heavy_one", "_law_far", "_law_cared", "_law_due", "_law_parts_here", "_law_part"]) (sc := defScope s_law) (by decide +kernel)) (fun _ _ _ _ _ => (pg_name (i := 7) sc_law.nd rfl (by first | exact Or.inl rfl | exact Or.inr rfl))) (fun _ _ _ _ _ => pts_nil) (fun _ _ _ _ _ => ((ok_num60 T).pe (hr.mono (by decide)) (pa_cons (pv 2) (pa_cons pe_int pa_nil))))) (pg_unl (by rfl) (pgs_cons (pg_name (i := 3) sc_law.nd rfl (by first | exact Or.inl rfl | exact Or.inr rfl)) (pgs_cons (pg_name (i := 4) sc_law.nd rfl (by first | exact Or.inl rfl | exact Or.inr rfl)) (pgs_cons (pg_name (i := 5) sc_law.nd rfl (by first | exact Or.inl rfl | exact Or.inr rfl)) (pgs_cons (pg_name (i := 6) sc_law.nd rfl (by first | exact Or.inl rfl | exact Or.inr rfl)) pgs_nil))))))
    (pss_cons (ps_set (i := 8) sc_law.nd rfl (by first | exact Or.inl rfl | exact Or.inr rfl) ((ok_one T).pe (hr.mono (by decide)) (pa_cons (pv 2) (pa_cons (pe_lst (pa_cons (pe_op op_add pe_int ((ok_draw T).pe (hr.mono (by decide)) (pa_cons (pv 2) (pa_cons pe_int pa_nil)))) (pa_cons ((ok_num60 T).pe (hr.mono (by decide)) (pa_cons (pv 2) (pa_cons pe_int pa_nil))) pa_nil))) pa_nil))))
    (pss_cons (ps_set (i := 9) sc_law.nd rfl (by first | exact Or.inl rfl | exact Or.inr rfl) (GtF.makeK0 (ok_Rule_init T) kb_Rule_init_1_base_step_more_leg_kept (mk_Rule T) (g_Rule T) (hr.mono (by decide)) pass0 (pk_cons (pv 3) (pk_cons (pv 8) (pk_cons (pv 4) (pk_cons (pv 5) (pk_cons (pv 6) pk_nil)))))))
    (pss_cons (ps_set (i := 10) sc_law.nd rfl (by first | exact Or.inl rfl | exact Or.inr rfl) ((ok_num60 T).pe (hr.mono (by decide)) (pa_cons (pv 2) (pa_cons pe_int pa_nil))))
    (pss_cons (ps_set (i := 11) sc_law.nd rfl (by first | exact Or.inl rfl | exact Or.inr rfl) (GtF.makeK0 (ok_Rule_init T) kb_Rule_init_1_since_back_base_step_more_leg_kept (mk_Rule T) (g_Rule T) (hr.mono (by decide)) pass0 (pk_cons (pv 10) (pk_cons (pe_op op_add (pv 10) pe_int) (pk_cons (pv 3) (pk_cons (pv 8) (pk_cons (pv 4) (pk_cons (pv 5) (pk_cons (pv 6) pk_nil)))))))))
    (pss_cons (ps_set (i := 12) sc_law.nd rfl (by first | exact Or.inl rfl | exact Or.inr rfl) (pe_op op_add pe_int ((ok_draw T).pe (hr.mono (by decide)) (pa_cons (pv 2) (pa_cons pe_int pa_nil)))))
    (pss_cons (ps_set (i := 13) sc_law.nd rfl (by first | exact Or.inl rfl | exact Or.inr rfl) (GtF.makeK0 (ok_Rule_init T) kb_Rule_init_1_base_step_more_leg_kept (mk_Rule T) (g_Rule T) (hr.mono (by decide)) pass0 (pk_cons (pe_op op_mul (pv 3) (pv 12)) (pk_cons (pv 8) (pk_cons (pe_op op_mul (pv 4) (pv 12)) (pk_cons (pe_op op_mul (pv 5) (pv 12)) (pk_cons (pe_op op_mul (pv 6) (pv 12)) pk_nil)))))))
    (pss_cons (ps_set (i := 14) sc_law.nd rfl (by first | exact Or.inl rfl | exact Or.inr rfl) (pe_op op_add pe_int ((ok_draw T).pe (hr.mono (by decide)) (pa_cons (pv 2) (pa_cons pe_int pa_nil)))))
    (pss_cons (ps_set (i := 15) sc_law.nd rfl (by first | exact Or.inl rfl | exact Or.inr rfl) ((ok_draw T).pe (hr.mono (by decide)) (pa_cons (pv 2) (pa_cons pe_int pa_nil))))
    (pss_cons (ps_for PassesOwn.never rfl (pi_list (pe_lst (pa_cons pe_bl (pa_cons pe_bl pa_nil)))) (pg_name (i := 16) sc_law.nd rfl (by first | exact Or.inl rfl | exact Or.inr rfl))
      (pss_cons (ps_set (i := 17) sc_law.nd rfl (by first | exact Or.inl rfl | exact Or.inr rfl) (GtF.methK (ok_Rule_fee T) kb_Rule_fee_1_weight_legs_kept (cl_Rule T) (m_Rule_fee T) (hr.mono (by decide)) pass0 (pv 9) (pk_cons (pv 14) (pk_cons (pv 15) (pk_cons (pv 16) pk_nil)))))
    (pss_cons (ps_set (i := 18) sc_law.nd rfl (by first | exact Or.inl rfl | exact Or.inr rfl) ((ok_law_parts T).pe (hr.mono (by decide)) (pa_cons (pv 3) (pa_cons (pv 8) (pa_cons (pv 4) (pa_cons (pv 5) (pa_cons (pv 6) pa_nil)))))))
    (pss_cons (ps_if (pt_cmpR op_ne (pe_callB (cr_sum rfl) (by rfl) (f_sum T) (by decide +kernel) (pa_cons (pe_lc (own := [("_law_part", 19)]) (g := gName 19) (tt := tYes) rfl sc_law.nd (pi_list (pv 18)) (blkOk_by (N := ["_law_script", "_law_cell", "_law_well_here", "_law_ground", "_law_each", "_law_toll", "_law_care", "_law_k", "_law_stride", "_law_rule", "_law_later", "_law_other", "_law_by", "_law_great", "_law_heavy_one", "_law_far", "_law_cared", "_law_due", "_law_parts_here", "_law_part"]) (sc := defScope s_law) (by decide +kernel)) (fun _ _ _ _ _ => (pg_name (i := 19) sc_law.nd rfl (by first | exact Or.inl rfl | exact Or.inr rfl))) (fun _ _ _ _ _ => pts_nil) (fun _ _ _ _ _ => (GtF.methKL K (ok_Rule_fee T) kb_Rule_fee_1_weight_legs_kept (cl_Rule T) (m_Rule_fee T) (hr.mono (by decide)) pass0 (pv 19) (pk_cons (pv 14) (pk_cons (pv 15) (pk_cons (pv 16) pk_nil)))))) pa_nil)) (pv 17) (nomark _))
      (pss_one (ps_ret pe_bl))
      pss_nil)
    (pss_cons (ps_if (pt_cmpR op_ne (GtF.methK (ok_Rule_fee T) kb_Rule_fee_1_weight_legs_kept (cl_Rule T) (m_Rule_fee T) (hr.mono (by decide)) pass0 (pv 11) (pk_cons (pv 14) (pk_cons (pv 15) (pk_cons (pv 16) pk_nil)))) (pv 17) (nomark _))
      (pss_one (ps_ret pe_bl))
      pss_nil)
    (pss_cons (ps_if (pt_cmpR op_ne (GtF.methK (ok_Rule_fee T) kb_Rule_fee_1_weight_legs_kept (cl_Rule T) (m_Rule_fee T) (hr.mono (by decide)) pass0 (pv 13) (pk_cons (pv 14) (pk_cons (pv 15) (pk_cons (pv 16) pk_nil)))) (pe_op op_mul (pv 17) (pv 12)) (nomark _))
      (pss_one (ps_ret pe_bl))
      pss_nil)
    (pss_one (ps_if (pt_not (pt_val ((ok_law_steps_right T).pe (hr.mono (by decide)) (pa_cons (pv 9) (pa_cons (pv 8) (pa_cons (pv 4) (pa_cons (pv 5) (pa_cons (pv 14) (pa_cons (pv 15) (pa_cons (pv 16) pa_nil))))))))))
      (pss_one (ps_ret pe_bl))
      pss_nil))))))))
    (pss_one (ps_if (pt_cmpR op_ne (GtF.methK (ok_Rule_fee T) kb_Rule_fee_1_weight_legs_kept (cl_Rule T) (m_Rule_fee T) (hr.mono (by decide)) pass0 (pv 9) (pk_cons (pv 14) (pk_cons (pv 15) (pk_cons pe_bl pk_nil)))) (pe_op op_add (GtF.methK (ok_Rule_fee T) kb_Rule_fee_1_weight_legs (cl_Rule T) (m_Rule_fee T) (hr.mono (by decide)) pass0 (pv 9) (pk_cons (pv 14) (pk_cons (pv 15) pk_nil))) (pv 6)) (nomark _))
      (pss_one (ps_ret pe_bl))
      pss_nil))))))))))))))
    (pss_one (ps_ret pe_bl))), ?_⟩
  refine ⟨_, rfl, _, rfl, a, _, rfl, hS, fun l1 hl1 => ⟨(by show 2 ≤ sizeLine; decide), fun l2 hl2 => ?_⟩⟩
  have n12 : l1 ≠ l2 := ne_of_none upd_same hl2
  refine ⟨l1, l2, _, _, rfl, rfl, Eq.trans (upd_ne n12) upd_same, upd_same, cells_len h63, fun l hl => ?_⟩
  refine ⟨l, rfl, ⟨_, SqL.of upd_same⟩, for_list (K := K) (a := l) (xs := cutV (ns.map V.int) none (some 10) ++ [.int 0, .int 1])
    (fun i σ H' => (∃ v1 v2 v3 v4 v5 v6 v7 v8 v9 v10 v11 v12 v13 v14 v15 v16 v17 v18 v19 : Option V, σ = [some (.ref a), v1, v2, v3, v4, v5, v6, v7, v8, v9, v10, v11, v12, v13, v14, v15, v16, v17, v18, v19]) ∧ H' l = some (.lst (cutV (ns.map V.int) none (some 10) ++ [.int 0, .int 1])))
    ⟨⟨_, _, _, _, _, _, _, _, _, _, _, _, _, _, _, _, _, _, _, rfl⟩, upd_same⟩ (fun i σ H' _ q => SqL.of q.2) ?_ ?_⟩
  rotate_left
  · rintro σ H' ⟨⟨v1, v2, v3, v4, v5, v6, v7, v8, v9, v10, v11, v12, v13, v14, v15, v16, v17, v18, v19, rfl⟩, hl'⟩
    exact k H'
  rintro i x σ H0 hx ⟨⟨v1, v2, v3, v4, v5, v6, v7, v8, v9, v10, v11, v12, v13, v14, v15, v16, v17, v18, v19, rfl⟩, hl0⟩
  obtain ⟨cell, rfl⟩ := cells_int hx
  refine ⟨_, rfl, cell, rfl, fun w1 H1 hw1 W1 e1 => ?_⟩
  have nl : l ≠ w1 := ne_of_none hl0 hw1
  -- four numbers
  refine ⟨_, rfl, by decide, by decide, fun D hD => lc_dn (walk_range (lo := 0) (n := 4)) 0 2 (fun v => ∃ d : Int, v = .int d ∧ 0 ≤ d ∧ d < 10 ^ 59) W1 hD (by decide) (fun _ _ _ => trivial) (fun i v H2 H3 C N hi d2 y hc => ?_) (fun H2 acc D2 hacc hlen hP => ?_)⟩
  · obtain ⟨rfl, rfl⟩ := y
    refine ⟨rfl, yes_ok ?_⟩
    exact ⟨_, rfl, w1, _, 0, rfl, d2.wl, by omega, fun d H4 d0 d1 D4 => hc _ H4 ⟨0 + d, rfl, by omega, by omega⟩ (D4.mono (by omega))⟩
  match acc, hlen with
  | [y1, y2, y3, y4], _ => ?_
  obtain ⟨g, rfl, g0, g1⟩ := hP y1 (by simp)
  obtain ⟨ea, rfl, ea0, ea1⟩ := hP y2 (by simp)
  obtain ⟨to, rfl, to0, to1⟩ := hP y3 (by simp)
  obtain ⟨ca, rfl, ca0, ca1⟩ := hP y4 (by simp)
  refine ⟨D, _, rfl, SqL.of hacc, rfl, _, _, rfl, _, _, rfl, _, _, rfl, _, _, rfl, rfl, ?_⟩
  first | refine nrmG (σ' := [_, _, _, _, _, _, _, _, _, _, _, _, _, _, _, _, _, _, _, _]) rfl ?_ | refine nrm (σ' := [_, _, _, _, _, _, _, _, _, _, _, _, _, _, _, _, _, _, _, _]) rfl ?_
  -- the step
  refine ⟨_, rfl, _, rfl, w1, 8, 12, rfl, D2.wl, by omega, by decide, by decide +kernel, fun d3 H3 d30 d31 D3 => ?_⟩
  refine ⟨_, _, rfl, rfl, _, rfl, w1, 9, 1, rfl, D3.wl, by omega, fun d4 H4 d40 d41 D4 => ?_⟩
  refine ⟨(by show 2 ≤ sizeLine; decide), fun p hp => ⟨w1, p, 11, _, rfl, D4.wl.new hp, by omega, SqL.of upd_same, D4.wl.nep hp, (by show 0 < 2; decide), (by show 2 ≤ 1000000; decide), fun v H5 hv D5 => ?_⟩⟩
  obtain ⟨st, rfl, st1, st2⟩ : ∃ st : Int, v = .int st ∧ 1 ≤ st ∧ st < 10 ^ 60 := by
    simp only [List.mem_cons, List.not_mem_nil, or_false] at hv
    rcases hv with rfl | rfl
    · exact ⟨_, rfl, by omega, by omega⟩
    · exact ⟨_, rfl, by omega, by omega⟩
  have hl5 : H5 l = some (.lst (cutV (ns.map V.int) none (some 10) ++ [.int 0, .int 1])) := by
    have q := D4.k _ _ nl (D3.k _ _ nl (D2.k _ _ nl (e1 _ _ hl0)))
    refine D5.k _ _ nl ?_
    rw [upd_ne (ne_of_none q hp)]
    exact q
  first | refine nrmG (σ' := [_, _, _, _, _, _, _, _, _, _, _, _, _, _, _, _, _, _, _, _]) rfl ?_ | refine nrm (σ' := [_, _, _, _, _, _, _, _, _, _, _, _, _, _, _, _, _, _, _, _]) rfl ?_
  -- the rules
  let r : RN := ⟨0, g, st, ea, to, ca, 0⟩
  have rok : r.ok := ⟨Int.le_refl 0, g0, st1, ea0, to0, ca0, Int.le_refl 0⟩
  refine ⟨_, rfl, _, rfl, _, rfl, _, rfl, _, rfl, rfl, rfl, fun x dx hx5 hdx5 ndx => ⟨x, dx, r, rfl, upd_same, rok, fun H6 wk6 hx6 => ⟨rfl, ?_⟩⟩⟩
  have e6 := made_ex hx5 hdx5 wk6
  have W6 := D5.wl.ex e6
  have nx : x ≠ w1 := D5.wl.nep hx5
  first | refine nrmG (σ' := [_, _, _, _, _, _, _, _, _, _, _, _, _, _, _, _, _, _, _, _]) rfl ?_ | refine nrm (σ' := [_, _, _, _, _, _, _, _, _, _, _, _, _, _, _, _, _, _, _, _]) rfl ?_
  refine ⟨_, rfl, w1, 12, 0, rfl, W6, by omega, fun d7 H7 d70 d71 D7 => ?_⟩
  first | refine nrmG (σ' := [_, _, _, _, _, _, _, _, _, _, _, _, _, _, _, _, _, _, _, _]) rfl ?_ | refine nrm (σ' := [_, _, _, _, _, _, _, _, _, _, _, _, _, _, _, _, _, _, _, _]) rfl ?_
  let r2 : RN := ⟨0 + d7, g, st, ea, to, ca, 0 + d7 + 1⟩
  have rok2 : r2.ok := ⟨by show 0 ≤ 0 + d7; omega, g0, st1, ea0, to0, ca0, by show 0 ≤ 0 + d7 + 1; omega⟩
  refine ⟨_, rfl, _, rfl, _, _, rfl, rfl, _, rfl, _, rfl, _, rfl, _, rfl, _, rfl, rfl, rfl, fun x2 dx2 hx7 hdx7 ndx2 => ⟨x2, dx2, r2, rfl, upd_same, rok2, fun H8 wk8 hx8 => ⟨rfl, ?_⟩⟩⟩
  have e8 := made_ex hx7 hdx7 wk8
  have W8 := D7.wl.ex e8
  have nx2 : x2 ≠ w1 := D7.wl.nep hx7
  first | refine nrmG (σ' := [_, _, _, _, _, _, _, _, _, _, _, _, _, _, _, _, _, _, _, _]) rfl ?_ | refine nrm (σ' := [_, _, _, _, _, _, _, _, _, _, _, _, _, _, _, _, _, _, _, _]) rfl ?_
  refine ⟨_, rfl, w1, 14, 8, rfl, W8, by omega, by decide, by decide +kernel, fun db H9 db0 db1 D9 => ⟨_, _, rfl, rfl, ?_⟩⟩
  first | refine nrmG (σ' := [_, _, _, _, _, _, _, _, _, _, _, _, _, _, _, _, _, _, _, _]) rfl ?_ | refine nrm (σ' := [_, _, _, _, _, _, _, _, _, _, _, _, _, _, _, _, _, _, _, _]) rfl ?_
  have cm : ∀ i : Int, CMul i (2 + db) := fun i => .inr ⟨by omega, by omega⟩
  have bd : ∀ i : Int, 0 ≤ i → i < 10 ^ 59 → 0 ≤ i * (2 + db) ∧ i * (2 + db) < 10 ^ 61 := fun i h0 h1 => by
    refine ⟨Int.mul_nonneg h0 (by omega), ?_⟩
    have : i * (2 + db) ≤ 10 ^ 59 * 10 := Int.mul_le_mul (by omega) (by omega) (by omega) (by decide)
    omega
  let r3 : RN := ⟨0, g * (2 + db), st, ea * (2 + db), to * (2 + db), ca * (2 + db), 0⟩
  have rok3 : r3.ok := ⟨Int.le_refl 0, (bd g g0 g1).1, st1, (bd ea ea0 ea1).1, (bd to to0 to1).1, (bd ca ca0 ca1).1, Int.le_refl 0⟩
  refine ⟨_, rfl, _, rfl, _, _, rfl, rfl, cm g, _, rfl, _, rfl, _, rfl, _, _, rfl, rfl, cm ea, _, rfl, _, rfl, _, _, rfl, rfl, cm to, _, rfl, _, rfl, _, _, rfl, rfl, cm ca, rfl, rfl, fun x3 dx3 hx9 hdx9 ndx3 => ⟨x3, dx3, r3, rfl, upd_same, rok3, fun HA wkA hxA => ⟨rfl, ?_⟩⟩⟩
  have eA := made_ex hx9 hdx9 wkA
  have WA := D9.wl.ex eA
  have nx3 : x3 ≠ w1 := D9.wl.nep hx9
  first | refine nrmG (σ' := [_, _, _, _, _, _, _, _, _, _, _, _, _, _, _, _, _, _, _, _]) rfl ?_ | refine nrm (σ' := [_, _, _, _, _, _, _, _, _, _, _, _, _, _, _, _, _, _, _, _]) rfl ?_
  refine ⟨_, rfl, w1, 15, 99, rfl, WA, by omega, by decide, by decide +kernel, fun d8 HB d80 d81 DB => ⟨_, _, rfl, rfl, ?_⟩⟩
  first | refine nrmG (σ' := [_, _, _, _, _, _, _, _, _, _, _, _, _, _, _, _, _, _, _, _]) rfl ?_ | refine nrm (σ' := [_, _, _, _, _, _, _, _, _, _, _, _, _, _, _, _, _, _, _, _]) rfl ?_
  refine ⟨_, rfl, w1, 16, 7, rfl, DB.wl, by omega, by decide, by decide +kernel, fun d9 HC d90 d91 DC => ?_⟩
  first | refine nrmG (σ' := [_, _, _, _, _, _, _, _, _, _, _, _, _, _, _, _, _, _, _, _]) rfl ?_ | refine nrm (σ' := [_, _, _, _, _, _, _, _, _, _, _, _, _, _, _, _, _, _, _, _]) rfl ?_
  have WC : Wk w1 HA HC := DB.k.trans DC.k
  have hc3 : HC x3 = some (.ins (He.ga K "Rule") dx3 r3.fs) := WC _ _ nx3 hxA
  have W9 : Wk w1 H8 HC := D9.k.trans (fun b o nb h => WC b o nb (eA b o h))
  have hc2 : HC x2 = some (.ins (He.ga K "Rule") dx2 r2.fs) := W9 _ _ nx2 hx8
  have W7 : Wk w1 H6 HC := D7.k.trans (fun b o nb h => W9 b o nb (e8 b o h))
  have hc1 : HC x = some (.ins (He.ga K "Rule") dx r.fs) := W7 _ _ nx hx6
  have hlC := W7 _ _ nl (e6 _ _ hl5)
  clear W9 W7 WC hx5 hdx5 wk6 hx6 e6 W6 hx7 hdx7 wk8 hx8 e8 W8 hx9 hdx9 wkA hxA eA WA D2 D3 D4 D5 D7 D9 DB DC W1 e1 hl5 hacc hp hD hP
  have b1 : st < 2 ^ 600 := lt600 (by omega)
  have b2 : ea < 2 ^ 600 := lt600 (by omega)
  have b3 : to < 2 ^ 600 := lt600 (by omega)
  have b2' := lt600 (bd ea ea0 ea1).2
  have b3' := lt600 (bd to to0 to1).2
  refine ⟨(by show 2 ≤ sizeLine; decide), fun lb hlb => ?_⟩
  generalize hH_ : upd HC lb _ = HZ
  have eZ : Evl.Ex HC HZ := (by rw [← hH_]; exact Evl.Ex.new hlb)
  have fZ := (congrFun hH_ lb).symm
  rw [upd_same] at fZ
  clear hH_
  refine ⟨lb, rfl, ⟨_, SqL.of fZ⟩, for_list (K := K) (a := lb) (xs := [.bl false, .bl true]) (fun j σ H' => (∃ u7 u16 u17 u18 u19 : Option V, σ = [some (.ref a), some (.int cell), some (.ref w1), some (.int g), some (.int ea), some (.int to), some (.int ca), u7, some (.int st), some (.ref x), some (.int (0 + d7)), some (.ref x2), some (.int (2 + db)), some (.ref x3), some (.int (1 + d8)), some (.int d9), u16, u17, u18, u19]) ∧ Evl.Ex HZ H') ⟨⟨_, _, _, _, _, rfl⟩, Evl.Ex.refl _⟩ (fun j σ H' _ q => SqL.of (q.2 _ _ fZ)) ?_ ?_⟩
  · rintro j y σ HD hy ⟨⟨u7, u16, u17, u18, u19, rfl⟩, eD⟩
    obtain ⟨c, rfl⟩ : ∃ c, y = .bl c := by
      have h := List.mem_of_getElem? hy
      simp only [List.mem_cons, List.not_mem_nil, or_false] at h
      rcases h with rfl | rfl <;> exact ⟨_, rfl⟩
    have eE := eZ.trans eD
    have ha1 := eE _ _ hc1
    have ha2 := eE _ _ hc2
    have ha3 := eE _ _ hc3
    refine ⟨_, rfl, x, dx, _, rfl, ha1, rfl, _, rfl, _, rfl, _, rfl, rfl, x, r, 1 + d8, d9, c, rfl, ⟨dx, ha1⟩, rok, b1, b2, b3, (by omega), lt600 (by omega), ⟨d90, lt600 (by omega)⟩, ?_⟩
    first | refine nrmG (σ' := [_, _, _, _, _, _, _, _, _, _, _, _, _, _, _, _, _, _, _, _]) rfl ?_ | refine nrm (σ' := [_, _, _, _, _, _, _, _, _, _, _, _, _, _, _, _, _, _, _, _]) rfl ?_
    refine ⟨_, rfl, _, rfl, _, rfl, _, rfl, _, rfl, g, st, ea, to, ca, rfl, g0, st1, ea0, to0, ca0, fun l5 a1 a2 a3 a4 HE eF f5 q1 q2 q3 q4 => ?_⟩
    first | refine nrmG (σ' := [_, _, _, _, _, _, _, _, _, _, _, _, _, _, _, _, _, _, _, _]) rfl ?_ | refine nrm (σ' := [_, _, _, _, _, _, _, _, _, _, _, _, _, _, _, _, _, _, _, _]) rfl ?_
    let ps : List (Addr × RN) := [(a1, R1 g st), (a2, R2' st ea), (a3, R3 st to), (a4, R4 st ca)]
    have PS : ∀ q ∈ ps, Ru K HE q.1 q.2 ∧ q.2.ok ∧ q.2.st < 2 ^ 600 ∧ q.2.m < 2 ^ 600 ∧ q.2.l < 2 ^ 600 := by
      have z600 : (0 : Int) < 2 ^ 600 := bd0.2
      intro q hq
      simp only [ps, List.mem_cons, List.not_mem_nil, or_false] at hq
      rcases hq with rfl | rfl | rfl | rfl
      · exact ⟨q1, ⟨zz, g0, st1, zz, zz, zz, zz⟩, b1, z600, z600⟩
      · exact ⟨q2, ⟨zz, zz, st1, ea0, zz, zz, zz⟩, b1, b2, z600⟩
      · exact ⟨q3, ⟨zz, zz, st1, zz, to0, zz, zz⟩, b1, z600, b3⟩
      · exact ⟨q4, ⟨zz, zz, st1, zz, zz, ca0, zz⟩, b1, z600, z600⟩
    let F : Nat → V := fun i => .int ((ps.getD i (a1, R1 g st)).2.fee (1 + d8) d9 c)
    have f5' : HE l5 = some (.lst (ps.map fun q => V.ref q.1)) := f5
    refine ⟨_, rfl, l5, rfl, ⟨_, SqL.of f5'⟩, fun D2 hD2 => lc_fm (walk_list (K := K) (a := l5) (xs := ps.map fun q => V.ref q.1)) (fun _ => true) F hD2 (by show 4 < 1000000; decide) (fun H' he => SqL.of (he _ _ f5')) (fun i v H2 H3 C N hi he hy hc _ => ?_) (fun HF he hD2' => ?_)⟩
    · obtain ⟨rfl, hv⟩ := hy
      obtain ⟨q, hq, rfl⟩ : ∃ q, ps[i]? = some q ∧ v = V.ref q.1 := by
        rw [List.getElem?_map] at hv
        cases e : ps[i]? with
        | none =>
          rw [e] at hv
          cases hv
        | some q =>
          rw [e] at hv
          exact ⟨q, rfl, (Option.some.inj hv).symm⟩
      obtain ⟨⟨dq, hdq⟩, r2, r3, r4, r5⟩ := PS q (List.mem_of_getElem? hq)
      have hdq' := he _ _ hdq
      refine ⟨rfl, yes_ok ?_⟩
      refine ⟨_, rfl, q.1, dq, _, rfl, hdq', rfl, _, rfl, _, rfl, _, rfl, rfl, q.1, q.2, 1 + d8, d9, c, rfl, ⟨dq, hdq'⟩, r2, r3, r4, r5, (by omega), lt600 (by omega), ⟨d90, lt600 (by omega)⟩, ?_⟩
      have hF : F i = .int (q.2.fee (1 + d8) d9 c) := by
        show V.int _ = _
        rw [List.getD_eq_getElem?_getD, hq]
        rfl
      have := hc rfl _ (Evl.Ex.refl _)
      rw [hF] at this
      exact this
    have sm : [(R1 g st).fee (1 + d8) d9 c, (R2' st ea).fee (1 + d8) d9 c, (R3 st to).fee (1 + d8) d9 c, (R4 st ca).fee (1 + d8) d9 c].sum = r.fee (1 + d8) d9 c := fee_parts r (1 + d8) d9 c
    refine ⟨D2, [(R1 g st).fee (1 + d8) d9 c, (R2' st ea).fee (1 + d8) d9 c, (R3 st to).fee (1 + d8) d9 c, (R4 st ca).fee (1 + d8) d9 c], rfl, SqL.of hD2', _, rfl, rfl, _, rfl, iteNS (by rw [sm]) ?_⟩
    have eG := eF.trans he
    have hb1 := eG _ _ ha1
    have hb2 := eG _ _ ha2
    have hb3 := eG _ _ ha3
    refine ⟨_, rfl, x2, dx2, _, rfl, hb2, rfl, _, rfl, _, rfl, _, rfl, rfl, x2, r2, 1 + d8, d9, c, rfl, ⟨dx2, hb2⟩, rok2, b1, b2, b3, (by omega), lt600 (by omega), ⟨d90, lt600 (by omega)⟩, _, rfl, rfl, _, rfl, iteNS rfl ?_⟩
    refine ⟨_, rfl, x3, dx3, _, rfl, hb3, rfl, _, rfl, _, rfl, _, rfl, rfl, x3, r3, 1 + d8, d9, c, rfl, ⟨dx3, hb3⟩, rok3, b1, b2', b3', (by omega), lt600 (by omega), ⟨d90, lt600 (by omega)⟩, _, rfl, _, rfl, _, _, rfl, rfl, cm _, rfl, _, rfl, iteNS (congrArg V.int (fee_by (r := r) (2 + db) (1 + d8) d9 c 0 0)) ?_⟩
    refine ⟨_, rfl, _, rfl, _, rfl, _, rfl, _, rfl, _, rfl, _, rfl, x, r, 1 + d8, d9, c, rfl, ⟨dx, hb1⟩, rok, b1, b2, b3, by omega, by omega, d90, by omega, fun HG eH => ⟨_, rfl, iteF ?_⟩⟩
    exact ⟨⟨_, _, _, _, _, rfl⟩, eD.trans (eG.trans eH)⟩
  · rintro σ HD ⟨⟨u7, u16, u17, u18, u19, rfl⟩, eD⟩
    have eE := eZ.trans eD
    have ha1 := eE _ _ hc1
    refine ⟨_, rfl, x, dx, _, rfl, ha1, rfl, _, rfl, _, rfl, rfl, x, r, 1 + d8, d9, true, rfl, ⟨dx, ha1⟩, rok, b1, b2, b3, (by omega), lt600 (by omega), ⟨d90, lt600 (by omega)⟩, _, rfl, x, dx, _, rfl, ha1, rfl, _, rfl, _, rfl, rfl, x, r, 1 + d8, d9, false, rfl, ⟨dx, ha1⟩, rok, b1, b2, b3, (by omega), lt600 (by omega), ⟨d90, lt600 (by omega)⟩, _, rfl, _, _, rfl, rfl, rfl, _, rfl, iteNS (by rw [fee_kept]) ?_⟩
    exact ⟨⟨_, _, _, _, _, _, _, _, _, _, _, _, _, _, _, _, _, _, _, rfl⟩, eE _ _ hlC⟩
end
theorem law_ok (w : World) (mg : Str → Option Value) (K : PySem.W.Frag) (T : TX w K mg) : ∃ fd : FuncData, mg "law" = some (.ref (He.ga K "law")) ∧ (∀ (s : Shared) (u : Value), BindsTo s fd ⟨[u], []⟩ [("_law_script", u)]) ∧
    ∀ base : Heap, FnG PySem.Challenge.pw_trailpost_k05_whole_fees_grow_by_parts w K mg base CX0 (6 + 1) (He.ga K "law") fd ["_law_script"] (spLaw K) := by
  obtain ⟨fd, hb, hF⟩ := law_fd (P := PySem.Challenge.pw_trailpost_k05_whole_fees_grow_by_parts) (w := w) (mg := mg) (sp := spLaw K) (x := "_law_script") (D_law T) sc_law rfl (fun _ _ _ _ _ _ us hl => match us, hl with | [_], _ => rfl) (fun vs H Q E h => by obtain ⟨a, ns, rfl, _⟩ := h; rfl) (fun base => body_law T base)
  exact ⟨fd, g_law T, hb, hF⟩
end Lw
open PySem PySem.W PySem.Calls PyProof.Rows
theorem PySem.Challenge.cw_trailpost_k05_whole_fees_grow_by_parts_holds : PySem.Challenge.rw_trailpost_k05_whole_fees_grow_by_parts.Holds := by
  w_on; o_law
  refine HandSHeadRun.head_any (r := OpenLaw.row PySem.Challenge.rw_trailpost_k05_whole_fees_grow_by_parts) (q := view (OpenLaw.row PySem.Challenge.rw_trailpost_k05_whole_fees_grow_by_parts).prog [16]) (H := Lw.hk) (ob := Lw.ob) (M := 6000) (loose := Lw.loose) (d := HandSHeadRun.topDef (OpenLaw.row PySem.Challenge.rw_trailpost_k05_whole_fees_grow_by_parts).prog 16) (kwd := []) Lw.ob_eq
    (by kernel_rfl) (fun s => by kernel_rfl) Lw.run (by kernel_rfl) (by kernel_rfl) (by kernel_rfl) (by rfl) (by first | assumption | decide +kernel) (by decide +kernel) ⟨rfl, rfl, rfl, rfl, rfl, by decide +kernel⟩ ?hw ?hc
  case hw => w_witness2
  case hc => exact TP.walkM (l := PySem.Challenge.rw_trailpost_k05_whole_fees_grow_by_parts) (x := "_law_script") rfl (by kernel_rfl) ⟨rfl, by decide, by decide⟩ (by kernel_rfl) (fun w mg K T => Lw.law_ok w mg K T)
