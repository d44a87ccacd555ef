import PyProof.Rows.All
import Wide.All
import OpenK.AllK
import Wide.FinOn
import HandS.Base
import HandS.Call
import HandS.List
import HandS.Comp
import HandS.Ends
import HandS.EndBits
import HandS.Dict
import HandS.Iter
import HandS.Text
import HandS.Words
import HandS.Defaults
import HandS.Wide
import HandS.HeadHook1
import HandS.HeadHook2
import PyProof.ReprRoads
import PyProof.ReprLen
import PyProof.ReprBulk
import HandS.Head2
import HandS.HeadEnd
import HandS.IsInst
import HandS.TupLe
import HandS.TupAny
import HandS.Evl
import HandS.Steps
import HandS.WordsList
import HandS.WordsDict
import HandS.Exc
import HandS.WordsExc
import PyProof.StrBlock2
import PyProof.StrLawsRepr
import HandS.Walk
import PySem.Challenge.RW_trailpost_k01_names_of_anything
set_option Elab.async false
set_option linter.all false
set_option maxRecDepth 100000
set_option maxHeartbeats 4000000
namespace TP
open PySem PySem.Spec PyProof.Rows L2

/-! ### defs that are called where no repr is under way -/
structure FnG (P : Program) (w : World) (K : PySem.W.Frag) (mg : Str → Option Value) (base : Heap) (CX : CXT) (k : Nat) (f : Addr) (fd : FuncData) (ps : List Str) (sp : Sp) : Prop where
  len : ∀ vs H Q E, sp vs H Q E → vs.length = ps.length
  run : ∀ (A : Around) (outer : List Env) (s : Shared) (H : Hp) (args : Args) (us : List Value) (vs : List V) (Q : VK) (E : XK), A.guards = some [] → Room k A →
    Env0 P w K mg base A outer s H → BindsTo s fd args (ps.zip us) → Vals vs us → sp vs H Q E → codeAny (model P w) A (.call (.ref f) args) (CR CX outer P w H s Q E) s
theorem FnG.of {P : Program} {w : World} {K : PySem.W.Frag} {mg : Str → Option Value} {base : Heap} {CX : CXT} {k : Nat} {f : Addr} {fd : FuncData} {ps : List Str} {sp : Sp}
    (F : FnOk P w K mg base CX k f fd ps sp) : FnG P w K mg base CX k f fd ps sp :=
  ⟨F.len, fun A outer s H args us vs Q E _ hr => F.run A outer s H args us vs Q E hr⟩

section
variable {P : Program} {w : World} {K : PySem.W.Frag} {mg : Str → Option Value} {base : Heap} {CX : CXT}
/-- a def by its body, called where no repr is under way -/
theorem fnG_of {k : Nat} {f : Addr} {name qual : Str} {params : Arguments} {body : List Stmt} {scope : Scope} {dV kV doc pm cdv ct oc : Value} {an od : Option Addr} {osl : Array (Option Value)} {N ps : List Str} {sp : Sp}
    (lk : K.lookup f = some ⟨oc, od, .func (PySem.W.fnOf name qual params body scope dV kV doc pm an cdv ct), osl⟩)
    (hcd : PySem.W.codeIn K cdv qual = true) (S : FnScope N ps scope) (len : ∀ vs H Q E, sp vs H Q E → vs.length = ps.length)
    (hbody : ∀ (A : Around) (outer : List Env) (s : Shared) (H : Hp) (vs : List V) (Q : VK) (E : XK), A.guards = some [] → Room k (A.deeper (envOfC qual scope s.heap.objs.size f cdv)) → sp vs H Q E →
      ∃ t, PSs (cxOf CX P w K mg base N qual scope f cdv A outer s H E) body t ∧ t { nx := fun _ H' => Q .non H', rt := Q } (start N vs) H) :
    FnG P w K mg base CX (k + 1) f (PySem.W.fnOf name qual params body scope dV kV doc pm an cdv ct) ps sp := by
  refine ⟨len, fun A outer s H args us vs Q E hgd hr e0 hb r hsp => ?_⟩
  have hlen := len _ _ _ _ hsp
  have kx : K.In s.heap := e0.mod.kin.keeps fun b o e => (e0.bs b o e).1
  have lim := e0.mod.nolimit.keeps (h' := s.heap) fun b o e => (e0.bs b o e).1
  have kinds : ∀ y ∈ ps.zip us, scope.names.lookup y.1 = some .local ∨ (scope.names.lookup y.1 = some .cell ∧
      ((cellsFrom (s.heap.objs.size + 1) scope.names []).lookup y.1).isSome = true) := fun ⟨n, v⟩ hy => by
    rcases S.par n (List.of_mem_zip hy).1 with q | q
    · exact .inl q
    · exact .inr ⟨q, PySem.W.cellsFrom_some _ _ _ (.inl q)⟩
  refine codeAny_call_function hr.depth (kx _ _ lk) rfl S.co S.gen rfl (PySem.W.codeRec_of kx hcd) (hb _ _ _ _ ?_)
  refine wpAny_newFunctionEnv_cells S.kind kinds fun env he s1 x => ?_
  subst he
  refine ⟨lim.keeps x.toInCall.keep, codeAny_func ?_⟩
  obtain ⟨t, ht, hq⟩ := hbody A outer s H vs Q E hgd (hr.deeper _) hsp
  have I : Inv (cxOf CX P w K mg base N qual scope f cdv A outer s H E) [] (start N vs) H s1 := inv_start S hr.hd e0 hlen r x
  refine wpAny_mono (ht.run [] s1 (start N vs) H _ I hq) (fun fl s' hs => ?_) fun e s' hs => hs
  cases fl with
  | ret u =>
    obtain ⟨v, σ', H', J, rv, q⟩ := hs
    exact ⟨v, H', J.os, J.bare, J.base, J.hok, rv, q⟩
  | next =>
    obtain ⟨σ', H', J, q⟩ := hs
    exact ⟨V.non, H', J.os, J.bare, J.base, J.hok, rfl, q⟩
  | brk =>
    obtain ⟨_, _, _, q⟩ := hs
    exact q.elim
  | cont =>
    obtain ⟨_, _, _, q⟩ := hs
    exact q.elim
end

section
variable {X : Cx} {CX : CXT} {k : Nat} {f : Addr} {fd : FuncData} {ps : List Str} {sp : Sp} {E : XK} {x : Str} {p pos : Pos} {e : Expr} {es : List Expr} {t : TA}
theorem pe_callG (F : FnG X.prog X.w X.K X.mg X.base CX k f fd ps sp) (hgd : X.A.guards = some []) (hr : Room k X.A) (hg : Gl X x) (hm : X.mg x = some (.ref f))
    (hk : PySem.W.keepIn X.K (.ref f) = true) (hb : Binds X.K fd ps []) (hx : Passes CX X E) (ha : PA X (e :: es) t) (hdb : (x == ("__debug__" : Str)) = false := by decide)
    (he : starEach (e :: es) X.env = (false, eval e X.env) :: starEach es X.env := by rfl) (hpl : (backTo pos (starEach es X.env)).any (·.1) = false := by rfl) :
    PE X (.Call (.Name x p) (e :: es) [] pos) (tCall sp [] E t) := by
  refine ⟨fun pins s σ H Q I h => wpAny_Call_Name_kw (ld_glob I hg hm ?_ hdb)⟩
  refine PySem.W.callWith_K (h₀ := X.base) I.ok.mod.kin hk (thn (ha.run pos pins s σ H _ I h) fun us s1 ⟨vs, H1, I1, r, q⟩ => ⟨I1.kIn, ?_⟩) he hpl
  have q' : sp vs H1 Q E := by
    have q0 : sp (vs ++ []) H1 Q E := q
    rw [List.append_nil] at q0
    exact q0
  have hl : (us ++ []).length = ps.length := by
    rw [List.append_nil, ← r.length]
    exact F.len _ _ _ _ q'
  have hbt := hb s1 us I1.kIn hl
  rw [List.append_nil] at hbt
  refine wpAny_call (codeAny_mono (F.run X.A X.stack s1 H1 ⟨us, []⟩ us vs Q E hgd hr I1.env0 hbt r q') fun r s' hq => ?_)
  cases r with
  | error e => exact hx pins σ H1 s1 e s' I1 hq
  | ok fl =>
    cases fl with
    | ret u => exact I1.after hq
    | next => exact hq.elim
    | brk => exact hq.elim
    | cont => exact hq.elim
end
end TP

namespace TP
open PySem PySem.Spec PyProof.Rows L2

/-! ### data with dicts: what a value shows -/
def kD : Key → PyData
  | .inl i => .int i
  | .inr x => .str x
mutual
inductive Dr (K : PySem.W.Frag) (H : Hp) : V → PyData → Prop
  | non : Dr K H .non .none
  | bl (b : Bool) : Dr K H (.bl b) (.bool b)
  | int (i : Int) : Dr K H (.int i) (.int i)
  | str (x : Str) : Dr K H (.str x) (.str x)
  | lst {a : Addr} {xs : List V} {ds : List PyData} : SqL K H a xs → DrAll K H xs ds → Dr K H (.ref a) (.list ds)
  | tup {a : Addr} {xs : List V} {ds : List PyData} : SqT K H a xs → DrAll K H xs ds → Dr K H (.ref a) (.tuple ds)
  | dct {a : Addr} {kvs : List (Key × V)} {ds : List (PyData × PyData)} : H a = some (.dK kvs) → DrKv K H kvs ds → Dr K H (.ref a) (.dict ds)
inductive DrAll (K : PySem.W.Frag) (H : Hp) : List V → List PyData → Prop
  | nil : DrAll K H [] []
  | cons {v : V} {vs : List V} {d : PyData} {ds : List PyData} : Dr K H v d → DrAll K H vs ds → DrAll K H (v :: vs) (d :: ds)
inductive DrKv (K : PySem.W.Frag) (H : Hp) : List (Key × V) → List (PyData × PyData) → Prop
  | nil : DrKv K H [] []
  | cons {k : Key} {v : V} {vs : List (Key × V)} {d : PyData} {ds : List (PyData × PyData)} : Dr K H v d → DrKv K H vs ds → DrKv K H ((k, v) :: vs) ((kD k, d) :: ds)
end
/-- the modules' dict is known -/
def SysK (K : PySem.W.Frag) : Prop := ∃ o, K.lookup sysModules = some o ∧ o.cls = .type "dict"
theorem keyReads {h : Heap} {k : Key} {u : Value} (e : keyIs k u = true) : Reads h u (kD k) [] := by
  rcases keyIs_shape e with ⟨i, t, rfl, rfl⟩ | ⟨x, t, rfl, rfl⟩
  · exact Reads.int i t
  · exact Reads.str x t
section
variable {X : Cx} {pins : List (Addr × Obj)} {σ : L2.St} {H : Hp} {s : Shared}
theorem sys_ne (hS : SysK X.K) (I : Inv X pins σ H s) {a : Addr} {o : Obj} (ho : s.heap.get? a = some o) (hc : o.cls ≠ .type "dict") : a ≠ sysModules := fun z => by
  obtain ⟨od, hl, hd⟩ := hS
  have q := I.kIn _ _ hl
  rw [← z, ho] at q
  cases q
  exact hc hd
mutual
theorem Dr.reads (hS : SysK X.K) (I : Inv X pins σ H s) : ∀ (d : PyData) (v : V) (u : Value), Dr X.K H v d → RelV v u → ∃ as, Reads s.heap u d as ∧ sysModules ∉ as
  | .none, _, _, h, r => by
    cases h
    cases r
    exact ⟨_, Reads.none, List.not_mem_nil⟩
  | .bool b, _, _, h, r => by
    cases h
    cases r
    exact ⟨_, Reads.bool b, List.not_mem_nil⟩
  | .int i, _, _, h, r => by
    cases h
    obtain ⟨t, rfl⟩ := r
    exact ⟨_, Reads.int i t, List.not_mem_nil⟩
  | .str x, _, _, h, r => by
    cases h
    obtain ⟨t, rfl⟩ := r
    exact ⟨_, Reads.str x t, List.not_mem_nil⟩
  | .list ds, _, _, h, r => by
    cases h with
    | lst hs ha =>
      cases r
      obtain ⟨its, rv, ⟨o, n, ho, hc, _, hd⟩, _⟩ := I.list hs
      obtain ⟨as, hr, hn⟩ := DrAll.reads hS I ds _ its ha rv
      refine ⟨_, Reads.list ho hc hd hr, fun z => ?_⟩
      rcases List.mem_cons.mp z with e | e
      · exact sys_ne hS I ho (by rw [hc]; decide) e.symm
      · exact hn e
  | .tuple ds, _, _, h, r => by
    cases h with
    | tup hs ha =>
      cases r
      obtain ⟨its, rv, ⟨o, ho, hc, n, hd⟩, _⟩ := I.tuple hs
      obtain ⟨as, hr, hn⟩ := DrAll.reads hS I ds _ its ha rv
      exact ⟨_, Reads.tuple ho hc hd hr, hn⟩
  | .dict ds, _, _, h, r => by
    cases h with
    | dct hs ha =>
      cases r
      obtain ⟨_, hy, vs, rel, o, es, ep, ho, hx, hd, _, hp, _⟩ := dk_of I.hok hs
      obtain ⟨bs, h1, h2, hn⟩ := DrKv.reads hS I ds _ vs es.toList ha rel hp
      refine ⟨_, Reads.dict ho hx.1 hd h1 h2, fun z => ?_⟩
      rcases List.mem_cons.mp (show sysModules ∈ _ :: _ from z) with e | e
      · rw [← e] at hy
        exact absurd hy (by decide)
      · exact hn e
theorem DrAll.reads (hS : SysK X.K) (I : Inv X pins σ H s) : ∀ (ds : List PyData) (vs : List V) (us : List Value), DrAll X.K H vs ds → Vals vs us → ∃ as, ReadsAll s.heap us ds as ∧ sysModules ∉ as
  | [], _, _, h, r => by
    cases h
    cases r
    exact ⟨_, ReadsAll.nil, List.not_mem_nil⟩
  | d :: ds, _, _, h, r => by
    cases h with
    | cons h1 h2 =>
      cases r with
      | cons r1 r2 =>
        obtain ⟨as, a1, n1⟩ := Dr.reads hS I d _ _ h1 r1
        obtain ⟨bs, a2, n2⟩ := DrAll.reads hS I ds _ _ h2 r2
        exact ⟨_, ReadsAll.cons a1 a2, fun z => (List.mem_append.mp z).elim n1 n2⟩
theorem DrKv.reads (hS : SysK X.K) (I : Inv X pins σ H s) : ∀ (ds : List (PyData × PyData)) (kvs : List (Key × V)) (vs : List (Key × Value)) (es : List DictEntry), DrKv X.K H kvs ds → KV kvs vs → Pairs (mixKind X.prog X.w) es vs →
    ∃ bs, ReadsAll s.heap (es.map (·.key)) (ds.map (·.1)) [] ∧ ReadsAll s.heap (es.map (·.val)) (ds.map (·.2)) bs ∧ sysModules ∉ bs
  | [], _, _, _, h, r, p => by
    cases h
    cases r
    cases p
    exact ⟨_, ReadsAll.nil, ReadsAll.nil, List.not_mem_nil⟩
  | (a, d) :: ds, _, _, _, h, r, p => by
    cases h with
    | cons h1 h2 =>
      cases r with
      | cons r1 r2 =>
        cases p with
        | cons p1 p2 p3 =>
          obtain ⟨bs, b1, b2, n2⟩ := DrKv.reads hS I ds _ _ _ h2 r2 p3
          obtain ⟨as, a1, n1⟩ := Dr.reads hS I d _ _ h1 r1.2
          refine ⟨as ++ bs, ReadsAll.cons (as := []) (bs := []) (keyReads (by have e := r1.1; dsimp only at e; rw [e]; exact p1)) b1, ReadsAll.cons (by dsimp only; rw [p2]; exact a1) b2, fun z => (List.mem_append.mp z).elim n1 n2⟩
end
/-- repr(x) of data -/
def rRepr (K : PySem.W.Frag) : List V → Hp → VK → Prop := fun xs H Q => ∃ (x : V) (d : PyData), xs = [x] ∧ Dr K H x d ∧ d.showable = true ∧ d.depth ≤ 50 ∧ d.shown.length ≤ sizeLine ∧ Q (.str d.shown) H
theorem call_reprG (hS : SysK X.K) (hg : X.A.guards = some []) (hu : X.A.units + 64 < cLine) : CallR X (.builtin "repr") (rRepr X.K) := by
  intro pins s σ H xs us Q I r h
  obtain ⟨x, d, rfl, hd, sh, dp, sz, q⟩ := h
  obtain ⟨u, rfl, rx⟩ := vals1 r
  cases hd with
  | non =>
    cases rx
    refine PySem.P.repr_of_none ⟨.str _, H, I.tok _, ⟨_, rfl⟩, ?_⟩
    exact q
  | bl b =>
    cases rx
    refine PySem.P.repr_of_bool ⟨.str _, H, I.tok _, ⟨_, rfl⟩, ?_⟩
    rw [PyData.shown_bool] at q
    exact q
  | int i =>
    obtain ⟨t, rfl⟩ := rx
    refine PySem.P.repr_of_int (of_decide_eq_true sh) ⟨.str _, H, I.tok _, ⟨_, rfl⟩, ?_⟩
    rw [PyData.shown_int] at q
    exact q
  | str z =>
    obtain ⟨t, rfl⟩ := rx
    rw [PyData.shown_str] at q sz
    exact PySem.P.repr_of_str ⟨.str _, H, I.tok _, ⟨_, rfl⟩, q⟩ sz
  | lst a b =>
    cases rx
    obtain ⟨as, hr, hn⟩ := Dr.reads hS I _ _ _ (Dr.lst a b) rfl
    exact repr_of_reads' hr sh (fun _ => hn) hg (by omega) (fun _ _ e => e) (fun h' u tk hk => ⟨.str _, H, I.kept (t' := tk) hk, ⟨_, rfl⟩, q⟩) sz
  | tup a b =>
    cases rx
    obtain ⟨as, hr, hn⟩ := Dr.reads hS I _ _ _ (Dr.tup a b) rfl
    exact repr_of_reads' hr sh (fun _ => hn) hg (by omega) (fun _ _ e => e) (fun h' u tk hk => ⟨.str _, H, I.kept (t' := tk) hk, ⟨_, rfl⟩, q⟩) sz
  | dct a b =>
    cases rx
    obtain ⟨as, hr, hn⟩ := Dr.reads hS I _ _ _ (Dr.dct a b) rfl
    exact repr_of_reads' hr sh (fun _ => hn) hg (by omega) (fun _ _ e => e) (fun h' u tk hk => ⟨.str _, H, I.kept (t' := tk) hk, ⟨_, rfl⟩, q⟩) sz
end
end TP

namespace TP
open PySem PySem.Spec PyProof.Rows L2

/-! ### the head: facts by names, one more Bool, the modules' dict among what is known -/
def asM (g : Addr → Option Obj) (n : Nat) : List Addr := sysModules :: He.asD g n
abbrev AlM : Type := He.AlD × Bool
def obsM (n : Nat) (fa : List He.Fa) (fn : List He.DefD) (ex : PySem.W.Frag → Bool) (g : Addr → Option Obj) : AlM :=
  (He.obsD fa fn (He.frG g (asM g n)), ex (He.frG g (asM g n)))
def hookM (n : Nat) (fa : List He.Fa) (fn : List He.DefD) (ex : PySem.W.Frag → Bool) : PySem.W.Hook where
  α := AlM
  obs := fun s => obsM n fa fn ex s.heap.get?
  val := fun _ => (He.valD fn, true)
  says := fun _ h => ∃ K : PySem.W.Frag, K.In h ∧ He.SaysD fa fn K ∧ ex K = true
  of := fun _ _ e => ⟨_, He.frG_in, congrArg (fun z : AlM => z.1) e, congrArg (fun z : AlM => z.2) e⟩
  keeps := fun _ _ _ ⟨K, hK, c⟩ k => ⟨K, PySem.W.Frag.In.keeps hK k, c⟩
theorem obsM_eq {n : Nat} {fa : List He.Fa} {fn : List He.DefD} {ex : PySem.W.Frag → Bool} {g : Addr → Option Obj} {s : Shared} (h : ∀ a, g a = s.heap.get? a) :
    obsM n fa fn ex g = (hookM n fa fn ex).obs s := by
  have e : g = s.heap.get? := funext h
  rw [e] <;> rfl
/-- what is known of the text behind the top -/
structure Tx (fa : List He.Fa) (fn : List He.DefD) (ex : PySem.W.Frag → Bool) (K : PySem.W.Frag) (mg : Str → Option Value) : Prop where
  c : He.SaysD fa fn K
  ex : ex K = true
  m : ∃ h : Heap, K.In h ∧ h.Ns mainGlobals mg
section
variable {fa : List He.Fa} {fn : List He.DefD} {ex : PySem.W.Frag → Bool} {K : PySem.W.Frag} {mg : Str → Option Value}
theorem Tx.glo (T : Tx fa fn ex K mg) {x : Str} (i : Nat) (h : fa[i]? = some (.glo x) := by rfl) : mg x = some (.ref (He.ga K x)) := by
  obtain ⟨_, hk, g⟩ := T.m
  exact He.glo_ok hk g (T.c.fact i h)
theorem Tx.free (T : Tx fa fn ex K mg) {x : Str} (i : Nat) (h : fa[i]? = some (.free x) := by rfl) : mg x = none := by
  obtain ⟨_, hk, g⟩ := T.m
  exact He.free_ok hk g (T.c.fact i h)
theorem Tx.int (T : Tx fa fn ex K mg) {x : Str} {z : Int} (i : Nat) (h : fa[i]? = some (.int x z) := by rfl) : ∃ t, mg x = some (.int z t) := by
  obtain ⟨_, hk, g⟩ := T.m
  exact He.int_ok hk g (T.c.fact i h)
theorem Tx.str (T : Tx fa fn ex K mg) {x z : Str} (i : Nat) (h : fa[i]? = some (.str x z) := by rfl) : ∃ t, mg x = some (.str z t) := by
  obtain ⟨_, hk, g⟩ := T.m
  exact He.str_ok hk g (T.c.fact i h)
end
def sysB (K : PySem.W.Frag) : Bool := match K.lookup sysModules with
  | some o => decide (o.cls = .type "dict")
  | none => false
theorem sysB_ok {K : PySem.W.Frag} (h : sysB K = true) : SysK K := by
  unfold sysB at h
  cases q : K.lookup sysModules with
  | none =>
    rw [q] at h
    cases h
  | some o =>
    rw [q] at h
    exact ⟨o, q, of_decide_eq_true h⟩

/-! ### the end -/
theorem law_callG {P : Program} {w : World} {K : PySem.W.Frag} {mg mb : Str → Option Value} {CX : CXT} {k : Nat} {fa a : Addr} {fd : FuncData} {x : Str} {sp : Sp} {s₁ : Shared} {vs : List Value} {ns : List Int}
    (KX : K.In s₁.heap) (hns : s₁.heap.Ns mainGlobals mg) (hb : s₁.heap.Ns builtinsNs mb) (hbb : ∀ x : Str, x ≠ "__name__" → mb x = bootBuiltins x) (hlim : s₁.heap.NoLimit) (hg : s₁.gens = #[])
    (ha : s₁.heap.get? a = some { cls := .type "list", data := .seq vs.toArray }) (hi : IntsAre vs ns) (hl : ns.length ≤ sizeLine) (hr : Room k callerA)
    (F : ∀ base : Heap, K.In base → base.Ns mainGlobals mg → FnG P w K mg base CX k fa fd [x] sp)
    (hbind : ∀ (s : Shared) (u : Value), BindsTo s fd ⟨[u], []⟩ [(x, u)])
    (hsp : ∀ H : Hp, Only H → SqL K H a (ns.map V.int) → sp [.ref a] H (fun v _ => v = .bl true) fun _ _ _ => False)
    (hCX : ∀ H e s', CX [] H s₁ (fun _ _ _ => False) e s' → False) :
    codeAny (model P w) callerA (.call (.ref fa) ⟨[.ref a], []⟩) (fun r s' => r = .ok (.ret (.bool true)) ∧ OldK s₁.heap s'.heap ∧ s'.os = s₁.os ∧ AllBare s'.gens) s₁ := by
  have rv := vals_ints hi
  have lv := hi.length
  have core : ∀ H : Hp, Only H → SqL K H a (ns.map V.int) → HOk P w H s₁.heap → (∀ b, H b ≠ none → b = a) → (H a ≠ none → K.lookup a = none) →
      codeAny (model P w) callerA (.call (.ref fa) ⟨[.ref a], []⟩) (fun r s' => r = .ok (.ret (.bool true)) ∧ OldK s₁.heap s'.heap ∧ s'.os = s₁.os ∧ AllBare s'.gens) s₁ := by
    intro H hO hS hok hA hK
    have keepN : ∀ {b : Addr} {o : Obj} {es : Array DictEntry} {ep : Nat}, s₁.heap.get? b = some o → o.data = .dict es ep → H b = none := fun {b o es ep} e d => by
      cases q : H b with
      | none => rfl
      | some u =>
        obtain rfl : b = a := hA b (by rw [q]; simp)
        rw [ha] at e
        cases e
        cases (show Data.seq vs.toArray _ = Data.dict es ep from d)
    have nsK : ∀ {b : Addr} {m : Str → Option Value}, s₁.heap.Ns b m → (hidT s₁.heap H).Ns b m :=
      fun {b m} ⟨o, es, ep, e, d, r⟩ => ⟨o, es, ep, hidT_get e (keepN e d), d, r⟩
    have kb : K.In (hidT s₁.heap H) := fun b o e => hidT_get (KX b o e) (by
      cases q : H b with
      | none => rfl
      | some u =>
        obtain rfl : b = a := hA b (by rw [q]; simp)
        rw [hK (by rw [q]; simp)] at e
        cases e)
    have md : Mod K mg (hidT s₁.heap H) := ⟨kb, nsK hns, ⟨mb, nsK hb, hbb⟩, let ⟨mc, h1, h2⟩ := hlim; ⟨mc, nsK h1, h2⟩⟩
    have e0 : Env0 P w K mg (hidT s₁.heap H) callerA [] s₁ H :=
      ⟨rfl, md, fun b o e => of_hidT e, Nat.le_of_eq (hidT_size _ _), trivial, fun b hb => absurd (show b ∈ ([] : List Addr) from hb) (by simp), hok, .of_eq hg⟩
    refine codeAny_mono ((F _ kb (nsK hns)).run callerA [] s₁ H ⟨[.ref a], []⟩ [.ref a] [.ref a] _ _ rfl hr e0 (hbind s₁ (.ref a)) (.cons rfl .nil) (hsp H hO hS)) fun r s' h => ?_
    cases r with
    | error e => exact (hCX H e s' h).elim
    | ok fl =>
      cases fl with
      | next => exact h.elim
      | brk => exact h.elim
      | cont => exact h.elim
      | ret u =>
        obtain ⟨v, H', os, bare, un, hok', r', q⟩ := h
        obtain rfl : v = .bl true := q
        obtain rfl : u = Value.bool true := r'
        refine ⟨rfl, OldK.of_keep fun b o e => ?_, os, bare⟩
        cases q : H b with
        | none => exact un.keep b o e q (fun z => absurd (show b ∈ ([] : List Addr) from z) (by simp)) (by simp)
        | some u =>
          rcases hO b with z | ⟨ob, xs, z⟩
          · rw [q] at z
            cases z
          · obtain ⟨e1, _⟩ := hok b _ z
            obtain ⟨e2, _⟩ := hok' b _ (un.frzs b ob _ z)
            rw [e] at e1
            cases e1
            exact e2
  cases hk : K.lookup a with
  | some o =>
    have e := KX a o hk
    rw [ha] at e
    cases e
    exact core (fun _ => none) (fun _ => .inl rfl) (.inr ⟨_, vs.toArray, _, hk, rfl, rfl, rfl, by rw [List.size_toArray, lv]; exact hl, by simpa using rv⟩)
      (fun b u z => nomatch (show (none : Option HO) = some u from z)) (fun b z => absurd rfl z) fun z => absurd rfl z
  | none =>
    refine core (fun b => if b = a then some (.frz { cls := .type "list", data := .seq vs.toArray } (.lst (ns.map V.int))) else none) (fun b => ?_)
      (.inl (.inr ⟨{ cls := .type "list", data := .seq vs.toArray }, if_pos rfl⟩)) (fun b u z => ?_) (fun b z => ?_) fun _ => hk
    · by_cases hb : b = a
      · exact .inr ⟨_, _, if_pos hb⟩
      · exact .inl (if_neg hb)
    · by_cases hb : b = a
      · cases (if_pos hb).symm.trans z
        subst hb
        exact ⟨ha, by rw [List.length_map]; exact hl, vs, _, rv, ha⟩
      · cases (if_neg hb).symm.trans z
    · by_cases hb : b = a
      · exact hb
      · exact absurd (if_neg hb) z
/-- the law's promise: a list of at most 63 ints, of at most 2 ^ 20 bits each; True comes back -/
def spLaw (K : PySem.W.Frag) : Sp := fun vs H Q _ => ∃ (a : Addr) (ns : List Int), vs = [.ref a] ∧ SqL K H a (ns.map V.int) ∧ ns.length ≤ 63 ∧ (∀ z ∈ ns, Builtin.Int.intBits z ≤ 1048576) ∧ ∀ H', Q (.bl true) H'
theorem walkM {l : PySem.W.OpenLaw} {k N : Nat} {q : Program} {loose : List Str} {XP : (Str → Option Value) → Heap → Prop} {d : DefRec} {x : Str}
    {fa : List He.Fa} {fn : List He.DefD} {ex : PySem.W.Frag → Bool}
    (hn : l.most = some 63) (hdf : d.params.defaults = []) (hr : Room k callerA) (hnm : d.name = ("law" : Str))
    (F : ∀ (w : World) (mg : Str → Option Value) (K : PySem.W.Frag), Tx fa fn ex K mg →
      ∃ fd : FuncData, mg "law" = some (.ref (He.ga K "law")) ∧ (∀ (s : Shared) (u : Value), BindsTo s fd ⟨[u], []⟩ [(x, u)]) ∧ ∀ base : Heap, FnG l.prog w K mg base CX0 k (He.ga K "law") fd [x] (spLaw K)) :
    PySem.W.WalkO q loose XP (hookM N fa fn ex).says l.row.toRowW d [] (fun f vs => PySem.call f vs) := by
  refine Att.attach_callB hn hdf fun w s₀ s₁ mg mb fA o pm cd doc a vs ns G Y ho hd hcd hmg hobj hints hlen hbits hg => ?_
  obtain ⟨K, KX, c, e⟩ := Y
  obtain ⟨fd, h0, hb, hF⟩ := F w mg K ⟨c, e, _, KX, G.T.g⟩
  rw [hnm, h0] at hmg
  cases hmg
  exact law_callG KX G.T.g G.T.b G.T.builtins G.T.nolimit hg hobj hints (Nat.le_trans hlen (by decide)) hr (fun base _ _ => hF base) hb
    (fun H hO hS => ⟨a, ns, rfl, hS, hlen, hbits, fun _ => rfl⟩) fun _ _ _ z => z
end TP

namespace TP
open PySem PySem.Spec PyProof.Rows L2

/-! ### a def called by its module's name -/
structure Gt (P : Program) (w : World) (K : PySem.W.Frag) (mg : Str → Option Value) (base : Heap) (CX : CXT) (k : Nat) (x : Str) (ps : List Str) (sp : Sp) : Prop where
  ex : ∃ f fd, mg x = some (.ref f) ∧ PySem.W.keepIn K (.ref f) = true ∧ Binds K fd ps [] ∧ FnOk P w K mg base CX k f fd ps sp
structure GtG (P : Program) (w : World) (K : PySem.W.Frag) (mg : Str → Option Value) (base : Heap) (CX : CXT) (k : Nat) (x : Str) (ps : List Str) (sp : Sp) : Prop where
  ex : ∃ f fd, mg x = some (.ref f) ∧ PySem.W.keepIn K (.ref f) = true ∧ Binds K fd ps [] ∧ FnG P w K mg base CX k f fd ps sp
section
variable {X : Cx} {CX : CXT} {k : Nat} {ps : List Str} {sp : Sp} {E : XK} {x : Str} {p pos : Pos} {e : Expr} {es : List Expr} {t : TA}
theorem Gt.pe (G : Gt X.prog X.w X.K X.mg X.base CX0 k x ps sp) (hr : Room k X.A) (ha : PA X (e :: es) t) (hg : Gl X x := by rfl) (hdb : (x == ("__debug__" : Str)) = false := by decide)
    (he : starEach (e :: es) X.env = (false, eval e X.env) :: starEach es X.env := by rfl) (hpl : (backTo pos (starEach es X.env)).any (·.1) = false := by rfl) :
    PE X (.Call (.Name x p) (e :: es) [] pos) (tCall sp [] E0 t) := by
  obtain ⟨f, fd, hm, hk, hb, F⟩ := G.ex
  exact pe_call F hr hg hm hk hb .nil pass0 ha hdb he hpl
theorem Gt.peX (G : Gt X.prog X.w X.K X.mg X.base CX k x ps sp) (hr : Room k X.A) (hx : Passes CX X E) (ha : PA X (e :: es) t) (hg : Gl X x := by rfl) (hdb : (x == ("__debug__" : Str)) = false := by decide)
    (he : starEach (e :: es) X.env = (false, eval e X.env) :: starEach es X.env := by rfl) (hpl : (backTo pos (starEach es X.env)).any (·.1) = false := by rfl) :
    PE X (.Call (.Name x p) (e :: es) [] pos) (tCall sp [] E t) := by
  obtain ⟨f, fd, hm, hk, hb, F⟩ := G.ex
  exact pe_call F hr hg hm hk hb .nil hx ha hdb he hpl
theorem GtG.pe (G : GtG X.prog X.w X.K X.mg X.base CX0 k x ps sp) (hgd : X.A.guards = some []) (hr : Room k X.A) (ha : PA X (e :: es) t) (hg : Gl X x := by rfl) (hdb : (x == ("__debug__" : Str)) = false := by decide)
    (he : starEach (e :: es) X.env = (false, eval e X.env) :: starEach es X.env := by rfl) (hpl : (backTo pos (starEach es X.env)).any (·.1) = false := by rfl) :
    PE X (.Call (.Name x p) (e :: es) [] pos) (tCall sp [] E0 t) := by
  obtain ⟨f, fd, hm, hk, hb, F⟩ := G.ex
  exact pe_callG F hgd hr hg hm hk hb pass0 ha hdb he hpl
end
section
variable {P : Program} {w : World} {K : PySem.W.Frag} {mg : Str → Option Value} {base : Heap} {CX : CXT} {k : Nat} {x : Str} {ps : List Str} {sp sp' : Sp}
theorem Gt.mono {j : Nat} (G : Gt P w K mg base CX j x ps sp) (h : j ≤ k) : Gt P w K mg base CX k x ps sp := by
  obtain ⟨f, fd, hm, hk, hb, F⟩ := G.ex
  exact ⟨f, fd, hm, hk, hb, F.mono h⟩
theorem Gt.imp (G : Gt P w K mg base CX k x ps sp) (h : ∀ vs H Q E, sp' vs H Q E → sp vs H Q E) : Gt P w K mg base CX k x ps sp' := by
  obtain ⟨f, fd, hm, hk, hb, F⟩ := G.ex
  exact ⟨f, fd, hm, hk, hb, F.imp h⟩
/-- what is to be shown of a def's body -/
abbrev BodyOk (P : Program) (w : World) (K : PySem.W.Frag) (mg : Str → Option Value) (base : Heap) (k : Nat) (N : List Str) (d : He.DefD) (sp : Sp) : Prop :=
  ∀ (f : Addr) (cdv : Value) (A : Around) (outer : List Env) (s : Shared) (H : Hp) (vs : List V) (Q : VK) (E : XK), Room k (A.deeper (envOfC d.qual d.scope s.heap.objs.size f cdv)) → sp vs H Q E →
      ∃ t, PSs (cxOf CX0 P w K mg base N d.qual d.scope f cdv A outer s H E).nox d.body t ∧ t { nx := fun _ H' => Q .non H', rt := Q } (start N vs) H
abbrev BodyOkX (P : Program) (w : World) (K : PySem.W.Frag) (mg : Str → Option Value) (base : Heap) (k : Nat) (N : List Str) (d : He.DefD) (sp : Sp) : Prop :=
  ∀ (f : Addr) (cdv : Value) (A : Around) (outer : List Env) (s : Shared) (H : Hp) (vs : List V) (Q : VK) (E : XK), Room k (A.deeper (envOfC d.qual d.scope s.heap.objs.size f cdv)) → sp vs H Q E →
      ∃ t, PSs (cxOf (L2.CX P w) P w K mg base N d.qual d.scope f cdv A outer s H E) d.body t ∧ t { nx := fun _ H' => Q .non H', rt := Q } (start N vs) H
abbrev BodyOkG (P : Program) (w : World) (K : PySem.W.Frag) (mg : Str → Option Value) (base : Heap) (k : Nat) (N : List Str) (d : He.DefD) (sp : Sp) : Prop :=
  ∀ (f : Addr) (cdv : Value) (A : Around) (outer : List Env) (s : Shared) (H : Hp) (vs : List V) (Q : VK) (E : XK), A.guards = some [] → Room k (A.deeper (envOfC d.qual d.scope s.heap.objs.size f cdv)) → sp vs H Q E →
      ∃ t, PSs (cxOf CX0 P w K mg base N d.qual d.scope f cdv A outer s H E).nox d.body t ∧ t { nx := fun _ H' => Q .non H', rt := Q } (start N vs) H
abbrev IsDef (K : PySem.W.Frag) (d : He.DefD) : Prop := ∃ fd, FunD K d.name d.qual d.params d.body d.scope (d.dvs K) (d.kws K) (He.fAd K d.at_) fd
abbrev BindN (d : He.DefD) (ps : List Str) : Prop := ∀ (kV doc pm : Value) (an : Option Addr) (cdv ct : Value) (us : List Value), us.length = ps.length →
  bindArgs (PySem.W.fnOf d.name d.qual d.params d.body d.scope .none kV doc pm an cdv ct) ⟨us, []⟩ = pure (ps.zip us)
theorem fn_ok0 {N : List Str} {d : He.DefD} {f : Addr} {fd : FuncData} (F : FunD K d.name d.qual d.params d.body d.scope (d.dvs K) (d.kws K) f fd) (S : FnScope N ps d.scope)
    (len : ∀ vs H Q E, sp vs H Q E → vs.length = ps.length) (B : BodyOk P w K mg base k N d sp) : FnOk P w K mg base CX0 (k + 1) f fd ps sp :=
  F.ok S len fun cdv A outer s H vs Q E hr h => by
    obtain ⟨t, h1, h2⟩ := B f cdv A outer s H vs Q E hr h
    exact ⟨t, h1.nox, h2⟩
theorem fn_okX {N : List Str} {d : He.DefD} {f : Addr} {fd : FuncData} (F : FunD K d.name d.qual d.params d.body d.scope (d.dvs K) (d.kws K) f fd) (S : FnScope N ps d.scope)
    (len : ∀ vs H Q E, sp vs H Q E → vs.length = ps.length) (B : BodyOkX P w K mg base k N d sp) : FnOk P w K mg base (L2.CX P w) (k + 1) f fd ps sp :=
  F.ok S len fun cdv A outer s H vs Q E hr h => B f cdv A outer s H vs Q E hr h
theorem fn_okG {N : List Str} {d : He.DefD} {f : Addr} {fd : FuncData} (F : FunD K d.name d.qual d.params d.body d.scope (d.dvs K) (d.kws K) f fd) (S : FnScope N ps d.scope)
    (len : ∀ vs H Q E, sp vs H Q E → vs.length = ps.length) (B : BodyOkG P w K mg base k N d sp) : FnG P w K mg base CX0 (k + 1) f fd ps sp := by
  obtain ⟨oc, od, dV, kV, doc, pm, an, cdv, ct, osl, rfl, lk, hcd, _, _⟩ := F.ex
  exact fnG_of lk hcd S len fun A outer s H vs Q E hg hr h => by
    obtain ⟨t, h1, h2⟩ := B f cdv A outer s H vs Q E hg hr h
    exact ⟨t, h1.nox, h2⟩
theorem gt_mk {N : List Str} {d : He.DefD} (D : IsDef K d) (g : mg x = some (.ref (He.fAd K d.at_))) (S : FnScope N ps d.scope) (hd : d.dfl = []) (hb : BindN d ps)
    (len : ∀ vs H Q E, sp vs H Q E → vs.length = ps.length) (B : BodyOk P w K mg base k N d sp) : Gt P w K mg base CX0 (k + 1) x ps sp := by
  obtain ⟨fd, F⟩ := D
  refine ⟨_, fd, g, F.kp, ?_, fn_ok0 F S len B⟩
  have e : d.dvs K = [] := by unfold He.DefD.dvs; rw [hd]; rfl
  rw [e] at F
  exact F.bindsN hb
theorem gtX_mk {N : List Str} {d : He.DefD} (D : IsDef K d) (g : mg x = some (.ref (He.fAd K d.at_))) (S : FnScope N ps d.scope) (hd : d.dfl = []) (hb : BindN d ps)
    (len : ∀ vs H Q E, sp vs H Q E → vs.length = ps.length) (B : BodyOkX P w K mg base k N d sp) : Gt P w K mg base (L2.CX P w) (k + 1) x ps sp := by
  obtain ⟨fd, F⟩ := D
  refine ⟨_, fd, g, F.kp, ?_, fn_okX F S len B⟩
  have e : d.dvs K = [] := by unfold He.DefD.dvs; rw [hd]; rfl
  rw [e] at F
  exact F.bindsN hb
theorem gtG_mk {N : List Str} {d : He.DefD} (D : IsDef K d) (g : mg x = some (.ref (He.fAd K d.at_))) (S : FnScope N ps d.scope) (hd : d.dfl = []) (hb : BindN d ps)
    (len : ∀ vs H Q E, sp vs H Q E → vs.length = ps.length) (B : BodyOkG P w K mg base k N d sp) : GtG P w K mg base CX0 (k + 1) x ps sp := by
  obtain ⟨fd, F⟩ := D
  refine ⟨_, fd, g, F.kp, ?_, fn_okG F S len B⟩
  have e : d.dvs K = [] := by unfold He.DefD.dvs; rw [hd]; rfl
  rw [e] at F
  exact F.bindsN hb
/-- for walkM -/
theorem law_fd {N : List Str} {d : He.DefD} (D : IsDef K d) (S : FnScope N [x] d.scope) (hd : d.dfl = []) (hb : BindN d [x])
    (len : ∀ vs H Q E, sp vs H Q E → vs.length = [x].length) (B : ∀ base, BodyOkG P w K mg base k N d sp) :
    ∃ fd : FuncData, (∀ (s : Shared) (u : Value), BindsTo s fd ⟨[u], []⟩ [(x, u)]) ∧ ∀ base : Heap, FnG P w K mg base CX0 (k + 1) (He.fAd K d.at_) fd [x] sp := by
  obtain ⟨fd, F⟩ := D
  have F0 := F
  have e : d.dvs K = [] := by unfold He.DefD.dvs; rw [hd]; rfl
  rw [e] at F
  exact ⟨fd, fun s u => F.bindsA hb s [u] rfl, fun base => fn_okG F0 S len (B base)⟩
end

/-! ### names of the module -/
section
variable {X : Cx} {x : Str} {pos : Pos}
theorem pe_gint {i : Int} (h : ∃ t, X.mg x = some (.int i t)) (hg : Gl X x := by rfl) (hd : (x == ("__debug__" : Str)) = false := by decide) : PE X (.Name x pos) (tC (.int i)) := by
  obtain ⟨t, h⟩ := h
  exact pe_glob hg h ⟨t, rfl⟩ hd
theorem pe_gstr {z : Str} (h : ∃ t, X.mg x = some (.str z t)) (hg : Gl X x := by rfl) (hd : (x == ("__debug__" : Str)) = false := by decide) : PE X (.Name x pos) (tC (.str z)) := by
  obtain ⟨t, h⟩ := h
  exact pe_glob hg h ⟨t, rfl⟩ hd
theorem pe_gref {a : Addr} (h : X.mg x = some (.ref a)) (hg : Gl X x := by rfl) (hd : (x == ("__debug__" : Str)) = false := by decide) : PE X (.Name x pos) (tC (.ref a)) := pe_glob hg h rfl hd
theorem pe_gty {n : String} (h : X.mg x = none) (hv : bootBuiltins x = some (.type n)) (hg : Gl X x := by rfl) (hn : x ≠ "__name__" := by decide) (hd : (x == ("__debug__" : Str)) = false := by decide) : PE X (.Name x pos) (tC (.ty n)) := pe_bltn hg h hv rfl hn hd
end
/-! ### heaps: all that was told but one object stays -/
def Wk (a : Addr) (H H' : Hp) : Prop := ∀ b o, b ≠ a → H b = some o → H' b = some o
theorem Wk.refl (a : Addr) (H : Hp) : Wk a H H := fun _ _ _ h => h
theorem Wk.trans {a : Addr} {H H1 H2 : Hp} (x : Wk a H H1) (y : Wk a H1 H2) : Wk a H H2 := fun b o n h => y b o n (x b o n h)
theorem Wk.set {a : Addr} {H H' : Hp} {o : HO} (x : Wk a H H') : Wk a H (upd H' a o) := fun b u n h => by
  rw [upd_ne n]
  exact x b u n h
theorem Wk.new {a p : Addr} {H H' : Hp} {o : HO} (x : Wk a H H') (hp : H' p = none) : Wk a H (upd H' p o) := fun b u n h => by
  rw [upd_ne (ne_of_none (x b u n h) hp)]
  exact x b u n h
/-! ### the well of draws -/
def Wl (H : Hp) (a : Addr) (n : Nat) : Prop := ∃ x y c : Int, H a = some (.lst [.int x, .int y, .int c]) ∧ 0 ≤ x ∧ 0 ≤ y ∧ y < 2147483647 ∧ 0 ≤ c ∧ c ≤ n
theorem Wl.mono {H : Hp} {a : Addr} {n m : Nat} (h : Wl H a n) (l : n ≤ m) : Wl H a m := by
  obtain ⟨x, y, c, e, h1, h2, h3, h4, h5⟩ := h
  exact ⟨x, y, c, e, h1, h2, h3, h4, by omega⟩
theorem Wl.new {H : Hp} {a p : Addr} {o : HO} {n : Nat} (h : Wl H a n) (hp : H p = none) : Wl (upd H p o) a n := by
  obtain ⟨x, y, c, e, r⟩ := h
  exact ⟨x, y, c, by rw [upd_ne (ne_of_none e hp)]; exact e, r⟩
theorem Wl.some {H : Hp} {a : Addr} {n : Nat} (h : Wl H a n) : ∃ o, H a = some o := by
  obtain ⟨x, y, c, e, _⟩ := h
  exact ⟨_, e⟩
/-- a draw's end: the well a has gone on from at most n to at most m draws, all else stays -/
structure Dn (a : Addr) (m : Nat) (H H' : Hp) : Prop where
  wl : Wl H' a m
  k : Wk a H H'
theorem Dn.free {a p : Addr} {m : Nat} {H H' : Hp} (d : Dn a m H H') (h : H' p = none) : H p = none := by
  cases q : H p with
  | none => rfl
  | some o =>
    by_cases e : p = a
    · obtain ⟨u, hu⟩ := d.wl.some
      rw [e, hu] at h
      cases h
    · rw [d.k p o e q] at h
      cases h
theorem Dn.trans {a : Addr} {n m : Nat} {H H1 H2 : Hp} (x : Dn a n H H1) (y : Dn a m H1 H2) : Dn a m H H2 := ⟨y.wl, x.k.trans y.k⟩
theorem Dn.new {a p : Addr} {m : Nat} {H H' : Hp} {o : HO} (x : Dn a m H H') (hp : H' p = none) : Dn a m H (upd H' p o) := ⟨x.wl.new hp, x.k.new hp⟩
theorem Dn.mono {a : Addr} {m n : Nat} {H H' : Hp} (x : Dn a m H H') (l : m ≤ n) : Dn a n H H' := ⟨x.wl.mono l, x.k⟩
theorem Dn.at {a b : Addr} {m : Nat} {H H' : Hp} {o : HO} (d : Dn a m H H') (h : H b = some o) (n : b ≠ a) : H' b = some o := d.k b o n h
theorem Dn.rd {a b : Addr} {m : Nat} {H H' : Hp} {u : HO} (d : Dn a m H H') (h : Rd H b u) (n : b ≠ a) : Rd H' b u := by
  rcases h with h | ⟨o, h⟩
  · exact .inl (d.k b _ n h)
  · exact .inr ⟨o, d.k b _ n h⟩
theorem Dn.sql {K : PySem.W.Frag} {a b : Addr} {m : Nat} {H H' : Hp} {xs : List V} (d : Dn a m H H') (h : SqL K H b xs) (n : b ≠ a) : SqL K H' b xs := by
  rcases h with h | h
  · exact .inl (d.rd h n)
  · exact .inr h
theorem Dn.sqt {K : PySem.W.Frag} {a b : Addr} {m : Nat} {H H' : Hp} {xs : List V} (d : Dn a m H H') (h : SqT K H b xs) (n : b ≠ a) : SqT K H' b xs := by
  rcases h with h | h
  · exact .inl (d.rd h n)
  · exact .inr h
theorem log2_small_of {m : Nat} (h : m < 2 ^ 64) : m.log2 < 9000 := by
  by_cases h0 : m = 0
  · subst h0
    decide
  · exact Nat.lt_of_lt_of_le ((Nat.log2_lt h0).mpr h) (by decide)
/-- the promise of a draw -/
def spDraw : Sp := fun vs H Q _ => ∃ (a : Addr) (n : Nat) (m : Int), vs = [.ref a, .int m] ∧ Wl H a n ∧ n < 1000000 ∧ 0 < m ∧ m.natAbs.log2 < 9000 ∧
  ∀ (d : Int) (H' : Hp), 0 ≤ d → d < m → Dn a (n + 1) H H' → Q (.int d) H'
/-- the promise of a well -/
def spWell : Sp := fun vs H Q _ => ∃ z : Int, vs = [.int z] ∧ ∀ (a : Addr) (H' : Hp), H a = none → Wl H' a 0 → Evl.Ex H H' → Q (.ref a) H'
/-- one of some: the item at a drawn place -/
def spOne (K : PySem.W.Frag) : Sp := fun vs H Q _ => ∃ (a l : Addr) (n : Nat) (xs : List V), vs = [.ref a, .ref l] ∧ Wl H a n ∧ n < 1000000 ∧ SqL K H l xs ∧ l ≠ a ∧ 0 < xs.length ∧ xs.length ≤ 1000000 ∧
  ∀ (v : V) (H' : Hp), v ∈ xs → Dn a (n + 1) H H' → Q v H'
end TP

namespace TP
open PySem PySem.Spec PyProof.Rows L2

/-! ### the heap without one object -/
def hid (a : Addr) (H : Hp) : Hp := fun b => if b = a then none else H b
theorem hid_ne {a b : Addr} {H : Hp} (h : b ≠ a) : hid a H b = H b := if_neg h
theorem hid_same {a : Addr} {H : Hp} : hid a H a = none := if_pos rfl
theorem hid_ex {a : Addr} {H : Hp} : Evl.Ex (hid a H) H := fun b o h => by
  by_cases e : b = a
  · rw [e, hid_same] at h
    cases h
  · rwa [hid_ne e] at h
theorem hid_of {a b : Addr} {H : Hp} {o : HO} (h : H b = some o) (n : b ≠ a) : hid a H b = some o := by rw [hid_ne n]; exact h
theorem Wk.hx {a : Addr} {H H' : Hp} (k : Wk a H H') : Evl.Ex (hid a H) (hid a H') := fun b o h => by
  by_cases e : b = a
  · rw [e, hid_same] at h
    cases h
  · rw [hid_ne e] at h ⊢
    exact k b o e h
theorem Dn.hx {a : Addr} {m : Nat} {H H' : Hp} (d : Dn a m H H') : Evl.Ex (hid a H) (hid a H') := d.k.hx
theorem hid_new {a p : Addr} {H : Hp} {o : HO} (hp : H p = none) : Evl.Ex (hid a H) (hid a (upd H p o)) := (Wk.new (Wk.refl a H) hp).hx
theorem hid_at {a p : Addr} {H : Hp} {o : HO} (n : p ≠ a) : hid a (upd H p o) p = some o := by rw [hid_ne n, upd_same]
theorem Wl.nep {H : Hp} {a p : Addr} {n : Nat} (h : Wl H a n) (hp : H p = none) : p ≠ a := fun e => by
  obtain ⟨o, ho⟩ := h.some
  rw [e, ho] at hp
  cases hp
theorem Ex.wl {H H' : Hp} {a : Addr} {n : Nat} (e : Evl.Ex H H') (h : Wl H a n) : Wl H' a n := by
  obtain ⟨x, y, c, ea, r⟩ := h
  exact ⟨x, y, c, e _ _ ea, r⟩
theorem Ex.wk {H H' : Hp} (a : Addr) (e : Evl.Ex H H') : Wk a H H' := fun b o _ h => e b o h
theorem Ex.free {H H' : Hp} {p : Addr} (e : Evl.Ex H H') (h : H' p = none) : H p = none := by
  cases q : H p with
  | none => rfl
  | some o =>
    rw [e p o q] at h
    cases h

/-! ### things over larger heaps -/
mutual
theorem Dr.ex {K : PySem.W.Frag} {H H' : Hp} (x : Evl.Ex H H') : ∀ (d : PyData) (v : V), Dr K H v d → Dr K H' v d
  | .none, _, h => by cases h; exact .non
  | .bool _, _, h => by cases h; exact .bl _
  | .int _, _, h => by cases h; exact .int _
  | .str _, _, h => by cases h; exact .str _
  | .list ds, _, h => by
    cases h with
    | lst a b => exact .lst (Evl.ex_l x a) (DrAll.ex x ds _ b)
  | .tuple ds, _, h => by
    cases h with
    | tup a b => exact .tup (Evl.ex_t x a) (DrAll.ex x ds _ b)
  | .dict ds, _, h => by
    cases h with
    | dct a b => exact .dct (x _ _ a) (DrKv.ex x ds _ b)
theorem DrAll.ex {K : PySem.W.Frag} {H H' : Hp} (x : Evl.Ex H H') : ∀ (ds : List PyData) (vs : List V), DrAll K H vs ds → DrAll K H' vs ds
  | [], _, h => by cases h; exact .nil
  | d :: ds, _, h => by
    cases h with
    | cons a b => exact .cons (Dr.ex x d _ a) (DrAll.ex x ds _ b)
theorem DrKv.ex {K : PySem.W.Frag} {H H' : Hp} (x : Evl.Ex H H') : ∀ (ds : List (PyData × PyData)) (vs : List (Key × V)), DrKv K H vs ds → DrKv K H' vs ds
  | [], _, h => by cases h; exact .nil
  | (_, d) :: ds, _, h => by
    cases h with
    | cons a b => exact .cons (Dr.ex x d _ a) (DrKv.ex x ds _ b)
end
/-- the name of a thing's class -/
def tyN : PyData → String
  | .none => "NoneType"
  | .bool _ => "bool"
  | .int _ => "int"
  | .str _ => "str"
  | .list _ => "list"
  | .tuple _ => "tuple"
  | .dict _ => "dict"
theorem Dr.ty {K : PySem.W.Frag} {H : Hp} {v : V} {d : PyData} (h : Dr K H v d) : TyX K H v (.type (tyN d)) := by
  cases h with
  | non => exact .base .non
  | bl b => exact .base (.bl b)
  | int i => exact .base (.int i)
  | str x => exact .base (.str x)
  | lst a b =>
    rcases a with (a | ⟨o, a⟩) | a
    · exact .base (.lst a)
    · exact .base (.frz a)
    · obtain ⟨o, its, n, h1, h2, _⟩ := a
      exact .kList h1 h2
  | tup a b =>
    rcases a with (a | ⟨o, a⟩) | a
    · exact .base (.tup a)
    · exact .fTuple a
    · obtain ⟨o, its, n, h1, h2, _⟩ := a
      exact .kTuple h1 h2
  | dct a b => exact .base (.dK a)
/-- isinstance of such a thing -/
def tyNs : List String := ["NoneType", "bool", "int", "str", "list", "tuple", "dict"]
theorem tyN_mem (d : PyData) : tyN d ∈ tyNs := by cases d <;> (unfold tyN tyNs; simp)
theorem kit_tab : ∀ t ∈ tyNs, ∀ c ∈ ["str", "tuple", "list", "dict", "bool"], kitB t c = some (decide (t = c)) := by decide +kernel
theorem kit_tabI : ∀ t ∈ tyNs, kitB t "int" = some (decide (t = "int" ∨ t = "bool")) := by decide +kernel
theorem kit_thing {K : PySem.W.Frag} (d : PyData) {c : String} (hc : c ∈ ["str", "tuple", "list", "dict", "bool"] := by simp) : PySem.W.kitOne K (.type (tyN d)) (.type c) = some (decide (tyN d = c)) :=
  kit_ty (kit_tab _ (tyN_mem d) _ hc)
theorem kit_int {K : PySem.W.Frag} (d : PyData) : PySem.W.kitOne K (.type (tyN d)) (.type "int") = some (decide (tyN d = "int" ∨ tyN d = "bool")) := kit_ty (kit_tabI _ (tyN_mem d))

/-! ### how long what is shown is -/
mutual
def wt : PyData → Nat
  | .none => 4
  | .bool _ => 5
  | .int i => (PyData.shown (.int i)).length
  | .str x => (reprText x).length
  | .list xs => wtAll xs + 3
  | .tuple xs => wtAll xs + 3
  | .dict kvs => wtKv kvs + 3
def wtAll : List PyData → Nat
  | [] => 0
  | x :: xs => wt x + 2 + wtAll xs
def wtKv : List (PyData × PyData) → Nat
  | [] => 0
  | (k, v) :: r => wt k + wt v + 4 + wtKv r
end
mutual
theorem shown_wt : ∀ d : PyData, d.shown.length ≤ wt d
  | .none => by rw [PyData.shown_none, wt]; decide
  | .bool b => by rw [PyData.shown_bool, wt]; cases b <;> decide
  | .int i => by rw [wt]; exact Nat.le_refl _
  | .str x => by rw [PyData.shown_str, wt]; exact Nat.le_refl _
  | .list xs => by
    have h := shownAll_wt xs
    have e : (PyData.list xs).shown = listText (PyData.shownAll xs) := by rw [PyData.shown_list, listText_eq_join]
    have q := listText_len_le (PyData.shownAll xs)
    rw [e, wt]
    rw [PyData.shownAll_length] at q
    omega
  | .tuple xs => by
    have h := shownAll_wt xs
    have e : (PyData.tuple xs).shown = tupleText (PyData.shownAll xs) := by
      rw [PyData.shown_tuple]
      unfold tupleText
      rw [PyData.shownAll_length]
    have q := tupleText_len_le (PyData.shownAll xs)
    rw [e, wt]
    rw [PyData.shownAll_length] at q
    omega
  | .dict kvs => by
    have h := shownKv_wt kvs
    have e : (PyData.dict kvs).shown = dictText (PyData.shownKv kvs) := by rw [PyData.shown_dict]; rfl
    have q := dictText_len_le (PyData.shownKv kvs)
    rw [e, wt]
    rw [PyData.shownKv_length] at q
    omega
theorem shownAll_wt : ∀ xs : List PyData, ((PyData.shownAll xs).map (·.length)).sum + 2 * xs.length ≤ wtAll xs
  | [] => by rw [PyData.shownAll_nil]; simp [wtAll]
  | x :: xs => by
    have h1 := shown_wt x
    have h2 := shownAll_wt xs
    rw [PyData.shownAll_cons, wtAll, List.map_cons, List.sum_cons, List.length_cons]
    omega
theorem shownKv_wt : ∀ kvs : List (PyData × PyData), ((PyData.shownKv kvs).map (·.length)).sum + 2 * kvs.length ≤ wtKv kvs
  | [] => by rw [PyData.shownKv_nil]; simp [wtKv]
  | (k, v) :: r => by
    have h1 := shown_wt k
    have h2 := shown_wt v
    have h3 := shownKv_wt r
    have e : (": " : Str).length = 2 := by decide
    rw [PyData.shownKv_cons, wtKv, List.map_cons, List.sum_cons, List.length_cons, strLen_append, strLen_append, e]
    omega
end
/-- small things: shown by at most B signs, at most 20 deep -/
structure Sm (B : Nat) (d : PyData) : Prop where
  sh : d.showable = true
  wt : wt d ≤ B
  dp : d.depth ≤ 20
theorem Sm.mono {B C : Nat} {d : PyData} (h : Sm B d) (l : B ≤ C) : Sm C d := ⟨h.sh, Nat.le_trans h.wt l, h.dp⟩
theorem Sm.rp {B : Nat} {d : PyData} (h : Sm B d) (hb : B ≤ 1000000 := by decide) : d.showable = true ∧ d.depth ≤ 50 ∧ d.shown.length ≤ sizeLine :=
  ⟨h.sh, Nat.le_trans h.dp (by decide), Nat.le_trans (shown_wt d) (Nat.le_trans h.wt (Nat.le_trans hb (by decide)))⟩
theorem Sm.repr {K : PySem.W.Frag} {B : Nat} {d : PyData} {H : Hp} {v : V} {Q : VK} (h : Sm B d) (hb : B ≤ 1000000) (hd : Dr K H v d) (q : Q (.str d.shown) H) : rRepr K [v] H Q :=
  ⟨v, d, rfl, hd, h.sh, Nat.le_trans h.dp (by decide), Nat.le_trans (shown_wt d) (Nat.le_trans h.wt (Nat.le_trans hb (by decide))), q⟩

/-! ### texts -/
def rRepS : R2 := fun x y H Q => ∃ (z : Str) (n : Int), x = .str z ∧ y = .int n ∧ z.length ≤ 1000 ∧ 0 ≤ n ∧ n ≤ 1000 ∧ Q (.str (Txt.mul z n)) H
theorem op_repS {X : Cx} : OpR X (binaryOp .Mult) rRepS := by
  intro pins s σ H x y v u Q I rx ry h
  obtain ⟨z, n, rfl, rfl, hz, h0, h1, q⟩ := h
  obtain ⟨t, rfl⟩ := rx
  obtain ⟨t', rfl⟩ := ry
  refine SB.mul ⟨?_, fun a _ => ?_, fun a _ => ?_⟩ fun t' k => ⟨.str _, H, I.tok k, ⟨_, rfl⟩, q⟩
  · simp only [Bool.or_eq_false_iff, decide_eq_false_iff_not]
    omega
  · have : (1000 : Int) ≤ (2 ^ 63 - 1) / n := by
      rw [Int.le_ediv_iff_mul_le (by omega)]
      omega
    omega
  · have hm : z.length * n.toNat ≤ 1000 * 1000 := Nat.mul_le_mul hz (by omega)
    unfold Builtin.Str.tooLong
    simp only [decide_eq_false_iff_not]
    have : sizeLine = 16777216 := sizeLine_eq
    omega
end TP

namespace TP
open PySem PySem.Spec PyProof.Rows L2

/-! ### names -/
def LT : Str := "abcdefghijklmnopqrstuvwxyz"
theorem LT_list : LT.cps.toList = [97, 98, 99, 100, 101, 102, 103, 104, 105, 106, 107, 108, 109, 110, 111, 112, 113, 114, 115, 116, 117, 118, 119, 120, 121, 122] := by decide +kernel
theorem LT_mem {c : Nat} : c ∈ LT.cps.toList ↔ 97 ≤ c ∧ c ≤ 122 := by
  rw [LT_list]
  simp only [List.mem_cons, List.not_mem_nil, or_false]
  omega
def isNm (z : Str) : Bool := decide (1 ≤ z.length) && (decide (z.length ≤ 8) && z.cps.toList.all fun c => decide (c ∈ LT.cps.toList))
structure NmP (z : Str) : Prop where
  lo : 1 ≤ z.length
  hi : z.length ≤ 8
  sg : ∀ c ∈ z.cps.toList, c ∈ LT.cps.toList
theorem isNm_iff {z : Str} : isNm z = true ↔ NmP z := by
  unfold isNm
  simp only [Bool.and_eq_true, decide_eq_true_eq, List.all_eq_true]
  exact ⟨fun h => ⟨h.1, h.2.1, h.2.2⟩, fun h => ⟨h.lo, h.hi, h.sg⟩⟩
def isNmD : PyData → Bool
  | .str z => isNm z
  | _ => false
def isAdD : PyData → Bool
  | .tuple [a, b] => isNmD a && isNmD b
  | _ => false
theorem strLen (z : Str) : z.length = z.cps.toList.length := by show z.cps.size = _; simp
theorem NmP.short {z : Str} (h : NmP z) : (reprText z).length ≤ 82 := by
  have := StrLaws.reprText_len z (fun c hc => by have := LT_mem.mp (h.sg c hc); omega)
  have := h.hi
  omega
/-- the promise of a drawn name -/
def spName : Sp := fun vs H Q _ => ∃ (a : Addr) (n : Nat), vs = [.ref a] ∧ Wl H a n ∧ n < 900000 ∧ ∀ (z : Str) (H' : Hp), NmP z → Dn a (n + 20) H H' → Q (.str z) H'
/-- is_name(x), x any thing -/
def spIsName (K : PySem.W.Frag) : Sp := fun vs H Q _ => ∃ (x : V) (d : PyData), vs = [x] ∧ Dr K H x d ∧ (∀ z, d = .str z → z.length ≤ 1000000) ∧ ∀ H', Evl.Ex H H' → Q (.bl (isNmD d)) H'
def spIsAddr (K : PySem.W.Frag) : Sp := fun vs H Q _ => ∃ (x : V) (d : PyData), vs = [x] ∧ Dr K H x d ∧ (∀ ds, d = .tuple ds → ∀ e ∈ ds, ∀ z, e = .str z → z.length ≤ 1000000) ∧ ∀ H', Evl.Ex H H' → Q (.bl (isAdD d)) H'
theorem Dr.str_of {K : PySem.W.Frag} {H : Hp} {x : V} {d : PyData} (h : Dr K H x d) (e : tyN d = "str") : ∃ z, x = .str z ∧ d = .str z := by
  cases h with
  | str z => exact ⟨z, rfl, rfl⟩
  | non => exact (by simp [tyN] at e)
  | bl b => exact (by simp [tyN] at e)
  | int i => exact (by simp [tyN] at e)
  | lst a b => exact (by simp [tyN] at e)
  | tup a b => exact (by simp [tyN] at e)
  | dct a b => exact (by simp [tyN] at e)
theorem Dr.tup_of {K : PySem.W.Frag} {H : Hp} {x : V} {d : PyData} (h : Dr K H x d) (e : tyN d = "tuple") : ∃ a xs ds, x = .ref a ∧ d = .tuple ds ∧ SqT K H a xs ∧ DrAll K H xs ds := by
  cases h with
  | tup a b => exact ⟨_, _, _, rfl, rfl, a, b⟩
  | non => exact (by simp [tyN] at e)
  | bl b => exact (by simp [tyN] at e)
  | int i => exact (by simp [tyN] at e)
  | lst a b => exact (by simp [tyN] at e)
  | str z => exact (by simp [tyN] at e)
  | dct a b => exact (by simp [tyN] at e)
theorem isNmD_no {d : PyData} (h : ¬ tyN d = "str") : isNmD d = false := by
  cases d <;> first | rfl | exact absurd rfl h
theorem isAdD_no {d : PyData} (h : ¬ tyN d = "tuple") : isAdD d = false := by
  cases d <;> first | rfl | exact absurd rfl h
theorem DrAll.len {K : PySem.W.Frag} {H : Hp} : ∀ {xs : List V} {ds : List PyData}, DrAll K H xs ds → xs.length = ds.length
  | _, _, .nil => rfl
  | _, _, .cons _ h => by rw [List.length_cons, List.length_cons, DrAll.len h]
theorem DrAll.at {K : PySem.W.Frag} {H : Hp} : ∀ {xs : List V} {ds : List PyData} {i : Nat} {x : V}, DrAll K H xs ds → xs[i]? = some x → ∃ d, ds[i]? = some d ∧ Dr K H x d
  | _, _, 0, _, .cons h _, e => by
    cases e
    exact ⟨_, rfl, h⟩
  | _, _, i + 1, _, .cons _ h, e => by
    obtain ⟨d, h1, h2⟩ := DrAll.at (i := i) h (by simpa using e)
    exact ⟨d, by simpa using h1, h2⟩
theorem atC_of {cs : List Nat} {z : Int} {j : Nat} {v : Nat} (e : z = (j : Int)) (h : cs[j]? = some v) : atI cs z = some v := by
  rw [e]
  exact atI_nat h
theorem emp_codes {c : Nat} (h : c ∈ ("" : Str).cps.toList) : False := by
  have e : ("" : Str).cps.toList = [] := by decide +kernel
  rw [e] at h
  cases h
theorem app_codes (x y : Str) : (x ++ y).cps.toList = x.cps.toList ++ y.cps.toList := by
  show (x.cps ++ y.cps).toList = _
  simp
/-! ### short plain texts -/
structure As (B : Nat) (z : Str) : Prop where
  len : z.length ≤ B
  sg : ∀ c ∈ z.cps.toList, c < 128
theorem As.mono {B C : Nat} {z : Str} (h : As B z) (l : B ≤ C) : As C z := ⟨Nat.le_trans h.len l, h.sg⟩
theorem NmP.as {z : Str} (h : NmP z) : As 8 z := ⟨h.hi, fun c hc => by have := LT_mem.mp (h.sg c hc); omega⟩
theorem As.app {B C : Nat} {x y : Str} (h : As B x) (g : As C y) : As (B + C) (x ++ y) := ⟨by rw [strLen_append]; exact Nat.add_le_add h.len g.len, fun c hc => by
  rw [app_codes] at hc
  exact (List.mem_append.mp hc).elim (h.sg c) (g.sg c)⟩
theorem cutS_codes (z : Str) (lo hi : Option Int) : (cutS z lo hi).cps.toList = ((z.cps.toList.drop (HT.sIx z.length 0 lo)).take (HT.sIx z.length z.length hi - HT.sIx z.length 0 lo)) := by
  unfold cutS
  rfl
theorem As.cut {B : Nat} {z : Str} (h : As B z) (lo hi : Option Int) : As B (cutS z lo hi) := ⟨by
    have := h.len
    rw [strLen, cutS_codes, List.length_take, List.length_drop, ← strLen]
    omega, fun c hc => by
    rw [cutS_codes] at hc
    exact h.sg c (List.mem_of_mem_drop (List.mem_of_mem_take hc))⟩
theorem mul2 (z : Str) : Txt.mul z 2 = if (z.length == 0) = true then z else z ++ z := by
  unfold Txt.mul
  rw [if_neg (by decide)]
  by_cases h : (z.length == 0) = true
  · rw [if_pos (by rw [h]; rfl), if_pos h]
  · rw [if_neg (by simpa using h), if_neg h]
    show (⟨(#[] ++ z.cps) ++ z.cps⟩ : Str) = ⟨z.cps ++ z.cps⟩
    simp
theorem As.two {B : Nat} {z : Str} (h : As B z) : As (B + B) (Txt.mul z 2) := by
  rw [mul2]
  by_cases e : (z.length == 0) = true
  · rw [if_pos e]
    exact h.mono (by omega)
  · rw [if_neg e]
    exact h.app h
theorem As.size {B : Nat} {z : Str} (h : As B z) (l : B ≤ 1000000) : z.length ≤ sizeLine := Nat.le_trans (Nat.le_trans h.len l) (by decide)
theorem As.short {B : Nat} {z : Str} (h : As B z) : (reprText z).length ≤ 10 * B + 2 := by
  have := StrLaws.reprText_len z (fun c hc => Nat.lt_of_lt_of_le (h.sg c hc) (by decide))
  have := h.len
  omega
theorem As.one {c : Nat} (h : c < 128) : As 1 ⟨#[c]⟩ := ⟨Nat.le_refl _, fun d hd => by
  have : d = c := by simpa using hd
  omega⟩
/-! ### things of a law -/
def Sh (d : PyData) : Prop := ∀ z, d = .str z → As 1000000 z
def ShA (d : PyData) : Prop := ∀ ds, d = .tuple ds → ∀ e ∈ ds, Sh e
structure ThP (B : Nat) (d : PyData) : Prop where
  sm : Sm B d
  sh : Sh d
  sa : ShA d
theorem ThP.mono {B C : Nat} {d : PyData} (h : ThP B d) (l : B ≤ C) : ThP C d := ⟨h.sm.mono l, h.sh, h.sa⟩
theorem Sm.str {B : Nat} {z : Str} (h : As B z) : Sm (10 * B + 2) (.str z) := ⟨rfl, by rw [TP.wt]; exact h.short, by rw [PyData.depth]; decide⟩
theorem ThP.str {B : Nat} {z : Str} (h : As B z) (l : B ≤ 1000000) : ThP (10 * B + 2) (.str z) := ⟨Sm.str h, fun y e => by cases e; exact h.mono l, fun _ e => nomatch e⟩
theorem smallInt {i : Int} (h : i.natAbs < 2 ^ 64) : (PyData.int i).showable = true := by
  show decide (i.natAbs.log2 < 1920) = true
  refine decide_eq_true ?_
  by_cases h0 : i.natAbs = 0
  · rw [h0]
    decide
  · exact Nat.lt_of_lt_of_le ((Nat.log2_lt h0).mpr h) (by decide)
theorem dpStrs {K : PySem.W.Frag} {H : Hp} {α : Type} (g : α → Str) : ∀ l : List α, DpAll K H (l.map fun i => V.str (g i)) (l.map fun i => PyData.str (g i))
  | [] => .nil
  | _ :: l => .cons (.str _) (dpStrs g l)
theorem canStrs {α : Type} (g : α → Str) (hg : ∀ i, PyData.strOk (g i) = true) : ∀ l : List α, PyData.canLayAll0 (l.map fun i => PyData.str (g i)) = true
  | [] => rfl
  | i :: l => by
    show (PyData.canLay0 (.str (g i)) && PyData.canLayAll0 (l.map fun i => PyData.str (g i))) = true
    rw [canStrs g hg l, show PyData.canLay0 (.str (g i)) = true from hg i]
    rfl
theorem depthStrs {α : Type} (g : α → Str) : ∀ l : List α, PyData.depthAll (l.map fun i => PyData.str (g i)) = 0
  | [] => rfl
  | _ :: l => by
    show max 0 (PyData.depthAll _) = 0
    rw [depthStrs g l]
    rfl
theorem shapedStrs {α : Type} (g : α → Str) (hg : ∀ i, PyData.strOk (g i) = true) (l : List α) : SeqAt.shaped (.list (l.map fun i => PyData.str (g i))) = true := by
  unfold SeqAt.shaped
  rw [show PyData.canLay0 (.list (l.map fun i => PyData.str (g i))) = true from canStrs g hg l, show (PyData.list (l.map fun i => PyData.str (g i))).depth = PyData.depthAll (l.map fun i => PyData.str (g i)) + 1 from rfl, depthStrs]
  decide
theorem eqv_nil (l : List PyData) : PyData.eqv (.list l) (.list []) = l.isEmpty := by
  cases l <;> rfl
/-! ### comprehensions whose elements leave what was told -/
theorem range_filter_succ (p : Nat → Bool) (i : Nat) : (List.range (i + 1)).filter p = (List.range i).filter p ++ (if p i = true then [i] else []) := by
  rw [List.range_succ, List.filter_append]
  congr 1
  by_cases h : p i = true
  · rw [if_pos h]; simp [h]
  · rw [if_neg h]; simp [h]
theorem lc_fm {J : It} {n : Nat} {G : Hp → Prop} {Y : Nat → Hp → V → Hp → Prop} (w : Walk J n G Y) {g : TG} {tt : TT} {te : TE} {vs : List Nat} {σ : L2.St} {H1 : Hp} {D : Addr} {Qd : Hp → Prop} (p : Nat → Bool) (F : Nat → V)
    (hD : H1 D = none) (hn : n < 1000000) (hG : ∀ H, Evl.Ex H1 H → G H)
    (hs : ∀ (i : Nat) (x : V) (H H' : Hp) (C : V → Hp → Prop) (N : Hp → Prop), i < n → Evl.Ex H1 H → Y i H x H' → (p i = true → ∀ H4, Evl.Ex H H4 → C (F i) H4) → (p i = false → ∀ H3, Evl.Ex H H3 → N H3) →
      g x (wipe σ vs) H' fun σ2 H2 => wipe σ2 vs = wipe σ vs ∧ tt σ2 H2 fun b H3 => if b = true then te σ2 H3 C else N H3)
    (hd : ∀ H', Evl.Ex H1 H' → H' D = some (.lst (((List.range n).filter p).map F)) → Qd H') :
    ∃ W : Nat → Nat → Hp → Prop, (∃ m, W 0 m (upd H1 D (.lst []))) ∧ ∀ i m H, W i m H →
      (J.stop i H ∧ Qd H) ∨ (J.go i H ∧ ∃ Nx : Hp → Prop, (∀ H', Nx H' → ∃ m', m' < m ∧ W (i + 1) m' H') ∧ ∀ x H', J.yld i H x H' → g x (wipe σ vs) H' fun σ2 H2 => wipe σ2 vs = wipe σ vs ∧ tt σ2 H2 fun b H3 =>
        if b = true then te σ2 H3 fun y H4 => ∃ acc, H4 D = some (.lst acc) ∧ acc.length < sizeLine ∧ Nx (upd H4 D (.lst (acc ++ [y]))) else Nx H3) := by
  refine lc_it w (fun i H => Evl.Ex H1 H ∧ H D = some (.lst (((List.range i).filter p).map F))) ⟨Evl.Ex.new hD, upd_same⟩ (fun i H _ q => hG H q.1) (fun i x H H' hi q y => ?_) (fun H q => hd H q.1 q.2)
  refine hs i x H H' _ _ hi q.1 y (fun hp H4 e => ⟨_, e _ _ q.2, ?_, fun b o hb => ?_, ?_⟩) (fun hp H3 e => ⟨q.1.trans e, ?_⟩)
  · have h1 : (((List.range i).filter p).map F).length ≤ i := by
      rw [List.length_map]
      exact Nat.le_trans (List.length_filter_le _ _) (by rw [List.length_range]; exact Nat.le_refl _)
    have : sizeLine = 16777216 := sizeLine_eq
    omega
  · rw [upd_ne (ne_of_none hb hD)]
    exact e _ _ (q.1 _ _ hb)
  · rw [upd_same, range_filter_succ, if_pos hp, List.map_append]
    rfl
  · rw [e _ _ q.2, range_filter_succ, if_neg (by rw [hp]; exact Bool.false_ne_true), List.append_nil]
theorem range_map_get {α β : Type} (f : α → β) (d : α) : ∀ l : List α, (List.range l.length).map (fun i => f (l.getD i d)) = l.map f := fun l => by
  refine List.ext_getElem (by simp) fun i h1 h2 => ?_
  simp at h1
  simp [h1]
theorem none_amiss (l : List Nat) (f : Nat → Bool) : (((List.range l.length).filter fun i => !f (l.getD i 0)).isEmpty) = l.all f := by
  have e : l.all f = ((List.range l.length).map fun i => f (l.getD i 0)).all id := by rw [range_map_get, List.all_map]; rfl
  rw [e, List.all_map]
  cases h : ((List.range l.length).filter fun i => !f (l.getD i 0)) with
  | nil =>
    have h2 := List.filter_eq_nil_iff.mp h
    refine (List.all_eq_true.mpr fun i hi => ?_).symm
    have := h2 i hi
    simpa using this
  | cons j r =>
    have hj : j ∈ (List.range l.length).filter fun i => !f (l.getD i 0) := by rw [h]; exact List.mem_cons_self
    obtain ⟨h1, h2⟩ := List.mem_filter.mp hj
    symm
    refine Bool.eq_false_iff.mpr fun q => ?_
    have := List.all_eq_true.mp q j h1
    simp at h2 this
    rw [this] at h2
    cases h2
theorem cut_mem {xs : List V} {lo hi : Option Int} {x : V} (h : x ∈ cutV xs lo hi) : x ∈ xs := by
  unfold cutV at h
  exact List.mem_of_mem_drop (List.mem_of_mem_take h)
theorem cells_int {ns : List Int} {lo hi : Option Int} {i : Nat} {x : V} (h : (cutV (ns.map V.int) lo hi ++ [.int 0, .int 1])[i]? = some x) : ∃ z, x = .int z := by
  rcases List.mem_append.mp (List.mem_of_getElem? h) with q | q
  · obtain ⟨z, _, rfl⟩ := List.mem_map.mp (cut_mem q)
    exact ⟨z, rfl⟩
  · simp only [List.mem_cons, List.not_mem_nil, or_false] at q
    rcases q with rfl | rfl
    · exact ⟨0, rfl⟩
    · exact ⟨1, rfl⟩
theorem cells_len {ns : List Int} {lo hi : Option Int} (h : ns.length ≤ 63) : (cutV (ns.map V.int) lo hi).length + [V.int 0, V.int 1].length ≤ sizeLine := by
  have h1 := cutV_length (ns.map V.int) lo hi
  rw [List.length_map] at h1
  have : sizeLine = 16777216 := sizeLine_eq
  show _ + 2 ≤ _
  omega
theorem ThP.tup2 {B C : Nat} {a b : PyData} (ha : ThP B a) (hb : ThP C b) (l1 : a.depth ≤ 10) (l2 : b.depth ≤ 10) : ThP (B + C + 7) (.tuple [a, b]) := by
  refine ⟨⟨?_, ?_, ?_⟩, fun _ e => (nomatch e), fun ds e d hd => ?_⟩
  · show (a.showable && (b.showable && true)) = true
    rw [ha.sm.sh, hb.sm.sh]
    rfl
  · have h1 := ha.sm.wt
    have h2 := hb.sm.wt
    simp only [wt, wtAll]
    omega
  · simp only [PyData.depth, PyData.depthAll]
    omega
  · cases e
    simp only [List.mem_cons, List.not_mem_nil, or_false] at hd
    rcases hd with rfl | rfl
    · exact ha.sh
    · exact hb.sh
theorem filter_yes (n : Nat) : (List.range n).filter (fun _ => true) = List.range n := List.filter_eq_self.mpr fun _ _ => rfl
theorem yes_ok {σ : L2.St} {H : Hp} {te : TE} {C : V → Hp → Prop} {N : Hp → Prop} (h : te σ H C) : tYes σ H fun b H3 => if b = true then te σ H3 C else N H3 := by
  show if true = true then te σ H C else N H
  rw [if_pos rfl]
  exact h
theorem iteYes {A B : Prop} (h : A) : if true = true then A else B := by rw [if_pos rfl]; exact h
end TP

namespace Lw
open PySem PySem.Spec PyProof.Rows L2 TP
/-! ### the text by places (written by gen.py) -/
def top (i : Nat) : Stmt := PySem.Challenge.pw_trailpost_k01_names_of_anything.main.body.getD i (.Pass ⟨0, 0, 0, 0⟩)
abbrev s_is_name : Stmt := (top 3)
abbrev s_is_address : Stmt := (top 4)
abbrev s_well : Stmt := (top 6)
abbrev s_draw : Stmt := (top 7)
abbrev s_one : Stmt := (top 8)
abbrev s_name : Stmt := (top 9)
abbrev s_law_names : Stmt := (top 10)
abbrev s_law_signs : Stmt := (top 11)
abbrev s_law_thing : Stmt := (top 12)
abbrev s_law_is_name : Stmt := (top 13)
abbrev s_law_is_address : Stmt := (top 14)
abbrev s_law : Stmt := (top 15)
/-! ### what each def is -/
def d_is_name : He.DefD := ⟨("is_name", none), "is_name", "is_name", defArgs s_is_name, defBody s_is_name, defScope s_is_name, [], []⟩
def d_is_address : He.DefD := ⟨("is_address", none), "is_address", "is_address", defArgs s_is_address, defBody s_is_address, defScope s_is_address, [], []⟩
def d_well : He.DefD := ⟨("_law_well", none), "_law_well", "_law_well", defArgs s_well, defBody s_well, defScope s_well, [], []⟩
def d_draw : He.DefD := ⟨("_law_draw", none), "_law_draw", "_law_draw", defArgs s_draw, defBody s_draw, defScope s_draw, [], []⟩
def d_one : He.DefD := ⟨("_law_one", none), "_law_one", "_law_one", defArgs s_one, defBody s_one, defScope s_one, [], []⟩
def d_name : He.DefD := ⟨("_law_name", none), "_law_name", "_law_name", defArgs s_name, defBody s_name, defScope s_name, [], []⟩
def d_law_names : He.DefD := ⟨("_law_names", none), "_law_names", "_law_names", defArgs s_law_names, defBody s_law_names, defScope s_law_names, [], []⟩
def d_law_signs : He.DefD := ⟨("_law_signs", none), "_law_signs", "_law_signs", defArgs s_law_signs, defBody s_law_signs, defScope s_law_signs, [], []⟩
def d_law_thing : He.DefD := ⟨("_law_thing", none), "_law_thing", "_law_thing", defArgs s_law_thing, defBody s_law_thing, defScope s_law_thing, [], []⟩
def d_law_is_name : He.DefD := ⟨("_law_is_name", none), "_law_is_name", "_law_is_name", defArgs s_law_is_name, defBody s_law_is_name, defScope s_law_is_name, [], []⟩
def d_law_is_address : He.DefD := ⟨("_law_is_address", none), "_law_is_address", "_law_is_address", defArgs s_law_is_address, defBody s_law_is_address, defScope s_law_is_address, [], []⟩
def d_law : He.DefD := ⟨("law", none), "law", "law", defArgs s_law, defBody s_law, defScope s_law, [], []⟩
def fn : List He.DefD := [d_is_name, d_is_address, d_well, d_draw, d_one, d_name, d_law_names, d_law_signs, d_law_thing, d_law_is_name, d_law_is_address, d_law]
def fa : List He.Fa := [.glo "is_name", .glo "is_address", .glo "_law_well", .glo "_law_draw", .glo "_law_one", .glo "_law_name", .glo "_law_names", .glo "_law_signs", .glo "_law_thing", .glo "_law_is_name", .glo "_law_is_address", .glo "law", .free "all", .free "bool", .free "int", .free "isinstance", .free "len", .free "range", .free "repr", .free "str", .free "tuple", .str "LETTERS" "abcdefghijklmnopqrstuvwxyz", .int "MOST_LETTERS" 8]
def ex (K : PySem.W.Frag) : Bool := sysB K
abbrev TX (K : PySem.W.Frag) (mg : Str → Option Value) : Prop := Tx fa fn ex K mg
section
variable {K : PySem.W.Frag} {mg : Str → Option Value} (T : TX K mg)
include T
theorem g_is_name : mg "is_name" = some (.ref (He.ga K "is_name")) := Tx.glo T 0
theorem g_is_address : mg "is_address" = some (.ref (He.ga K "is_address")) := Tx.glo T 1
theorem g_well : mg "_law_well" = some (.ref (He.ga K "_law_well")) := Tx.glo T 2
theorem g_draw : mg "_law_draw" = some (.ref (He.ga K "_law_draw")) := Tx.glo T 3
theorem g_one : mg "_law_one" = some (.ref (He.ga K "_law_one")) := Tx.glo T 4
theorem g_name : mg "_law_name" = some (.ref (He.ga K "_law_name")) := Tx.glo T 5
theorem g_law_names : mg "_law_names" = some (.ref (He.ga K "_law_names")) := Tx.glo T 6
theorem g_law_signs : mg "_law_signs" = some (.ref (He.ga K "_law_signs")) := Tx.glo T 7
theorem g_law_thing : mg "_law_thing" = some (.ref (He.ga K "_law_thing")) := Tx.glo T 8
theorem g_law_is_name : mg "_law_is_name" = some (.ref (He.ga K "_law_is_name")) := Tx.glo T 9
theorem g_law_is_address : mg "_law_is_address" = some (.ref (He.ga K "_law_is_address")) := Tx.glo T 10
theorem g_law : mg "law" = some (.ref (He.ga K "law")) := Tx.glo T 11
theorem f_all : mg "all" = none := Tx.free T 12
theorem f_bool : mg "bool" = none := Tx.free T 13
theorem f_int : mg "int" = none := Tx.free T 14
theorem f_isinstance : mg "isinstance" = none := Tx.free T 15
theorem f_len : mg "len" = none := Tx.free T 16
theorem f_range : mg "range" = none := Tx.free T 17
theorem f_repr : mg "repr" = none := Tx.free T 18
theorem f_str : mg "str" = none := Tx.free T 19
theorem f_tuple : mg "tuple" = none := Tx.free T 20
theorem c_LETTERS : ∃ t, mg "LETTERS" = some (.str "abcdefghijklmnopqrstuvwxyz" t) := Tx.str T 21
theorem c_MOST_LETTERS : ∃ t, mg "MOST_LETTERS" = some (.int 8 t) := Tx.int T 22
theorem D_is_name : ∃ fd, FunD K d_is_name.name d_is_name.qual d_is_name.params d_is_name.body d_is_name.scope (d_is_name.dvs K) (d_is_name.kws K) (He.fAd K d_is_name.at_) fd := T.c.def_ 0 (d := d_is_name)
theorem D_is_address : ∃ fd, FunD K d_is_address.name d_is_address.qual d_is_address.params d_is_address.body d_is_address.scope (d_is_address.dvs K) (d_is_address.kws K) (He.fAd K d_is_address.at_) fd := T.c.def_ 1 (d := d_is_address)
theorem D_well : ∃ fd, FunD K d_well.name d_well.qual d_well.params d_well.body d_well.scope (d_well.dvs K) (d_well.kws K) (He.fAd K d_well.at_) fd := T.c.def_ 2 (d := d_well)
theorem D_draw : ∃ fd, FunD K d_draw.name d_draw.qual d_draw.params d_draw.body d_draw.scope (d_draw.dvs K) (d_draw.kws K) (He.fAd K d_draw.at_) fd := T.c.def_ 3 (d := d_draw)
theorem D_one : ∃ fd, FunD K d_one.name d_one.qual d_one.params d_one.body d_one.scope (d_one.dvs K) (d_one.kws K) (He.fAd K d_one.at_) fd := T.c.def_ 4 (d := d_one)
theorem D_name : ∃ fd, FunD K d_name.name d_name.qual d_name.params d_name.body d_name.scope (d_name.dvs K) (d_name.kws K) (He.fAd K d_name.at_) fd := T.c.def_ 5 (d := d_name)
theorem D_law_names : ∃ fd, FunD K d_law_names.name d_law_names.qual d_law_names.params d_law_names.body d_law_names.scope (d_law_names.dvs K) (d_law_names.kws K) (He.fAd K d_law_names.at_) fd := T.c.def_ 6 (d := d_law_names)
theorem D_law_signs : ∃ fd, FunD K d_law_signs.name d_law_signs.qual d_law_signs.params d_law_signs.body d_law_signs.scope (d_law_signs.dvs K) (d_law_signs.kws K) (He.fAd K d_law_signs.at_) fd := T.c.def_ 7 (d := d_law_signs)
theorem D_law_thing : ∃ fd, FunD K d_law_thing.name d_law_thing.qual d_law_thing.params d_law_thing.body d_law_thing.scope (d_law_thing.dvs K) (d_law_thing.kws K) (He.fAd K d_law_thing.at_) fd := T.c.def_ 8 (d := d_law_thing)
theorem D_law_is_name : ∃ fd, FunD K d_law_is_name.name d_law_is_name.qual d_law_is_name.params d_law_is_name.body d_law_is_name.scope (d_law_is_name.dvs K) (d_law_is_name.kws K) (He.fAd K d_law_is_name.at_) fd := T.c.def_ 9 (d := d_law_is_name)
theorem D_law_is_address : ∃ fd, FunD K d_law_is_address.name d_law_is_address.qual d_law_is_address.params d_law_is_address.body d_law_is_address.scope (d_law_is_address.dvs K) (d_law_is_address.kws K) (He.fAd K d_law_is_address.at_) fd := T.c.def_ 10 (d := d_law_is_address)
theorem D_law : ∃ fd, FunD K d_law.name d_law.qual d_law.params d_law.body d_law.scope (d_law.dvs K) (d_law.kws K) (He.fAd K d_law.at_) fd := T.c.def_ 11 (d := d_law)
end
/-! ### the names of each def by slots -/
theorem sc_is_name : FnScope ["thing", "sign"] ["thing"] (defScope s_is_name) := ⟨rfl, rfl, rfl, by decide +kernel, rfl, by decide +kernel, by decide +kernel⟩
theorem sc_is_address : FnScope ["thing", "part"] ["thing"] (defScope s_is_address) := ⟨rfl, rfl, rfl, by decide +kernel, rfl, by decide +kernel, by decide +kernel⟩
theorem sc_well : FnScope ["_law_cell"] ["_law_cell"] (defScope s_well) := ⟨rfl, rfl, rfl, by decide +kernel, rfl, by decide +kernel, by decide +kernel⟩
theorem sc_draw : FnScope ["_law_well_here", "_law_many", "_law_digit", "_law_prime", "_law_number"] ["_law_well_here", "_law_many"] (defScope s_draw) := ⟨rfl, rfl, rfl, by decide +kernel, rfl, by decide +kernel, by decide +kernel⟩
theorem sc_one : FnScope ["_law_well_here", "_law_some"] ["_law_well_here", "_law_some"] (defScope s_one) := ⟨rfl, rfl, rfl, by decide +kernel, rfl, by decide +kernel, by decide +kernel⟩
theorem sc_name : FnScope ["_law_well_here", "_law_pick", "_law_word", "_law_k"] ["_law_well_here"] (defScope s_name) := ⟨rfl, rfl, rfl, by decide +kernel, rfl, by decide +kernel, by decide +kernel⟩
theorem sc_law_names : FnScope ["_law_well_here", "_law_many", "_law_found", "_law_name_here", "_law_at"] ["_law_well_here", "_law_many"] (defScope s_law_names) := ⟨rfl, rfl, rfl, by decide +kernel, rfl, by decide +kernel, by decide +kernel⟩
theorem sc_law_signs : FnScope ["_law_well_here", "_law_word", "_law_some", "_law_at", "_law_sign", "_law_turned"] ["_law_well_here"] (defScope s_law_signs) := ⟨rfl, rfl, rfl, by decide +kernel, rfl, by decide +kernel, by decide +kernel⟩
theorem sc_law_thing : FnScope ["_law_well_here", "_law_one_here"] ["_law_well_here"] (defScope s_law_thing) := ⟨rfl, rfl, rfl, by decide +kernel, rfl, by decide +kernel, by decide +kernel⟩
theorem sc_law_is_name : FnScope ["_law_thing_here", "_law_sign"] ["_law_thing_here"] (defScope s_law_is_name) := ⟨rfl, rfl, rfl, by decide +kernel, rfl, by decide +kernel, by decide +kernel⟩
theorem sc_law_is_address : FnScope ["_law_thing_here"] ["_law_thing_here"] (defScope s_law_is_address) := ⟨rfl, rfl, rfl, by decide +kernel, rfl, by decide +kernel, by decide +kernel⟩
theorem sc_law : FnScope ["_law_script", "_law_cell", "_law_well_here", "_law_one_here", "_law_other", "_law_pair", "_law_good", "_law_some", "_law_thing_here", "_law_kept", "_law_found", "_law_near"] ["_law_script"] (defScope s_law) := ⟨rfl, rfl, rfl, by decide +kernel, rfl, by decide +kernel, by decide +kernel⟩
theorem sysK {K : PySem.W.Frag} {mg : Str → Option Value} (T : TX K mg) : SysK K := sysB_ok (by have h := T.ex; unfold ex at h; simpa [Bool.and_eq_true] using h)
end Lw

namespace Lw
open PySem PySem.Spec PyProof.Rows L2 TP
section
variable {P : Program} {w : World} {K : PySem.W.Frag} {mg : Str → Option Value} {base : Heap}

theorem ok_well (T : TX K mg) : Gt P w K mg base CX0 1 "_law_well" ["_law_cell"] spWell := by
  refine gt_mk (D_well T) (g_well T) sc_well rfl (fun _ _ _ _ _ _ us hl => match us, hl with | [_], _ => rfl) (fun vs H Q E h => ?_) (fun f cdv A outer s H vs Q E hr h => ?_)
  · obtain ⟨z, rfl, _⟩ := h
    rfl
  obtain ⟨z, rfl, k⟩ := h
  refine ⟨_, (pss_one (ps_ret (pe_lst (pa_cons (pe_op op_mul (pv 0) (pe_callTy call_int1 (by rfl) (f_int T) (by decide +kernel) (pa_cons (pe_cmpR op_ge (pv 0) (pe_op op_pow pe_int pe_int) (nomark _)) pa_nil))) (pa_cons (pe_op op_mod (pe_callTy call_int1 (by rfl) (f_int T) (by decide +kernel) (pa_cons (pv 0) pa_nil)) pe_int) (pa_cons pe_int pa_nil)))))), ?_⟩
  refine ⟨_, rfl, _, rfl, _, _, rfl, rfl, ⟨by decide, by decide, by decide⟩, _, _, rfl, rfl, .inr ⟨_, rfl, ?_⟩⟩
  refine ⟨_, _, rfl, rfl, .inr ?_, _, rfl, .inl ⟨_, rfl, _, _, rfl, rfl, (by show (0 : Int) < 2147483647; decide), ?_⟩⟩
  · split <;> exact ⟨by decide, by decide⟩
  refine ⟨(by show 3 ≤ sizeLine; decide), fun p hp => k p _ hp ?_ (Evl.Ex.new hp)⟩
  refine ⟨_, _, _, upd_same, ?_, Int.emod_nonneg z (by decide), Int.emod_lt_of_pos z (by decide), by decide, by decide⟩
  show 0 ≤ z * (if decide ((10 : Int) ^ (18 : Int).toNat ≤ z) = true then 1 else 0)
  split
  · rename_i h
    have := of_decide_eq_true h
    have e : (10 : Int) ^ (18 : Int).toNat = 1000000000000000000 := by decide
    omega
  · omega

theorem ok_draw (T : TX K mg) : Gt P w K mg base CX0 1 "_law_draw" ["_law_well_here", "_law_many"] spDraw := by
  refine gt_mk (D_draw T) (g_draw T) sc_draw rfl (fun _ _ _ _ _ _ us hl => match us, hl with | [_, _], _ => rfl) (fun vs H Q E h => ?_) (fun f cdv A outer s H vs Q E hr h => ?_)
  · obtain ⟨a, n, m, rfl, _⟩ := h
    rfl
  obtain ⟨a, n, m, rfl, ⟨x, y, c, ea, hx, hy, hy2, hc, hcn⟩, hn, hm, hm9, k⟩ := h
  refine ⟨_, (pss_cons (ps_if (pt_cmpR op_gt (pe_ix ix_list (pv 0) pe_int (fun _ _ => rfl)) pe_int (nomark _))
      (pss_cons (ps_set (i := 2) sc_draw.nd rfl (by first | exact Or.inl rfl | exact Or.inr rfl) (pe_op op_mod (pe_callTy call_int1 (by rfl) (f_int T) (by decide +kernel) (pa_cons (pe_ix ix_list (pv 0) pe_int (fun _ _ => rfl)) pa_nil)) (pv 1)))
    (pss_cons (ps_asg (pe_op op_fdivW (pe_ix ix_list (pv 0) pe_int (fun _ _ => rfl)) (pv 1)) (pg_sub (pv 0) pe_int set_list))
    (pss_one (ps_ret (pv 2)))))
      pss_nil)
    (pss_cons (ps_asg (pe_op op_add (pe_ix ix_list (pv 0) pe_int (fun _ _ => rfl)) pe_int) (pg_sub (pv 0) pe_int set_list))
    (pss_cons (ps_set (i := 3) sc_draw.nd rfl (by first | exact Or.inl rfl | exact Or.inr rfl) (pe_ix ix_list (pe_lst (pa_cons pe_int (pa_cons pe_int (pa_cons pe_int (pa_cons pe_int (pa_cons pe_int (pa_cons pe_int (pa_cons pe_int pa_nil)))))))) (pe_op op_mod (pe_callTy call_int1 (by rfl) (f_int T) (by decide +kernel) (pa_cons (pe_ix ix_list (pv 0) pe_int (fun _ _ => rfl)) pa_nil)) pe_int) (fun _ _ => rfl)))
    (pss_cons (ps_set (i := 4) sc_draw.nd rfl (by first | exact Or.inl rfl | exact Or.inr rfl) (pe_op op_mod (pe_callTy call_int1 (by rfl) (f_int T) (by decide +kernel) (pa_cons (pe_op op_pow (pe_op op_add (pe_op op_add (pe_ix ix_list (pv 0) pe_int (fun _ _ => rfl)) (pe_op op_mul pe_int (pe_ix ix_list (pv 0) pe_int (fun _ _ => rfl)))) pe_int) pe_int) pa_nil)) (pv 3)))
    (pss_cons (ps_set (i := 4) sc_draw.nd rfl (by first | exact Or.inl rfl | exact Or.inr rfl) (pe_op op_mod (pe_callTy call_int1 (by rfl) (f_int T) (by decide +kernel) (pa_cons (pe_op op_mul (pe_op op_add (pv 4) (pe_ix ix_list (pv 0) pe_int (fun _ _ => rfl))) (pe_op op_add (pe_op op_fdivW (pv 4) pe_int) pe_int)) pa_nil)) (pv 3)))
    (pss_one (ps_ret (pe_op op_mod (pe_callTy call_int1 (by rfl) (f_int T) (by decide +kernel) (pa_cons (pe_op op_fdivW (pv 4) pe_int) pa_nil)) (pv 1))))))))), ?_⟩
  refine ⟨_, rfl, a, _, _, _, rfl, rfl, SqL.of ea, atI_nat (j := 0) rfl, _, _, rfl, rfl, _, rfl, ?_⟩
  refine ite2 (fun h0 => ?_) (fun h0 => ?_)
  · refine ⟨_, rfl, a, _, _, _, rfl, rfl, SqL.of ea, atI_nat (j := 0) rfl, .inl ⟨_, rfl, _, rfl, _, _, rfl, rfl, hm, ?_⟩⟩
    refine ⟨_, rfl, a, _, _, _, rfl, rfl, SqL.of ea, atI_nat (j := 0) rfl, _, rfl, _, _, rfl, rfl, ⟨hm, hm9⟩, ?_⟩
    refine ⟨_, rfl, a, _, _, 0, rfl, rfl, ea, rfl, ?_⟩
    refine ⟨_, rfl, k _ _ (Int.emod_nonneg _ (by omega)) (Int.emod_lt_of_pos _ hm) ⟨⟨_, y, c, upd_same, Int.ediv_nonneg hx (by omega), hy, hy2, hc, by omega⟩, (Wk.refl a H).set⟩⟩
  · refine ⟨_, rfl, a, _, _, _, rfl, rfl, SqL.of ea, atI_nat (j := 2) rfl, _, _, rfl, rfl, ?_⟩
    refine ⟨_, rfl, a, _, _, 2, rfl, rfl, ea, rfl, ?_⟩
    refine ⟨(by show 7 ≤ sizeLine; decide), fun p hp => ?_⟩
    have npa : a ≠ p := ne_of_none upd_same hp
    have ea2 : (upd (upd H a (.lst [.int x, .int y, .int (c + 1)])) p (.lst [.int 2147483647, .int 2147483629, .int 2147483587, .int 2147483579, .int 2147483563, .int 2147483549, .int 2147483543])) a = some (.lst [.int x, .int y, .int (c + 1)]) := by
      rw [upd_ne npa, upd_same]
    have hpr : ∃ q : Int, atI [V.int 2147483647, .int 2147483629, .int 2147483587, .int 2147483579, .int 2147483563, .int 2147483549, .int 2147483543] ((c + 1) % 7) = some (.int q) ∧ 2147483543 ≤ q ∧ q ≤ 2147483647 := by
      have h7 : (c + 1) % 7 = 0 ∨ (c + 1) % 7 = 1 ∨ (c + 1) % 7 = 2 ∨ (c + 1) % 7 = 3 ∨ (c + 1) % 7 = 4 ∨ (c + 1) % 7 = 5 ∨ (c + 1) % 7 = 6 := by omega
      rcases h7 with e | e | e | e | e | e | e <;> rw [e] <;> exact ⟨_, rfl, by decide, by decide⟩
    obtain ⟨q, hq, q1, q2⟩ := hpr
    refine ⟨_, rfl, a, _, _, _, rfl, rfl, SqL.of ea2, atI_nat (j := 2) rfl, .inl ⟨_, rfl, _, _, rfl, rfl, (by show (0 : Int) < 7; decide), ?_⟩⟩
    refine ⟨p, _, _, _, rfl, rfl, SqL.of upd_same, hq, ?_⟩
    refine ⟨_, rfl, a, _, _, _, rfl, rfl, SqL.of ea2, atI_nat (j := 1) rfl, _, rfl, a, _, _, _, rfl, rfl, SqL.of ea2, atI_nat (j := 2) rfl, _, _, rfl, rfl, .inl ⟨by decide, by decide⟩, _, _, rfl, rfl, _, _, rfl, rfl, _, _, rfl, rfl, ⟨by decide, by decide, ?_⟩, .inl ⟨_, rfl, ?_⟩⟩
    · show (y + 7919 * (c + 1) + 1).natAbs < 2 ^ 64
      omega
    refine ⟨_, rfl, _, _, rfl, rfl, (by show (0 : Int) < q; omega), ?_⟩
    have hz1 := Int.emod_nonneg ((y + 7919 * (c + 1) + 1) ^ (5 : Int).toNat) (show q ≠ 0 by omega)
    have hz2 := Int.emod_lt_of_pos ((y + 7919 * (c + 1) + 1) ^ (5 : Int).toNat) (show 0 < q by omega)
    generalize hzz : (y + 7919 * (c + 1) + 1) ^ (5 : Int).toNat % q = z at hz1 hz2
    refine ⟨_, rfl, _, rfl, a, _, _, _, rfl, rfl, SqL.of ea2, atI_nat (j := 2) rfl, _, _, rfl, rfl, _, rfl, _, _, rfl, rfl, ⟨by decide, by decide +kernel⟩, _, _, rfl, rfl, _, _, rfl, rfl, .inl ?_, .inl ⟨_, rfl, ?_⟩⟩
    · show -(2 ^ 64) < _ + (c + 1) ∧ _ + (c + 1) < 2 ^ 64
      rw [hzz]
      omega
    refine ⟨_, rfl, _, _, rfl, rfl, (by show (0 : Int) < q; omega), ?_⟩
    refine ⟨_, rfl, _, _, rfl, rfl, ⟨by decide, by decide +kernel⟩, .inl ⟨_, rfl, _, rfl, _, _, rfl, rfl, hm, ?_⟩⟩
    exact k _ _ (Int.emod_nonneg _ (by omega)) (Int.emod_lt_of_pos _ hm) ⟨⟨x, y, c + 1, ea2, hx, hy, hy2, by omega, by omega⟩, ((Wk.refl a H).set).new hp⟩

theorem ok_one (T : TX K mg) : Gt P w K mg base CX0 2 "_law_one" ["_law_well_here", "_law_some"] (spOne K) := by
  refine gt_mk (D_one T) (g_one T) sc_one rfl (fun _ _ _ _ _ _ us hl => match us, hl with | [_, _], _ => rfl) (fun vs H Q E h => ?_) (fun f cdv A outer s H vs Q E hr h => ?_)
  · obtain ⟨a, l, n, xs, rfl, _⟩ := h
    rfl
  obtain ⟨a, l, n, xs, rfl, wl, hn, hs, nla, h0, hz, k⟩ := h
  refine ⟨_, (pss_one (ps_ret (pe_ix ix_list (pv 1) ((ok_draw T).pe (hr.mono (by decide)) (pa_cons (pv 0) (pa_cons (pe_callB call_len_seq (by rfl) (f_len T) (by decide +kernel) (pa_cons (pv 1) pa_nil)) pa_nil))) (fun _ _ => rfl)))), ?_⟩
  refine ⟨_, rfl, _, rfl, _, rfl, l, xs, rfl, .inl hs, a, n, _, rfl, wl, hn, (by show (0 : Int) < (xs.length : Int); omega), ?_, fun d H' d0 d1 dn => ?_⟩
  · exact log2_small_of (show ((xs.length : Nat) : Int).natAbs < 2 ^ 64 by omega)
  have hd : d.toNat < xs.length := by
    have : d < (xs.length : Int) := d1
    omega
  have e : atI xs d = some xs[d.toNat] := at_of (j := d.toNat) (by omega) (by simp [hd])
  exact ⟨l, xs, d, _, rfl, rfl, dn.sql hs nla, e, k _ H' (List.getElem_mem hd) dn⟩

theorem ok_name (T : TX K mg) : Gt P w K mg base CX0 3 "_law_name" ["_law_well_here"] spName := by
  refine gt_mk (D_name T) (g_name T) sc_name rfl (fun _ _ _ _ _ _ us hl => match us, hl with | [_], _ => rfl) (fun vs H Q E h => ?_) (fun f cdv A outer s H vs Q E hr h => ?_)
  · obtain ⟨a, n, rfl, _⟩ := h
    rfl
  obtain ⟨a, n, rfl, wl, hn, k⟩ := h
  refine ⟨_, (pss_cons (ps_set (i := 1) sc_name.nd rfl (by first | exact Or.inl rfl | exact Or.inr rfl) ((ok_draw T).pe (hr.mono (by decide)) (pa_cons (pv 0) (pa_cons pe_int pa_nil))))
    (pss_cons (ps_if (pt_cmpR op_eq (pv 1) pe_int (nomark _))
      (pss_one (ps_ret ((ok_one T).pe (hr.mono (by decide)) (pa_cons (pv 0) (pa_cons (pe_lst (pa_cons pe_str (pa_cons pe_str (pa_cons pe_str (pa_cons pe_str (pa_cons pe_str (pa_cons pe_str (pa_cons pe_str (pa_cons pe_str (pa_cons pe_str (pa_cons pe_str pa_nil))))))))))) pa_nil)))))
      pss_nil)
    (pss_cons (ps_set (i := 2) sc_name.nd rfl (by first | exact Or.inl rfl | exact Or.inr rfl) pe_str)
    (pss_cons (ps_for PassesOwn.never rfl (pi_range1 (by rfl) (f_range T) (pa_cons (pe_op op_add pe_int ((ok_draw T).pe (hr.mono (by decide)) (pa_cons (pv 0) (pa_cons (pe_ix ix_list (pe_lst (pa_cons pe_int (pa_cons pe_int pa_nil))) (pe_op op_sub (pv 1) pe_int) (fun _ _ => rfl)) pa_nil)))) pa_nil)) (pg_name (i := 3) sc_name.nd rfl (by first | exact Or.inl rfl | exact Or.inr rfl))
      (pss_one (ps_set (i := 2) sc_name.nd rfl (by first | exact Or.inl rfl | exact Or.inr rfl) (pe_op op_add_str (pv 2) (pe_ix ix_str pe_str ((ok_draw T).pe (hr.mono (by decide)) (pa_cons (pv 0) (pa_cons pe_int pa_nil))) (fun _ _ => rfl))))))
    (pss_one (ps_ret (pv 2))))))), ?_⟩
  refine ⟨_, rfl, a, n, 3, rfl, wl, by omega, by decide, by decide +kernel, fun d H1 d0 d3 D1 => ?_⟩
  refine ⟨_, rfl, rfl, _, rfl, ite2 (fun e => ?_) (fun e => ?_)⟩
  · refine ⟨_, rfl, (by show 10 ≤ sizeLine; decide), fun p hp => ⟨a, p, n + 1, _, rfl, D1.wl.new hp, by omega, SqL.of upd_same, D1.wl.nep hp, (by show 0 < 10; decide), (by show 10 ≤ 1000000; decide), fun v H2 hv D2 => ?_⟩⟩
    have hz : ∃ z, v = V.str z ∧ NmP z := by
      have hall : ∀ v ∈ (["a", "b", "home", "house", "none", "kept", "plain", "zzzzzzzz", "post", "aa"].map fun s => (V.str (Str.ofString s))), ∃ z, v = V.str z ∧ NmP z := by
        intro v hv
        obtain ⟨s, hs, rfl⟩ := List.mem_map.mp hv
        refine ⟨_, rfl, isNm_iff.mp ?_⟩
        have hd : ∀ s ∈ ["a", "b", "home", "house", "none", "kept", "plain", "zzzzzzzz", "post", "aa"], isNm (Str.ofString s) = true := by decide +kernel
        exact hd s hs
      exact hall v hv
    obtain ⟨z, rfl, hz⟩ := hz
    exact k z H2 hz ⟨D2.wl.mono (by omega), (D1.k.new hp).trans D2.k⟩
  · have e0 : ¬ d = 0 := fun z => e (decide_eq_true (by rw [z]))
    obtain ⟨m, hm, m1, m8⟩ : ∃ m : Int, atI [V.int 1, V.int 8] (d - 1) = some (.int m) ∧ 0 < m ∧ m ≤ 8 := by
      have h2 : d = 1 ∨ d = 2 := by omega
      rcases h2 with rfl | rfl
      · exact ⟨1, rfl, by decide, by decide⟩
      · exact ⟨8, rfl, by decide, by decide⟩
    refine ⟨_, rfl, (by show 2 ≤ sizeLine; decide), fun p hp => ⟨_, rfl, _, _, rfl, rfl, p, _, _, _, rfl, rfl, SqL.of upd_same, hm, ?_⟩⟩
    refine ⟨a, n + 1, m, rfl, D1.wl.new hp, by omega, m1, log2_small_of (by omega), fun d2 H2 h20 h2m D2 => ?_⟩
    refine ⟨_, _, rfl, rfl, _, rfl, (by show -(2 ^ 62) ≤ 1 + d2; omega), (by show 1 + d2 < 2 ^ 62; omega), ?_⟩
    have D2' : Dn a (n + 2) H H2 := ⟨D2.wl, (D1.k.new hp).trans D2.k⟩
    have hT : (1 + d2).toNat ≤ 8 := by omega
    refine for_range (lo := 0) (n := (1 + d2).toNat) (fun i σ H' => ∃ (z : Str) (v : Option V), σ = [some (.ref a), some (.int d), some (.str z), v] ∧ Dn a (n + 2 + i) H H' ∧ z.length = i ∧ ∀ c ∈ z.cps.toList, c ∈ LT.cps.toList)
      ⟨_, _, rfl, D2', rfl, fun c hc => (emp_codes hc).elim⟩ ?_ ?_
    · rintro i σ H3 hi ⟨z, v, rfl, D3, hl, hz⟩
      refine ⟨_, rfl, _, rfl, a, _, 26, rfl, D3.wl, by omega, by decide, by decide +kernel, fun d4 H4 h40 h41 D4 => ?_⟩
      have hlt : d4.toNat < LT.cps.toList.length := by rw [LT_list]; show d4.toNat < 26; omega
      refine ⟨LT, d4, LT.cps.toList[d4.toNat], rfl, rfl, by decide +kernel, ?_, _, _, rfl, rfl, ?_, ?_⟩
      · exact atC_of (j := d4.toNat) (by omega) (by simp [hlt])
      · show z.length + 1 ≤ sizeLine
        have : sizeLine = 16777216 := sizeLine_eq
        omega
      refine ⟨_, _, rfl, ⟨D4.wl, D3.k.trans D4.k⟩, ?_, fun c hc => ?_⟩
      · rw [strLen_append, hl]
        rfl
      · rw [app_codes] at hc
        rcases List.mem_append.mp hc with h | h
        · exact hz c h
        · have : c = LT.cps.toList[d4.toNat] := by simpa using h
          rw [this]
          exact List.getElem_mem hlt
    · rintro σ H3 ⟨z, v, rfl, D3, hl, hz⟩
      exact ⟨_, rfl, k z H3 ⟨by omega, by omega, hz⟩ (D3.mono (by omega))⟩

end
end Lw

namespace Lw
open PySem PySem.Spec PyProof.Rows L2 TP
section
variable {P : Program} {w : World} {K : PySem.W.Frag} {mg : Str → Option Value} {base : Heap}

theorem ok_is_name (T : TX K mg) : Gt P w K mg base CX0 1 "is_name" ["thing"] (spIsName K) := by
  refine gt_mk (D_is_name T) (g_is_name T) sc_is_name rfl (fun _ _ _ _ _ _ us hl => match us, hl with | [_], _ => rfl) (fun vs H Q E h => ?_) (fun f cdv A outer s H vs Q E hr h => ?_)
  · obtain ⟨x, d, rfl, _⟩ := h
    rfl
  obtain ⟨x, d, rfl, hd, hz, k⟩ := h
  refine ⟨_, (pss_one (ps_ret (pe_and (pe_callB call_isi (by rfl) (f_isinstance T) (by decide +kernel) (pa_cons (pv 0) (pa_cons (pe_gty (n := "str") (f_str T) (by decide +kernel)) pa_nil))) (pe_and (pe_chain op_le op_le pe_int (pe_callB call_len_str (by rfl) (f_len T) (by decide +kernel) (pa_cons (pv 0) pa_nil)) (pe_gint (c_MOST_LETTERS T))) (pe_one (pe_callB (cr_all rfl) (by rfl) (f_all T) (by decide +kernel) (pa_cons (pe_lc (own := [("sign", 1)]) (g := gName 1) (tt := tYes) rfl sc_is_name.nd (pi_str (pv 0)) (blkOk_by (N := ["thing", "sign"]) (sc := defScope s_is_name) (by decide +kernel)) (fun _ _ _ _ _ => (pg_name (i := 1) sc_is_name.nd rfl (by first | exact Or.inl rfl | exact Or.inr rfl))) (fun _ _ _ _ _ => pts_nil) (fun _ _ _ _ _ => (pe_cmpR op_in_sign (pv 1) (pe_gstr (c_LETTERS T)) (by rfl)))) pa_nil))))))), ?_⟩
  refine ⟨_, rfl, x, _, _, _, _, rfl, .ty "str", hd.ty, kit_thing d, _, rfl, ite2 (fun e => ?_) (fun e => ?_)⟩
  · obtain ⟨z, rfl, rfl⟩ := hd.str_of (of_decide_eq_true e)
    have hl := hz z rfl
    have hl2 : z.length ≤ sizeLine := Nat.le_trans hl (by decide)
    have fin : ∀ (b : Bool) H', b = isNm z → Evl.Ex H H' → Q (.bl b) H' := fun b H' hb he => by rw [hb]; exact k H' he
    refine ⟨_, rfl, z, rfl, hl2, _, _, rfl, rfl, _, rfl, ite2 (fun h1 => ?_) (fun h1 => ?_)⟩
    · refine ⟨_, _, rfl, rfl, _, rfl, ite2 (fun h8 => ?_) (fun h8 => ?_)⟩
      · refine ⟨_, rfl, _, rfl, fun D hD => lc_fm walk_str (fun _ => true) (fun i => .bl (decide (z.cps.toList.getD i 0 ∈ LT.cps.toList))) hD (by show z.length < 1000000; have := of_decide_eq_true h8; omega) (fun _ _ => trivial) (fun i v H1 H2 C N hi he hy hc _ => ?_) (fun H' he hD' => ?_)⟩
        · obtain ⟨rfl, c, hc1, rfl⟩ := hy
          refine ⟨rfl, yes_ok ?_⟩
          refine ⟨_, rfl, c, LT, rfl, rfl, ?_⟩
          have e1 : z.cps.toList.getD i 0 = c := by
            rw [List.getD_eq_getElem?_getD, Array.getElem?_toList, hc1]
            rfl
          have := hc rfl _ (Evl.Ex.refl _)
          rw [e1] at this
          exact this
        · refine ⟨D, z.cps.toList.map fun c => decide (c ∈ LT.cps.toList), rfl, SqL.of ?_, fin _ _ ?_ he⟩
          · rw [hD', filter_yes]
            congr 2
            rw [List.map_map, ← range_map_get _ 0 z.cps.toList, ← strLen]
            rfl
          · unfold isNm
            rw [decide_eq_true (show 1 ≤ z.length by have := of_decide_eq_true h1; omega), decide_eq_true (show z.length ≤ 8 by have := of_decide_eq_true h8; omega), List.all_map]
            rfl
      · refine fin false H ?_ (Evl.Ex.refl H)
        unfold isNm
        rw [decide_eq_false (show ¬ z.length ≤ 8 from fun q => h8 (decide_eq_true (by omega)))]
        simp
    · refine ⟨_, rfl, iteF (fin false H ?_ (Evl.Ex.refl H))⟩
      unfold isNm
      rw [decide_eq_false (show ¬ 1 ≤ z.length from fun q => h1 (decide_eq_true (by omega)))]
      rfl
  · have e2 : isNmD d = false := isNmD_no fun q => e (decide_eq_true q)
    have := k H (Evl.Ex.refl H)
    rw [e2] at this
    exact this
theorem ok_is_address (T : TX K mg) : Gt P w K mg base CX0 2 "is_address" ["thing"] (spIsAddr K) := by
  refine gt_mk (D_is_address T) (g_is_address T) sc_is_address rfl (fun _ _ _ _ _ _ us hl => match us, hl with | [_], _ => rfl) (fun vs H Q E h => ?_) (fun f cdv A outer s H vs Q E hr h => ?_)
  · obtain ⟨x, d, rfl, _⟩ := h
    rfl
  obtain ⟨x, d, rfl, hd, hz, k⟩ := h
  refine ⟨_, (pss_one (ps_ret (pe_and (pe_callB call_isi (by rfl) (f_isinstance T) (by decide +kernel) (pa_cons (pv 0) (pa_cons (pe_gty (n := "tuple") (f_tuple T) (by decide +kernel)) pa_nil))) (pe_and (pe_cmpR op_eq (pe_callB call_len_seq (by rfl) (f_len T) (by decide +kernel) (pa_cons (pv 0) pa_nil)) pe_int (nomark _)) (pe_one (pe_callB (cr_all rfl) (by rfl) (f_all T) (by decide +kernel) (pa_cons (pe_lc (own := [("part", 1)]) (g := gName 1) (tt := tYes) rfl sc_is_address.nd (pi_tup (pv 0)) (blkOk_by (N := ["thing", "part"]) (sc := defScope s_is_address) (by decide +kernel)) (fun _ _ _ _ _ => (pg_name (i := 1) sc_is_address.nd rfl (by first | exact Or.inl rfl | exact Or.inr rfl))) (fun _ _ _ _ _ => pts_nil) (fun _ _ _ _ _ => ((ok_is_name T).pe (hr.mono (by decide)) (pa_cons (pv 1) pa_nil)))) pa_nil))))))), ?_⟩
  refine ⟨_, rfl, x, _, _, _, _, rfl, .ty "tuple", hd.ty, kit_thing d, _, rfl, ite2 (fun e => ?_) (fun e => ?_)⟩
  · obtain ⟨a, xs, ds, rfl, rfl, ht, hall⟩ := hd.tup_of (of_decide_eq_true e)
    have fin : ∀ (b : Bool) H', b = isAdD (.tuple ds) → Evl.Ex H H' → Q (.bl b) H' := fun b H' hb he => by rw [hb]; exact k H' he
    have hlen := hall.len
    refine ⟨_, rfl, a, xs, rfl, .inr ht, rfl, _, rfl, ite2 (fun h1 => ?_) (fun h1 => ?_)⟩
    · have h2 : xs.length = 2 := by
        have := of_decide_eq_true h1
        injection this with this
        omega
      obtain ⟨d1, d2, rfl⟩ : ∃ d1 d2, ds = [d1, d2] := by
        rw [hlen] at h2
        match ds, h2 with
        | [d1, d2], _ => exact ⟨d1, d2, rfl⟩
      refine ⟨_, rfl, a, rfl, ⟨_, ht⟩, fun D hD => lc_fm (walk_tup (xs := xs)) (fun _ => true) (fun i => .bl (isNmD ([d1, d2].getD i .none))) hD (by omega) (fun H' he => Evl.ex_t he ht) (fun i v H1 H2 C N hi he hy hc _ => ?_) (fun H' he hD' => ?_)⟩
      · obtain ⟨rfl, hv⟩ := hy
        obtain ⟨e, he1, he2⟩ := DrAll.at hall hv
        refine ⟨rfl, yes_ok ?_⟩
        refine ⟨_, rfl, v, e, rfl, Dr.ex he e v he2, fun z hz' => hz _ rfl e (List.mem_of_getElem? he1) z hz', fun H3 e3 => ?_⟩
        have e1 : [d1, d2].getD i .none = e := by
          rw [List.getD_eq_getElem?_getD, he1]
          rfl
        have := hc rfl H3 e3
        rw [e1] at this
        exact this
      · refine ⟨D, [isNmD d1, isNmD d2], rfl, SqL.of ?_, fin _ _ ?_ he⟩
        · rw [hD', filter_yes, h2]
          rfl
        · show (isNmD d1 && (isNmD d2 && true)) = (isNmD d1 && isNmD d2)
          rw [Bool.and_true]
    · refine fin false H ?_ (Evl.Ex.refl H)
      have h2 : ¬ xs.length = 2 := fun q => h1 (decide_eq_true (by rw [q]; rfl))
      rw [hlen] at h2
      match ds, h2 with
      | [], _ => rfl
      | [_], _ => rfl
      | [_, _], h => exact absurd rfl h
      | _ :: _ :: _ :: _, _ => rfl
  · have e2 : isAdD d = false := isAdD_no fun q => e (decide_eq_true q)
    have := k H (Evl.Ex.refl H)
    rw [e2] at this
    exact this

end
end Lw

namespace Lw
open PySem PySem.Spec PyProof.Rows L2 TP
section
variable {P : Program} {w : World} {K : PySem.W.Frag} {mg : Str → Option Value} {base : Heap}

/-- a text that is a name or nearly one -/
def spSigns : Sp := fun vs H Q _ => ∃ (a : Addr) (n : Nat), vs = [.ref a] ∧ Wl H a n ∧ n < 800000 ∧ ∀ (z : Str) (H' : Hp), As 20 z → Dn a (n + 40) H H' → Q (.str z) H'
/-- the text that a statement gives to a name -/
def givenText : Stmt → Str
  | .Assign _ (.Constant (.str x) _ _) _ => x
  | _ => ""
def someS : Str := givenText ((defBody s_law_signs).getD 1 (.Pass ⟨0, 0, 0, 0⟩))
theorem someS_as : As 100 someS := ⟨by decide +kernel, by decide +kernel⟩
theorem ok_law_signs (T : TX K mg) : Gt P w K mg base CX0 4 "_law_signs" ["_law_well_here"] spSigns := by
  refine gt_mk (D_law_signs T) (g_law_signs T) sc_law_signs rfl (fun _ _ _ _ _ _ us hl => match us, hl with | [_], _ => rfl) (fun vs H Q E h => ?_) (fun f cdv A outer s H vs Q E hr h => ?_)
  · obtain ⟨a, n, rfl, _⟩ := h
    rfl
  obtain ⟨a, n, rfl, wl, hn, k⟩ := h
  refine ⟨_, (pss_cons (ps_set (i := 1) sc_law_signs.nd rfl (by first | exact Or.inl rfl | exact Or.inr rfl) ((ok_name T).pe (hr.mono (by decide)) (pa_cons (pv 0) pa_nil)))
    (pss_cons (ps_set (i := 2) sc_law_signs.nd rfl (by first | exact Or.inl rfl | exact Or.inr rfl) pe_str)
    (pss_cons (ps_set (i := 3) sc_law_signs.nd rfl (by first | exact Or.inl rfl | exact Or.inr rfl) ((ok_draw T).pe (hr.mono (by decide)) (pa_cons (pv 0) (pa_cons (pe_op op_add (pe_callB call_len_str (by rfl) (f_len T) (by decide +kernel) (pa_cons (pv 1) pa_nil)) pe_int) pa_nil))))
    (pss_cons (ps_set (i := 4) sc_law_signs.nd rfl (by first | exact Or.inl rfl | exact Or.inr rfl) (pe_ix ix_str (pv 2) ((ok_draw T).pe (hr.mono (by decide)) (pa_cons (pv 0) (pa_cons (pe_callB call_len_str (by rfl) (f_len T) (by decide +kernel) (pa_cons (pv 2) pa_nil)) pa_nil))) (fun _ _ => rfl)))
    (pss_cons (ps_set (i := 5) sc_law_signs.nd rfl (by first | exact Or.inl rfl | exact Or.inr rfl) (pe_lst (pa_cons (pe_op op_add_str (pe_op op_add_str (pe_slice sl_str (pv 1) po_none (po_some (pv 3))) (pv 4)) (pe_slice sl_str (pv 1) (po_some (pv 3)) po_none)) (pa_cons (pe_op op_add_str (pe_op op_add_str (pe_slice sl_str (pv 1) po_none (po_some (pv 3))) (pv 4)) (pe_slice sl_str (pv 1) (po_some (pe_op op_add (pv 3) pe_int)) po_none)) (pa_cons (pe_slice sl_str (pv 1) po_none (po_some (pv 3))) (pa_cons (pe_op op_repS (pv 1) pe_int) pa_nil))))))
    (pss_one (ps_ret ((ok_one T).pe (hr.mono (by decide)) (pa_cons (pv 0) (pa_cons (pe_op op_cat (pe_lst (pa_cons (pv 1) (pa_cons (pv 1) pa_nil))) (pv 5)) pa_nil)))))))))), ?_⟩
  refine ⟨_, rfl, a, n, rfl, wl, by omega, fun z H1 hz D1 => ?_⟩
  have az := hz.as
  have zl := az.size (by decide)
  have l0 := hz.lo
  have l8 := hz.hi
  refine ⟨_, rfl, _, rfl, z, rfl, zl, _, _, rfl, rfl, ?_⟩
  refine ⟨a, n + 20, _, rfl, D1.wl, by omega, (by show (0 : Int) < (z.length : Int) + 1; omega), log2_small_of (by omega), fun t H2 t0 t1 D2 => ?_⟩
  refine ⟨_, rfl, _, rfl, _, rfl, someS, rfl, someS_as.size (by decide), ?_⟩
  refine ⟨a, n + 21, _, rfl, D2.wl, by omega, (by show (0 : Int) < (someS.length : Int); decide +kernel), log2_small_of (by have := someS_as.len; omega), fun i H3 i0 i1 D3 => ?_⟩
  have hi : i.toNat < someS.cps.toList.length := by rw [← strLen]; have : i < (someS.length : Int) := i1; omega
  refine ⟨someS, i, someS.cps.toList[i.toNat], rfl, rfl, someS_as.size (by decide), atC_of (j := i.toNat) (by omega) (by simp [hi]), ?_⟩
  have ac : As 1 ⟨#[someS.cps.toList[i.toNat]]⟩ := As.one (someS_as.sg _ (List.getElem_mem hi))
  generalize hc : (⟨#[someS.cps.toList[i.toNat]]⟩ : Str) = c at ac
  have sz : ∀ {x y : Str}, As 100 x → As 100 y → x.length + y.length ≤ sizeLine := fun {x y} hx hy => by
    have h1 := hx.len
    have h2 := hy.len
    have : sizeLine = 16777216 := sizeLine_eq
    omega
  have c1 := az.cut none (some t)
  have c2 := az.cut (some t) none
  have c3 := az.cut (some (t + 1)) none
  refine ⟨_, rfl, _, rfl, _, rfl, z, rfl, zl, _, rfl, _, _, rfl, rfl, sz (c1.mono (by decide)) (ac.mono (by decide)), _, rfl, _, rfl, _, rfl, z, rfl, zl, _, _, rfl, rfl, sz ((c1.app ac).mono (by decide)) (c2.mono (by decide)), ?_⟩
  refine ⟨_, rfl, _, rfl, _, rfl, z, rfl, zl, _, rfl, _, _, rfl, rfl, sz (c1.mono (by decide)) (ac.mono (by decide)), _, rfl, _, rfl, _, _, rfl, rfl, _, rfl, z, rfl, zl, _, _, rfl, rfl, sz ((c1.app ac).mono (by decide)) (c3.mono (by decide)), ?_⟩
  refine ⟨_, rfl, _, rfl, _, rfl, z, rfl, zl, ?_⟩
  refine ⟨_, rfl, z, 2, rfl, rfl, by omega, by decide, by decide, ?_⟩
  refine ⟨(by show 4 ≤ sizeLine; decide), fun p hp => ?_⟩
  refine ⟨_, rfl, _, rfl, _, rfl, (by show 2 ≤ sizeLine; decide), fun p2 hp2 => ?_⟩
  have np : p ≠ p2 := ne_of_none upd_same hp2
  refine ⟨_, rfl, p2, p, _, _, rfl, rfl, upd_same, Eq.trans (upd_ne np) upd_same, (by show 2 + 4 ≤ sizeLine; decide), fun p3 hp3 => ?_⟩
  have D4 := ((D3.new (o := .lst [.str (cutS z none (some t) ++ c ++ cutS z (some t) none), .str (cutS z none (some t) ++ c ++ cutS z (some (t + 1)) none), .str (cutS z none (some t)), .str (Txt.mul z 2)]) hp).new (o := .lst [.str z, .str z]) hp2)
  refine ⟨a, p3, n + 22, _, rfl, D4.wl.new hp3, by omega, SqL.of upd_same, D4.wl.nep hp3, (by show 0 < 6; decide), (by show 6 ≤ 1000000; decide), fun v H5 hv D5 => ?_⟩
  have hA : ∃ y, v = .str y ∧ As 20 y := by
    have hv' : v ∈ [V.str z, .str z, .str (cutS z none (some t) ++ c ++ cutS z (some t) none), .str (cutS z none (some t) ++ c ++ cutS z (some (t + 1)) none), .str (cutS z none (some t)), .str (Txt.mul z 2)] := hv
    simp only [List.mem_cons, List.not_mem_nil, or_false] at hv'
    rcases hv' with rfl | rfl | rfl | rfl | rfl | rfl
    · exact ⟨_, rfl, az.mono (by decide)⟩
    · exact ⟨_, rfl, az.mono (by decide)⟩
    · exact ⟨_, rfl, ((c1.app ac).app c2).mono (by decide)⟩
    · exact ⟨_, rfl, ((c1.app ac).app c3).mono (by decide)⟩
    · exact ⟨_, rfl, c1.mono (by decide)⟩
    · exact ⟨_, rfl, az.two.mono (by decide)⟩
  obtain ⟨y, rfl, hy⟩ := hA
  exact k y H5 hy ⟨D5.wl.mono (by omega), ((((D1.k.trans D2.k).trans D3.k).new hp).new hp2).new hp3 |>.trans D5.k⟩

end
end Lw

namespace Lw
open PySem PySem.Spec PyProof.Rows L2 TP
section
variable {P : Program} {w : World} {K : PySem.W.Frag} {mg : Str → Option Value} {base : Heap}

/-- a thing of any kind -/
def spThing (K : PySem.W.Frag) : Sp := fun vs H Q _ => ∃ (a : Addr) (n : Nat), vs = [.ref a] ∧ Wl H a n ∧ n < 700000 ∧ ∀ (v : V) (d : PyData) (H' : Hp), Dr K (hid a H') v d → ThP 500 d → d.depth ≤ 2 → Dn a (n + 50) H H' → Q v H'
theorem ok_law_thing (T : TX K mg) : Gt P w K mg base CX0 5 "_law_thing" ["_law_well_here"] (spThing K) := by
  refine gt_mk (D_law_thing T) (g_law_thing T) sc_law_thing rfl (fun _ _ _ _ _ _ us hl => match us, hl with | [_], _ => rfl) (fun vs H Q E h => ?_) (fun f cdv A outer s H vs Q E hr h => ?_)
  · obtain ⟨a, n, rfl, _⟩ := h
    rfl
  obtain ⟨a, n, rfl, wl, hn, k⟩ := h
  refine ⟨_, (pss_cons (ps_set (i := 1) sc_law_thing.nd rfl (by first | exact Or.inl rfl | exact Or.inr rfl) ((ok_law_signs T).pe (hr.mono (by decide)) (pa_cons (pv 0) pa_nil)))
    (pss_one (ps_ret ((ok_one T).pe (hr.mono (by decide)) (pa_cons (pv 0) (pa_cons (pe_lst (pa_cons (pv 1) (pa_cons (pv 1) (pa_cons (pv 1) (pa_cons pe_non (pa_cons pe_bl (pa_cons pe_bl (pa_cons pe_int (pa_cons pe_int (pa_cons (pe_lst (pa_cons (pv 1) pa_nil)) (pa_cons (pe_tup (pa_cons (pv 1) pa_nil)) (pa_cons (pe_disp (pps_cons (pv 1) (pv 1) pps_nil) rfl rfl (by simp) (by decide)) (pa_cons pe_str (pa_cons (pe_lst pa_nil) (pa_cons (pe_tup pa_nil) pa_nil))))))))))))))) pa_nil)))))), ?_⟩
  refine ⟨_, rfl, a, n, rfl, wl, by omega, fun z H1 hz D1 => ?_⟩
  refine ⟨_, rfl, _, rfl, _, rfl, _, rfl, _, rfl, (by show 1 ≤ sizeLine; decide), fun p1 hp1 => ?_⟩
  refine ⟨_, rfl, (by show 1 ≤ sizeLine; decide), fun p2 hp2 => ?_⟩
  intro p3 hp3
  refine ⟨_, rfl, _, rfl, upd_same, [(.inr z, .str z)], rfl, (by show 1 ≤ 15; decide), ?_⟩
  refine ⟨(by show 0 ≤ sizeLine; decide), fun p4 hp4 => ⟨(by show 0 ≤ sizeLine; decide), fun p5 hp5 => ⟨(by show 14 ≤ sizeLine; decide), fun p6 hp6 => ?_⟩⟩⟩
  have x1 := Evl.Ex.new (o := .lst [.str z]) hp1
  have x2 := Evl.Ex.new (o := .tup [.str z]) hp2
  have x3 := Evl.Ex.mut (o := .dK [(.inr z, .str z)]) (Evl.Ex.new (o := .dK []) hp3) hp3
  have x4 := Evl.Ex.new (o := .lst []) hp4
  have x5 := Evl.Ex.new (o := .tup []) hp5
  have x6 := Evl.Ex.new (o := .lst [.str z, .str z, .str z, .non, .bl true, .bl false, .int 0, .int 7, .ref p1, .ref p2, .ref p3, .str "", .ref p4, .ref p5]) hp6
  have y5 := x5.trans x6
  have y4 := x4.trans y5
  have y3 := x3.trans y4
  have y2 := x2.trans y3
  have y1 := x1.trans y2
  have w6 := Ex.wl y1 D1.wl
  refine ⟨a, p6, n + 40, _, rfl, w6, by omega, SqL.of upd_same, fun e => ?_, (by show 0 < 14; decide), (by show 14 ≤ 1000000; decide), fun v H' hv D2 => ?_⟩
  · exact (Ex.wl (x1.trans (x2.trans (x3.trans (x4.trans x5)))) D1.wl).nep hp6 e
  have D : Dn a (n + 50) H H' := ⟨D2.wl.mono (by omega), (D1.k.trans (Ex.wk a y1)).trans D2.k⟩
  have w1 := D1.wl
  have n1 : p1 ≠ a := w1.nep hp1
  have n2 : p2 ≠ a := (Ex.wl x1 w1).nep hp2
  have n3 : p3 ≠ a := (Ex.wl (x1.trans x2) w1).nep hp3
  have n4 : p4 ≠ a := (Ex.wl (x1.trans (x2.trans x3)) w1).nep hp4
  have n5 : p5 ≠ a := (Ex.wl (x1.trans (x2.trans (x3.trans x4))) w1).nep hp5
  have g1 := hid_of (D2.k p1 _ n1 (y2 p1 _ upd_same)) n1
  have g2 := hid_of (D2.k p2 _ n2 (y3 p2 _ upd_same)) n2
  have g3 := hid_of (D2.k p3 _ n3 (y4 p3 _ upd_same)) n3
  have g4 := hid_of (D2.k p4 _ n4 (y5 p4 _ upd_same)) n4
  have g5 := hid_of (D2.k p5 _ n5 (x6 p5 _ upd_same)) n5
  have hS := (ThP.str hz (by decide)).mono (show 10 * 20 + 2 ≤ 300 by decide)
  have wz : wt (.str z) ≤ 202 := (Sm.str hz).wt
  have hv' : v ∈ [V.str z, .str z, .str z, .non, .bl true, .bl false, .int 0, .int 7, .ref p1, .ref p2, .ref p3, .str "", .ref p4, .ref p5] := hv
  simp only [List.mem_cons, List.not_mem_nil, or_false] at hv'
  rcases hv' with rfl | rfl | rfl | rfl | rfl | rfl | rfl | rfl | rfl | rfl | rfl | rfl | rfl | rfl
  · exact k _ _ H' (.str z) (hS.mono (by decide)) (by simp [PyData.depth, PyData.depthAll, PyData.depthKv, kD]) D
  · exact k _ _ H' (.str z) (hS.mono (by decide)) (by simp [PyData.depth, PyData.depthAll, PyData.depthKv, kD]) D
  · exact k _ _ H' (.str z) (hS.mono (by decide)) (by simp [PyData.depth, PyData.depthAll, PyData.depthKv, kD]) D
  · exact k _ _ H' .non ⟨⟨rfl, by decide, by decide⟩, fun _ e => (nomatch e), fun _ e => nomatch e⟩ (by simp [PyData.depth, PyData.depthAll, PyData.depthKv, kD]) D
  · exact k _ _ H' (.bl true) ⟨⟨rfl, by decide, by decide⟩, fun _ e => (nomatch e), fun _ e => nomatch e⟩ (by simp [PyData.depth, PyData.depthAll, PyData.depthKv, kD]) D
  · exact k _ _ H' (.bl false) ⟨⟨rfl, by decide, by decide⟩, fun _ e => (nomatch e), fun _ e => nomatch e⟩ (by simp [PyData.depth, PyData.depthAll, PyData.depthKv, kD]) D
  · exact k _ _ H' (.int 0) ⟨⟨smallInt (by decide), by decide +kernel, by decide⟩, fun _ e => (nomatch e), fun _ e => nomatch e⟩ (by simp [PyData.depth, PyData.depthAll, PyData.depthKv, kD]) D
  · exact k _ _ H' (.int 7) ⟨⟨smallInt (by decide), by decide +kernel, by decide⟩, fun _ e => (nomatch e), fun _ e => nomatch e⟩ (by simp [PyData.depth, PyData.depthAll, PyData.depthKv, kD]) D
  · refine k _ _ H' (.lst (SqL.of g1) (.cons (.str z) .nil)) ⟨⟨rfl, ?_, by simp [PyData.depth, PyData.depthAll]⟩, fun _ e => (nomatch e), fun _ e => nomatch e⟩ (by simp [PyData.depth, PyData.depthAll, PyData.depthKv, kD]) D
    simp only [wt, wtAll] at wz ⊢
    omega
  · refine k _ _ H' (.tup (SqT.of g2) (.cons (.str z) .nil)) ⟨⟨rfl, ?_, by simp [PyData.depth, PyData.depthAll]⟩, fun _ e => (nomatch e), fun ds e d hd => ?_⟩ (by simp [PyData.depth, PyData.depthAll, PyData.depthKv, kD]) D
    · simp only [wt, wtAll] at wz ⊢
      omega
    · cases e
      obtain rfl : d = .str z := by simpa using hd
      exact hS.sh
  · refine k _ _ H' (.dct g3 (.cons (.str z) .nil)) ⟨⟨rfl, ?_, by simp [PyData.depth, PyData.depthKv, kD]⟩, fun _ e => (nomatch e), fun _ e => nomatch e⟩ (by simp [PyData.depth, PyData.depthAll, PyData.depthKv, kD]) D
    simp only [wt, wtKv, kD] at wz ⊢
    omega
  · exact k _ _ H' (.str "") ⟨⟨rfl, by decide +kernel, by decide⟩, fun z e => by cases e; exact ⟨by decide +kernel, by decide +kernel⟩, fun _ e => nomatch e⟩ (by simp [PyData.depth, PyData.depthAll, PyData.depthKv, kD]) D
  · exact k _ _ H' (.lst (SqL.of g4) .nil) ⟨⟨rfl, by decide, by decide⟩, fun _ e => (nomatch e), fun _ e => nomatch e⟩ (by simp [PyData.depth, PyData.depthAll, PyData.depthKv, kD]) D
  · exact k _ _ H' (.tup (SqT.of g5) .nil) ⟨⟨rfl, by decide, by decide⟩, fun _ e => (nomatch e), fun ds e d hd => by cases e; cases hd⟩ (by simp [PyData.depth, PyData.depthAll, PyData.depthKv, kD]) D
/-- as is_name, of short plain texts -/
def spIsNameL (K : PySem.W.Frag) : Sp := fun vs H Q _ => ∃ (x : V) (d : PyData), vs = [x] ∧ Dr K H x d ∧ Sh d ∧ ∀ H', Evl.Ex H H' → Q (.bl (isNmD d)) H'
theorem ok_law_is_name (T : TX K mg) : Gt P w K mg base CX0 1 "_law_is_name" ["_law_thing_here"] (spIsNameL K) := by
  refine gt_mk (D_law_is_name T) (g_law_is_name T) sc_law_is_name rfl (fun _ _ _ _ _ _ us hl => match us, hl with | [_], _ => rfl) (fun vs H Q E h => ?_) (fun f cdv A outer s H vs Q E hr h => ?_)
  · obtain ⟨x, d, rfl, _⟩ := h
    rfl
  obtain ⟨x, d, rfl, hd, hz, k⟩ := h
  refine ⟨_, (pss_cons (ps_if (PW.pt (pw_or (pt_not (pt_val (pe_callB call_isi (by rfl) (f_isinstance T) (by decide +kernel) (pa_cons (pv 0) (pa_cons (pe_gty (n := "str") (f_str T) (by decide +kernel)) pa_nil))))) (pw_or (pt_cmpR op_lt (pe_callB call_len_str (by rfl) (f_len T) (by decide +kernel) (pa_cons (pv 0) pa_nil)) pe_int (nomark _)) (pw_or1 (pt_cmpR op_gt (pe_callB call_len_str (by rfl) (f_len T) (by decide +kernel) (pa_cons (pv 0) pa_nil)) pe_int (nomark _))))))
      (pss_one (ps_ret pe_bl))
      pss_nil)
    (pss_one (ps_ret (pe_cmpR (op_eqD hr.units) (pe_lc (own := [("_law_sign", 1)]) (g := gName 1) rfl sc_law_is_name.nd (pi_str (pv 0)) (blkOk_by (N := ["_law_thing_here", "_law_sign"]) (sc := defScope s_law_is_name) (by decide +kernel)) (fun _ _ _ _ _ => (pg_name (i := 1) sc_law_is_name.nd rfl (by first | exact Or.inl rfl | exact Or.inr rfl))) (fun _ _ _ _ _ => (pts_one (pt_cmpR op_notIn_sign (pv 1) pe_str (by rfl)))) (fun _ _ _ _ _ => (pv 1))) (pe_lst pa_nil) (nomark _))))), ?_⟩
  refine ⟨_, rfl, x, _, _, _, _, rfl, .ty "str", hd.ty, kit_thing d, _, rfl, ite2 (fun e => ?_) (fun e => ?_)⟩
  · refine iteT ?_
    have e2 : isNmD d = false := isNmD_no fun q => by rw [decide_eq_true q] at e; exact Bool.noConfusion e
    have := k H (Evl.Ex.refl H)
    rw [e2] at this
    exact this
  have e' : tyN d = "str" := by
    by_cases q : tyN d = "str"
    · exact q
    · rw [decide_eq_false q] at e
      exact absurd rfl e
  obtain ⟨z, rfl, rfl⟩ := hd.str_of e'
  have hl := hz z rfl
  have hl2 : z.length ≤ sizeLine := hl.size (by decide)
  have fin : ∀ (b : Bool) H', b = isNm z → Evl.Ex H H' → Q (.bl b) H' := fun b H' hb he => by rw [hb]; exact k H' he
  refine ⟨_, rfl, z, rfl, hl2, _, _, rfl, rfl, _, rfl, ite2 (fun h1 => ?_) (fun h1 => ?_)⟩
  · refine iteT (fin false H ?_ (Evl.Ex.refl H))
    unfold isNm
    rw [decide_eq_false (show ¬ 1 ≤ z.length from fun q => by have := of_decide_eq_true h1; omega)]
    rfl
  refine ⟨_, rfl, z, rfl, hl2, _, _, rfl, rfl, _, rfl, ite2 (fun h8 => ?_) (fun h8 => ?_)⟩
  · refine fin false H ?_ (Evl.Ex.refl H)
    unfold isNm
    rw [decide_eq_false (show ¬ z.length ≤ 8 from fun q => by have := of_decide_eq_true h8; omega)]
    simp
  have n8 : z.length ≤ 8 := by
    by_cases q : (8 : Int) < (z.length : Int)
    · exact absurd (decide_eq_true q) h8
    · omega
  have n1 : 1 ≤ z.length := by
    by_cases q : (z.length : Int) < 1
    · exact absurd (decide_eq_true q) h1
    · omega
  refine ⟨_, rfl, _, rfl, fun D hD => lc_fm walk_str (fun i => !decide (z.cps.toList.getD i 0 ∈ LT.cps.toList)) (fun i => .str ⟨#[z.cps.toList.getD i 0]⟩) hD (by show z.length < 1000000; omega) (fun _ _ => trivial) (fun i v H1 H2 C N hi he hy hc hn => ?_) (fun H' he hD' => ?_)⟩
  · obtain ⟨rfl, c, hc1, rfl⟩ := hy
    have e1 : z.cps.toList.getD i 0 = c := by
      rw [List.getD_eq_getElem?_getD, Array.getElem?_toList, hc1]
      rfl
    rw [e1] at hc hn
    refine ⟨rfl, _, rfl, c, LT, rfl, rfl, _, rfl, ite2 (fun hp => ?_) (fun hp => ?_)⟩
    · exact ⟨_, rfl, hc hp _ (Evl.Ex.refl _)⟩
    · exact hn (by simpa using hp) _ (Evl.Ex.refl _)
  · refine ⟨(by show 0 ≤ sizeLine; decide), fun p hp => ?_⟩
    have hD2 := (Evl.Ex.new (o := .lst []) hp) D _ hD'
    have hok : ∀ i : Nat, PyData.strOk ⟨#[z.cps.toList.getD i 0]⟩ = true := fun i => by
      have h128 : z.cps.toList.getD i 0 < 128 := by
        rw [List.getD_eq_getElem?_getD]
        cases q : z.cps.toList[i]? with
        | none => decide
        | some c => exact hl.sg c (List.mem_of_getElem? q)
      unfold PyData.strOk
      simp only [List.all_toArray, List.all_cons, List.all_nil, Bool.and_true, decide_eq_true_eq]
      omega
    refine ⟨_, .list [], .lst (SqL.of hD2) (dpStrs (fun i => ⟨#[z.cps.toList.getD i 0]⟩) _), .lst (SqL.of upd_same) .nil, shapedStrs _ hok _, rfl, fin _ _ ?_ (he.trans (Evl.Ex.new hp))⟩
    rw [eqv_nil]
    unfold isNm
    rw [decide_eq_true n8, decide_eq_true n1, ← none_amiss, ← strLen]
    simp [List.isEmpty_iff]
    rfl
def spIsAddrL (K : PySem.W.Frag) : Sp := fun vs H Q _ => ∃ (x : V) (d : PyData), vs = [x] ∧ Dr K H x d ∧ ShA d ∧ ∀ H', Evl.Ex H H' → Q (.bl (isAdD d)) H'
theorem ok_law_is_address (T : TX K mg) : Gt P w K mg base CX0 2 "_law_is_address" ["_law_thing_here"] (spIsAddrL K) := by
  refine gt_mk (D_law_is_address T) (g_law_is_address T) sc_law_is_address rfl (fun _ _ _ _ _ _ us hl => match us, hl with | [_], _ => rfl) (fun vs H Q E h => ?_) (fun f cdv A outer s H vs Q E hr h => ?_)
  · obtain ⟨x, d, rfl, _⟩ := h
    rfl
  obtain ⟨x, d, rfl, hd, hz, k⟩ := h
  refine ⟨_, (pss_one (ps_ret (pe_and (pe_callB call_isi (by rfl) (f_isinstance T) (by decide +kernel) (pa_cons (pv 0) (pa_cons (pe_gty (n := "tuple") (f_tuple T) (by decide +kernel)) pa_nil))) (pe_and (pe_cmpR op_eq (pe_callB call_len_seq (by rfl) (f_len T) (by decide +kernel) (pa_cons (pv 0) pa_nil)) pe_int (nomark _)) (pe_and ((ok_law_is_name T).pe (hr.mono (by decide)) (pa_cons (pe_ix ix_tup (pv 0) pe_int (fun _ _ => rfl)) pa_nil)) (pe_one ((ok_law_is_name T).pe (hr.mono (by decide)) (pa_cons (pe_ix ix_tup (pv 0) pe_int (fun _ _ => rfl)) pa_nil)))))))), ?_⟩
  refine ⟨_, rfl, x, _, _, _, _, rfl, .ty "tuple", hd.ty, kit_thing d, _, rfl, ite2 (fun e => ?_) (fun e => ?_)⟩
  · obtain ⟨a, xs, ds, rfl, rfl, ht, hall⟩ := hd.tup_of (of_decide_eq_true e)
    have fin : ∀ (b : Bool) H', b = isAdD (.tuple ds) → Evl.Ex H H' → Q (.bl b) H' := fun b H' hb he => by rw [hb]; exact k H' he
    have hlen := hall.len
    refine ⟨_, rfl, a, xs, rfl, .inr ht, rfl, _, rfl, ite2 (fun h1 => ?_) (fun h1 => ?_)⟩
    · have h2 : xs.length = 2 := by
        have := of_decide_eq_true h1
        injection this with this
        omega
      obtain ⟨d1, d2, rfl⟩ : ∃ d1 d2, ds = [d1, d2] := by
        rw [hlen] at h2
        match ds, h2 with
        | [d1, d2], _ => exact ⟨d1, d2, rfl⟩
      cases hall with
      | cons r1 hr =>
        cases hr with
        | cons r2 hr =>
          cases hr
          refine ⟨_, rfl, a, _, _, _, rfl, rfl, ht, rfl, _, d1, rfl, r1, hz _ rfl d1 (by simp), fun H1 e1 => ⟨_, rfl, ite2 (fun b1 => ?_) (fun b1 => ?_)⟩⟩
          · refine ⟨_, rfl, a, _, _, _, rfl, rfl, Evl.ex_t e1 ht, rfl, _, d2, rfl, Dr.ex e1 _ _ r2, hz _ rfl d2 (by simp), fun H2 e2 => fin _ _ ?_ (e1.trans e2)⟩
            show isNmD d2 = (isNmD d1 && isNmD d2)
            rw [b1, Bool.true_and]
          · refine fin _ _ ?_ e1
            show false = (isNmD d1 && isNmD d2)
            rw [Bool.eq_false_iff.mpr b1, Bool.false_and]
    · refine fin false H ?_ (Evl.Ex.refl H)
      have h2 : ¬ xs.length = 2 := fun q => h1 (decide_eq_true (by rw [q]; rfl))
      rw [hlen] at h2
      match ds, h2 with
      | [], _ => rfl
      | [_], _ => rfl
      | [_, _], h => exact absurd rfl h
      | _ :: _ :: _ :: _, _ => rfl
  · have e2 : isAdD d = false := isAdD_no fun q => e (decide_eq_true q)
    have := k H (Evl.Ex.refl H)
    rw [e2] at this
    exact this

end
end Lw

namespace Lw
open PySem PySem.Spec PyProof.Rows L2 TP
section
variable {P : Program} {w : World} {K : PySem.W.Frag} {mg : Str → Option Value} {base : Heap}

theorem near_no {z y : Str} (h : (z ++ ("\n" : Str)) = y) : isNm y = false := by
  subst h
  refine Bool.eq_false_iff.mpr fun q => ?_
  have hq := (isNm_iff.mp q).sg 10 (by rw [app_codes]; exact List.mem_append_right _ (by decide +kernel))
  have := LT_mem.mp hq
  omega
theorem body_law (T : TX K mg) (base : Heap) : BodyOkG P w K mg base 5 ["_law_script", "_law_cell", "_law_well_here", "_law_one_here", "_law_other", "_law_pair", "_law_good", "_law_some", "_law_thing_here", "_law_kept", "_law_found", "_law_near"] d_law (spLaw K) := by
  intro f cdv A outer s H vs Q E hg hr h
  obtain ⟨a, ns, rfl, hS, h63, hbits, k⟩ := h
  refine ⟨_, (pss_cons (ps_for PassesOwn.never rfl (pi_list (pe_op op_cat (pe_slice sl_list (pv 0) po_none (po_some pe_int)) (pe_lst (pa_cons pe_int (pa_cons pe_int pa_nil))))) (pg_name (i := 1) sc_law.nd rfl (by first | exact Or.inl rfl | exact Or.inr rfl))
      (pss_cons (ps_set (i := 2) sc_law.nd rfl (by first | exact Or.inl rfl | exact Or.inr rfl) ((ok_well T).pe (hr.mono (by decide)) (pa_cons (pv 1) pa_nil)))
    (pss_cons (ps_set (i := 3) sc_law.nd rfl (by first | exact Or.inl rfl | exact Or.inr rfl) ((ok_law_thing T).pe (hr.mono (by decide)) (pa_cons (pv 2) pa_nil)))
    (pss_cons (ps_set (i := 4) sc_law.nd rfl (by first | exact Or.inl rfl | exact Or.inr rfl) ((ok_law_thing T).pe (hr.mono (by decide)) (pa_cons (pv 2) pa_nil)))
    (pss_cons (ps_set (i := 5) sc_law.nd rfl (by first | exact Or.inl rfl | exact Or.inr rfl) (pe_tup (pa_cons (pv 3) (pa_cons (pv 4) pa_nil))))
    (pss_cons (ps_set (i := 6) sc_law.nd rfl (by first | exact Or.inl rfl | exact Or.inr rfl) (pe_tup (pa_cons ((ok_name T).pe (hr.mono (by decide)) (pa_cons (pv 2) pa_nil)) (pa_cons ((ok_name T).pe (hr.mono (by decide)) (pa_cons (pv 2) pa_nil)) pa_nil))))
    (pss_cons (ps_set (i := 7) sc_law.nd rfl (by first | exact Or.inl rfl | exact Or.inr rfl) (pe_lst (pa_cons (pv 3) (pa_cons (pv 4) (pa_cons (pv 5) (pa_cons (pe_lst (pa_cons (pv 3) (pa_cons (pv 4) pa_nil))) (pa_cons (pe_tup (pa_cons (pv 3) pa_nil)) (pa_cons (pe_tup (pa_cons (pv 3) (pa_cons (pv 4) (pa_cons (pv 3) pa_nil)))) (pa_cons (pv 6) (pa_cons (pe_op op_catA (pv 5) (pe_tup (pa_cons pe_non pa_nil))) pa_nil))))))))))
    (pss_cons (ps_for PassesOwn.never rfl (pi_list (pv 7)) (pg_name (i := 8) sc_law.nd rfl (by first | exact Or.inl rfl | exact Or.inr rfl))
      (pss_cons (ps_set (i := 9) sc_law.nd rfl (by first | exact Or.inl rfl | exact Or.inr rfl) (pe_callB (call_reprG (sysK T) hg hr.units) (by rfl) (f_repr T) (by decide +kernel) (pa_cons (pv 8) pa_nil)))
    (pss_cons (ps_set (i := 10) sc_law.nd rfl (by first | exact Or.inl rfl | exact Or.inr rfl) (pe_lst (pa_cons ((ok_is_name T).pe (hr.mono (by decide)) (pa_cons (pv 8) pa_nil)) (pa_cons ((ok_is_address T).pe (hr.mono (by decide)) (pa_cons (pv 8) pa_nil)) pa_nil))))
    (pss_cons (ps_if (PW.pt (pw_or (pt_cmpR (op_neD hr.units) (pv 10) (pe_lst (pa_cons ((ok_law_is_name T).pe (hr.mono (by decide)) (pa_cons (pv 8) pa_nil)) (pa_cons ((ok_law_is_address T).pe (hr.mono (by decide)) (pa_cons (pv 8) pa_nil)) pa_nil))) (nomark _)) (pw_or1 (pt_cmpR op_ne (pe_callB (call_reprG (sysK T) hg hr.units) (by rfl) (f_repr T) (by decide +kernel) (pa_cons (pv 8) pa_nil)) (pv 9) (nomark _)))))
      (pss_one (ps_ret pe_bl))
      pss_nil)
    (pss_one (ps_if (PW.pt (pw_or (pt_not (pt_val (pe_callB call_isi (by rfl) (f_isinstance T) (by decide +kernel) (pa_cons (pe_ix ix_list (pv 10) pe_int (fun _ _ => rfl)) (pa_cons (pe_gty (n := "bool") (f_bool T) (by decide +kernel)) pa_nil))))) (pw_or1 (pt_not (pt_val (pe_callB call_isi (by rfl) (f_isinstance T) (by decide +kernel) (pa_cons (pe_ix ix_list (pv 10) pe_int (fun _ _ => rfl)) (pa_cons (pe_gty (n := "bool") (f_bool T) (by decide +kernel)) pa_nil))))))))
      (pss_one (ps_ret pe_bl))
      pss_nil))))))
    (pss_cons (ps_set (i := 11) sc_law.nd rfl (by first | exact Or.inl rfl | exact Or.inr rfl) (pe_op op_add_str (pe_slice sl_str (pe_ix ix_tup (pv 6) pe_int (fun _ _ => rfl)) po_none (po_some pe_int)) pe_str))
    (pss_cons (ps_if (PW.pt (pw_or (pt_cmpR op_isnot_bl ((ok_is_name T).pe (hr.mono (by decide)) (pa_cons (pv 11) pa_nil)) pe_bl (nomark _)) (pw_or1 (pt_cmpR op_isnot_bl ((ok_is_address T).pe (hr.mono (by decide)) (pa_cons (pe_tup (pa_cons (pe_ix ix_tup (pv 6) pe_int (fun _ _ => rfl)) (pa_cons (pv 11) pa_nil))) pa_nil)) pe_bl (nomark _)))))
      (pss_one (ps_ret pe_bl))
      pss_nil)
    (pss_one (ps_if (pt_cmpR op_isnot_bl ((ok_is_address T).pe (hr.mono (by decide)) (pa_cons (pe_tup (pa_cons (pv 11) (pa_cons (pe_ix ix_tup (pv 6) pe_int (fun _ _ => rfl)) pa_nil))) pa_nil)) pe_bl (nomark _))
      (pss_one (ps_ret pe_bl))
      pss_nil))))))))))))
    (pss_one (ps_ret pe_bl))), ?_⟩
  refine ⟨_, rfl, _, rfl, a, _, rfl, hS, fun l1 hl1 => ⟨(by show 2 ≤ sizeLine; decide), fun l2 hl2 => ?_⟩⟩
  have n12 : l1 ≠ l2 := ne_of_none upd_same hl2
  refine ⟨l1, l2, _, _, rfl, rfl, Eq.trans (upd_ne n12) upd_same, upd_same, cells_len h63, fun l hl => ?_⟩
  refine ⟨l, rfl, ⟨_, SqL.of upd_same⟩, for_list (K := K) (a := l) (xs := cutV (ns.map V.int) none (some 20) ++ [.int 0, .int 1])
    (fun i σ H' => (∃ v1 v2 v3 v4 v5 v6 v7 v8 v9 v10 v11 : Option V, σ = [some (.ref a), v1, v2, v3, v4, v5, v6, v7, v8, v9, v10, v11]) ∧ H' l = some (.lst (cutV (ns.map V.int) none (some 20) ++ [.int 0, .int 1])))
    ⟨⟨_, _, _, _, _, _, _, _, _, _, _, rfl⟩, upd_same⟩ (fun i σ H' _ q => SqL.of q.2) ?_ ?_⟩
  rotate_left
  · rintro σ H' ⟨⟨v1, v2, v3, v4, v5, v6, v7, v8, v9, v10, v11, rfl⟩, hl'⟩
    exact k H'
  rintro i x σ H0 hx ⟨⟨v1, v2, v3, v4, v5, v6, v7, v8, v9, v10, v11, rfl⟩, hl0⟩
  obtain ⟨cell, rfl⟩ := cells_int hx
  -- the well, two things, two names
  refine ⟨_, rfl, cell, rfl, fun w1 H1 hw1 W1 e1 => ?_⟩
  refine ⟨_, rfl, w1, 0, rfl, W1, by omega, fun o1 d1 H2 r1 t1 p1 D1 => ?_⟩
  refine ⟨_, rfl, w1, 50, rfl, D1.wl, by omega, fun o2 d2 H3 r2 t2 p2 D2 => ?_⟩
  refine ⟨_, rfl, _, rfl, (by show 2 ≤ sizeLine; decide), fun p hp => ?_⟩
  have np : p ≠ w1 := D2.wl.nep hp
  refine ⟨_, rfl, w1, 100, rfl, D2.wl.new hp, by omega, fun z1 H4 hz1 D3 => ?_⟩
  refine ⟨_, rfl, w1, 120, rfl, D3.wl, by omega, fun z2 H5 hz2 D4 => ?_⟩
  refine ⟨(by show 2 ≤ sizeLine; decide), fun g hg5 => ?_⟩
  have x0 := Evl.Ex.new (o := .tup [.str z1, .str z2]) hg5
  -- the row of all things
  refine ⟨_, rfl, _, rfl, _, rfl, _, rfl, _, rfl, (by show 2 ≤ sizeLine; decide), fun q1 hq1 => ?_⟩
  have x1 := Evl.Ex.new (o := .lst [o1, o2]) hq1
  refine ⟨_, rfl, (by show 1 ≤ sizeLine; decide), fun q2 hq2 => ?_⟩
  have x2 := Evl.Ex.new (o := .tup [o1]) hq2
  refine ⟨_, rfl, _, rfl, _, rfl, (by show 3 ≤ sizeLine; decide), fun q3 hq3 => ?_⟩
  have x3 := Evl.Ex.new (o := .tup [o1, o2, o1]) hq3
  refine ⟨_, rfl, _, rfl, (by show 1 ≤ sizeLine; decide), fun q4 hq4 => ?_⟩
  have x4 := Evl.Ex.new (o := .tup [.non]) hq4
  have xp := x0.trans (x1.trans (x2.trans (x3.trans x4)))
  have hp5 : H5 p = some (.tup [o1, o2]) := D4.k p _ np (D3.k p _ np upd_same)
  refine ⟨p, q4, [o1, o2], [.non], rfl, rfl, SqT.of (xp p _ hp5), SqT.of upd_same, (by show 2 + 1 ≤ sizeLine; decide), fun z => (nomatch z), fun _ z => (nomatch z), fun _ _ q5 hq5 => ?_⟩
  have x5 := Evl.Ex.new (o := .tup [o1, o2, .non]) hq5
  refine ⟨(by show 8 ≤ sizeLine; decide), fun q6 hq6 => ?_⟩
  have x6 := Evl.Ex.new (o := .lst [o1, o2, .ref p, .ref q1, .ref q2, .ref q3, .ref g, .ref q5]) hq6
  have xz := xp.trans (x5.trans x6)
  generalize hH6 : upd _ q6 (.lst [o1, o2, .ref p, .ref q1, .ref q2, .ref q3, .ref g, .ref q5]) = H6 at *
  have R1 : Dr K H6 o1 d1 := Dr.ex ((((D2.hx.trans (hid_new hp)).trans (D3.hx.trans D4.hx)).trans hid_ex).trans xz) _ _ r1
  have R2 : Dr K H6 o2 d2 := Dr.ex ((((hid_new hp)).trans (D3.hx.trans D4.hx)).trans (hid_ex.trans xz)) _ _ r2
  have gp : H6 p = some (.tup [o1, o2]) := xz p _ hp5
  have gq1 : H6 q1 = some (.lst [o1, o2]) := (x2.trans (x3.trans (x4.trans (x5.trans x6)))) q1 _ upd_same
  have gq2 : H6 q2 = some (.tup [o1]) := (x3.trans (x4.trans (x5.trans x6))) q2 _ upd_same
  have gq3 : H6 q3 = some (.tup [o1, o2, o1]) := (x4.trans (x5.trans x6)) q3 _ upd_same
  have gq5 : H6 q5 = some (.tup [o1, o2, .non]) := x6 q5 _ upd_same
  have gg : H6 g = some (.tup [.str z1, .str z2]) := ((x1.trans (x2.trans (x3.trans (x4.trans (x5.trans x6))))) g _ upd_same)
  have gq6 : H6 q6 = some (.lst [o1, o2, .ref p, .ref q1, .ref q2, .ref q3, .ref g, .ref q5]) := by rw [← hH6]; exact upd_same
  have DA : DrAll K H6 [o1, o2, .ref p, .ref q1, .ref q2, .ref q3, .ref g, .ref q5] [d1, d2, .tuple [d1, d2], .list [d1, d2], .tuple [d1], .tuple [d1, d2, d1], .tuple [.str z1, .str z2], .tuple [d1, d2, .none]] :=
    .cons R1 (.cons R2 (.cons (.tup (SqT.of gp) (.cons R1 (.cons R2 .nil))) (.cons (.lst (SqL.of gq1) (.cons R1 (.cons R2 .nil))) (.cons (.tup (SqT.of gq2) (.cons R1 .nil)) (.cons (.tup (SqT.of gq3) (.cons R1 (.cons R2 (.cons R1 .nil))))
      (.cons (.tup (SqT.of gg) (.cons (.str z1) (.cons (.str z2) .nil))) (.cons (.tup (SqT.of gq5) (.cons R1 (.cons R2 (.cons .non .nil)))) .nil)))))))
  have s1 := t1.sm
  have s2 := t2.sm
  have TH : ∀ d ∈ [d1, d2, .tuple [d1, d2], .list [d1, d2], .tuple [d1], .tuple [d1, d2, d1], .tuple [.str z1, .str z2], .tuple [d1, d2, .none]], ThP 5000 d := by
    have w1 := s1.wt
    have w2 := s2.wt
    have u1 := (Sm.str hz1.as).wt
    have u2 := (Sm.str hz2.as).wt
    have a1 := s1.sh
    have a2 := s2.sh
    intro d hd
    simp only [List.mem_cons, List.not_mem_nil, or_false] at hd
    rcases hd with rfl | rfl | rfl | rfl | rfl | rfl | rfl | rfl
    · exact t1.mono (by decide)
    · exact t2.mono (by decide)
    · exact (ThP.tup2 t1 t2 (by omega) (by omega)).mono (by decide)
    · exact ⟨⟨by simp [PyData.showable, PyData.showableAll, a1, a2], by simp only [wt, wtAll]; omega, by simp only [PyData.depth, PyData.depthAll]; omega⟩, fun _ e => (nomatch e), fun _ e => nomatch e⟩
    · exact ⟨⟨by simp [PyData.showable, PyData.showableAll, a1, a2], by simp only [wt, wtAll]; omega, by simp only [PyData.depth, PyData.depthAll]; omega⟩, fun _ e => (nomatch e), fun ds e d hd => by cases e; have q : d = d1 := (by simpa using hd); rw [q]; exact t1.sh⟩
    · refine ⟨⟨by simp [PyData.showable, PyData.showableAll, a1, a2], by simp only [wt, wtAll]; omega, by simp only [PyData.depth, PyData.depthAll]; omega⟩, fun _ e => (nomatch e), fun ds e d hd => ?_⟩
      cases e
      simp only [List.mem_cons, List.not_mem_nil, or_false] at hd
      rcases hd with rfl | rfl | rfl
      · exact t1.sh
      · exact t2.sh
      · exact t1.sh
    · exact (ThP.tup2 (ThP.str hz1.as (by decide)) (ThP.str hz2.as (by decide)) (by simp [PyData.depth]) (by simp [PyData.depth])).mono (by decide)
    · refine ⟨⟨by simp [PyData.showable, PyData.showableAll, a1, a2], by simp only [wt, wtAll]; omega, by simp only [PyData.depth, PyData.depthAll]; omega⟩, fun _ e => (nomatch e), fun ds e d hd => ?_⟩
      cases e
      simp only [List.mem_cons, List.not_mem_nil, or_false] at hd
      rcases hd with rfl | rfl | rfl
      · exact t1.sh
      · exact t2.sh
      · exact fun _ e => nomatch e
  have hl6 : H6 l = some (.lst (cutV (ns.map V.int) none (some 20) ++ [.int 0, .int 1])) := by
    have nl : l ≠ w1 := ne_of_none hl0 hw1
    exact xz l _ (D4.k l _ nl (D3.k l _ nl (by rw [upd_ne (ne_of_none (D2.k l _ nl (D1.k l _ nl (e1 l _ hl0))) hp)]; exact D2.k l _ nl (D1.k l _ nl (e1 l _ hl0)))))
  clear hH6 x0 x1 x2 x3 x4 x5 x6 xp xz hq1 hq2 hq3 hq4 hq5 hq6
  refine ⟨_, rfl, q6, rfl, ⟨_, SqL.of gq6⟩, for_list (K := K) (a := q6) (xs := [o1, o2, .ref p, .ref q1, .ref q2, .ref q3, .ref g, .ref q5])
    (fun j σ H' => (∃ u8 u9 u10 u11 : Option V, σ = [some (.ref a), some (.int cell), some (.ref w1), some o1, some o2, some (.ref p), some (.ref g), some (.ref q6), u8, u9, u10, u11]) ∧ Evl.Ex H6 H')
    ⟨⟨_, _, _, _, rfl⟩, Evl.Ex.refl _⟩ (fun j σ H' _ q => SqL.of (q.2 _ _ gq6)) ?_ ?_⟩
  · rintro j y σ H7 hy ⟨⟨u8, u9, u10, u11, rfl⟩, e7⟩
    obtain ⟨d, hd, hr0⟩ := DrAll.at DA hy
    have ht := TH d (List.mem_of_getElem? hd)
    have hr7 := Dr.ex e7 _ _ hr0
    have rp := ht.sm.rp
    refine ⟨_, rfl, _, d, rfl, hr7, rp.1, rp.2.1, rp.2.2, ?_⟩
    refine ⟨_, rfl, _, d, rfl, hr7, fun z e => (ht.sh z e).len, fun H8 e8 => ?_⟩
    refine ⟨_, rfl, _, d, rfl, Dr.ex e8 _ _ hr7, fun ds e x hx z hz => (ht.sa ds e x hx z hz).len, fun H9 e9 => ⟨(by show 2 ≤ sizeLine; decide), fun f1 hf1 => ?_⟩⟩
    have f9 := Evl.Ex.new (o := .lst [.bl (isNmD d), .bl (isAdD d)]) hf1
    have e79 := e8.trans (e9.trans f9)
    refine ⟨_, rfl, _, rfl, _, d, rfl, Dr.ex e79 _ _ hr7, ht.sh, fun H10 e10 => ?_⟩
    refine ⟨_, rfl, _, d, rfl, Dr.ex (e79.trans e10) _ _ hr7, ht.sa, fun H11 e11 => ⟨(by show 2 ≤ sizeLine; decide), fun f2 hf2 => ?_⟩⟩
    have f11 := Evl.Ex.new (o := .lst [.bl (isNmD d), .bl (isAdD d)]) hf2
    have gf1 := (e10.trans (e11.trans f11)) f1 _ upd_same
    refine ⟨_, _, .lst (SqL.of gf1) (.cons (.bl _) (.cons (.bl _) .nil)), .lst (SqL.of upd_same) (.cons (.bl _) (.cons (.bl _) .nil)), rfl, rfl, _, rfl, ?_⟩
    have ev : PyData.eqv (.list [.bool (isNmD d), .bool (isAdD d)]) (.list [.bool (isNmD d), .bool (isAdD d)]) = true := by
      show ((isNmD d == isNmD d) && ((isAdD d == isAdD d) && true)) = true
      simp
    rw [ev]
    refine iteF ?_
    have e711 := e79.trans (e10.trans (e11.trans f11))
    refine ⟨_, rfl, _, d, rfl, Dr.ex e711 _ _ hr7, rp.1, rp.2.1, rp.2.2, ?_⟩
    refine ⟨_, rfl, rfl, _, rfl, iteNS rfl ?_⟩
    refine ⟨_, rfl, f1, _, _, _, rfl, rfl, SqL.of gf1, rfl, _, _, _, _, _, rfl, .ty "bool", .base (.bl _), kit_ty (r := true) (by decide +kernel), _, rfl, iteF ?_⟩
    refine ⟨_, rfl, f1, _, _, _, rfl, rfl, SqL.of gf1, rfl, _, _, _, _, _, rfl, .ty "bool", .base (.bl _), kit_ty (r := true) (by decide +kernel), _, rfl, iteF ?_⟩
    exact ⟨⟨_, _, _, _, rfl⟩, e7.trans e711⟩
  · rintro σ H7 ⟨⟨u8, u9, u10, u11, rfl⟩, e7⟩
    have gg7 := e7 _ _ gg
    have c1 := hz1.as.cut none (some 7)
    have an : As 9 (cutS z1 none (some 7) ++ ("\n" : Str)) := c1.app (C := 1) ⟨by decide +kernel, by decide +kernel⟩
    have hno : isNm (cutS z1 none (some 7) ++ ("\n" : Str)) = false := near_no rfl
    refine ⟨_, rfl, g, _, _, _, rfl, rfl, SqT.of gg7, rfl, _, rfl, z1, rfl, hz1.as.size (by decide), _, _, rfl, rfl, ?_, ?_⟩
    · have := an.size (by decide)
      rw [strLen_append] at this
      exact this
    generalize hy : (cutS z1 none (some 7) ++ ("\n" : Str)) = y at an hno
    refine ⟨_, rfl, _, .str y, rfl, .str y, fun z e => by cases e; exact Nat.le_trans an.len (by decide), fun H8 e8 => ?_⟩
    have gg8 := e8 _ _ gg7
    refine ⟨_, _, rfl, rfl, _, rfl, ?_⟩
    rw [show isNmD (.str y) = false from hno]
    refine iteF ?_
    refine ⟨_, rfl, g, _, _, _, rfl, rfl, SqT.of gg8, rfl, _, rfl, (by show 2 ≤ sizeLine; decide), fun f1 hf1 => ?_⟩
    have x1 := Evl.Ex.new (o := .tup [.str z1, .str y]) hf1
    have sh : ∀ ds, PyData.tuple [.str z1, .str y] = .tuple ds → ∀ e ∈ ds, ∀ z, e = .str z → z.length ≤ 1000000 := fun ds e x hx z hz => by
      cases e
      cases hz
      simp only [List.mem_cons, List.not_mem_nil, or_false, PyData.str.injEq] at hx
      rcases hx with rfl | rfl
      · exact Nat.le_trans hz1.hi (by decide)
      · exact Nat.le_trans an.len (by decide)
    refine ⟨_, .tuple [.str z1, .str y], rfl, .tup (SqT.of upd_same) (.cons (.str _) (.cons (.str _) .nil)), sh, fun H9 e9 => ?_⟩
    refine ⟨_, _, rfl, rfl, _, rfl, ?_⟩
    rw [show isAdD (.tuple [.str z1, .str y]) = false by show (isNm z1 && isNm y) = false; rw [hno, Bool.and_false]]
    refine iteF ?_
    have gg9 := e9 _ _ (x1 _ _ gg8)
    refine ⟨_, rfl, _, rfl, g, _, _, _, rfl, rfl, SqT.of gg9, rfl, (by show 2 ≤ sizeLine; decide), fun f2 hf2 => ?_⟩
    have x2 := Evl.Ex.new (o := .tup [.str y, .str z2]) hf2
    have sh2 : ∀ ds, PyData.tuple [.str y, .str z2] = .tuple ds → ∀ e ∈ ds, ∀ z, e = .str z → z.length ≤ 1000000 := fun ds e x hx z hz => by
      cases e
      cases hz
      simp only [List.mem_cons, List.not_mem_nil, or_false, PyData.str.injEq] at hx
      rcases hx with rfl | rfl
      · exact Nat.le_trans an.len (by decide)
      · exact Nat.le_trans hz2.hi (by decide)
    refine ⟨_, .tuple [.str y, .str z2], rfl, .tup (SqT.of upd_same) (.cons (.str _) (.cons (.str _) .nil)), sh2, fun H10 e10 => ?_⟩
    refine ⟨_, _, rfl, rfl, _, rfl, ?_⟩
    rw [show isAdD (.tuple [.str y, .str z2]) = false by show (isNm y && isNm z2) = false; rw [hno, Bool.false_and]]
    refine iteF ?_
    exact ⟨⟨_, _, _, _, _, _, _, _, _, _, _, rfl⟩, e10 _ _ (x2 _ _ (e9 _ _ (x1 _ _ (e8 _ _ (e7 _ _ hl6)))))⟩
end
abbrev Rw : PySem.W.OpenRow := PySem.W.OpenLaw.row PySem.Challenge.rw_trailpost_k01_names_of_anything
def loose0 : List Str := ["LETTERS", "MOST_LETTERS", "is_name", "is_address", "_law_well", "_law_draw", "_law_one", "_law_name", "_law_names", "_law_signs", "_law_thing", "_law_is_name", "_law_is_address"]
def loose : List Str := loose0
abbrev hk : PySem.W.Hook := hookM 6 fa fn ex
def ob (s : PySem.W.SharedT) : AlM := obsM 6 fa fn ex (HandSHeadRun.getT s)
theorem ob_eq (s : PySem.W.SharedT) : ob s = hk.obs s.abs := obsM_eq (HandSHeadRun.getT_eq s)
theorem run (w : World) : HandSHeadRun.RunEq Rw (PySem.W.view Rw.prog [15]) hk ob 1500 loose w := by
  intro os
  kernel_rfl
theorem law_ok (w : World) (mg : Str → Option Value) (K : PySem.W.Frag) (T : TX K mg) : ∃ fd : FuncData, mg "law" = some (.ref (He.ga K "law")) ∧ (∀ (s : Shared) (u : Value), BindsTo s fd ⟨[u], []⟩ [("_law_script", u)]) ∧
    ∀ base : Heap, FnG PySem.Challenge.pw_trailpost_k01_names_of_anything w K mg base CX0 (5 + 1) (He.ga K "law") fd ["_law_script"] (spLaw K) := by
  obtain ⟨fd, hb, hF⟩ := law_fd (P := PySem.Challenge.pw_trailpost_k01_names_of_anything) (w := w) (mg := mg) (sp := spLaw K) (x := "_law_script") (D_law T) sc_law rfl (fun _ _ _ _ _ _ us hl => match us, hl with | [_], _ => rfl) (fun vs H Q E h => by obtain ⟨a, ns, rfl, _⟩ := h; rfl) (fun base => body_law T base)
  exact ⟨fd, g_law T, hb, hF⟩
end Lw
open PySem PySem.W PySem.Calls PyProof.Rows
theorem PySem.Challenge.cw_trailpost_k01_names_of_anything_holds : PySem.Challenge.rw_trailpost_k01_names_of_anything.Holds := by
  w_on; o_law
  refine HandSHeadRun.head_any (r := OpenLaw.row PySem.Challenge.rw_trailpost_k01_names_of_anything) (q := view (OpenLaw.row PySem.Challenge.rw_trailpost_k01_names_of_anything).prog [15]) (H := Lw.hk) (ob := Lw.ob) (M := 1500) (loose := Lw.loose) (d := HandSHeadRun.topDef (OpenLaw.row PySem.Challenge.rw_trailpost_k01_names_of_anything).prog 15) (kwd := []) Lw.ob_eq
    (by kernel_rfl) (fun s => by kernel_rfl) Lw.run (by kernel_rfl) (by kernel_rfl) (by kernel_rfl) (by rfl) (by first | assumption | decide +kernel) (by decide +kernel) ⟨rfl, rfl, rfl, rfl, rfl, by decide +kernel⟩ ?hw ?hc
  case hw => w_witness2
  case hc => exact TP.walkM (l := PySem.Challenge.rw_trailpost_k01_names_of_anything) (x := "_law_script") rfl (by kernel_rfl) ⟨rfl, by decide, by decide⟩ (by kernel_rfl) (fun w mg K T => Lw.law_ok w mg K T)
